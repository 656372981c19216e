/- FnExactPlaceOk: for every argument the law returns true, and each argument reads behind the call as it read before; no condition. Part 3 of 6: written together by a program out of the session's texts and what the print wrote. -/
import Derived.WalkSpells
import Derived.Test.YtcgbbhkjkkpfoaaCFnExactPlaceOka1
set_option linter.unusedVariables false
set_option linter.unusedSimpArgs false
set_option maxHeartbeats 16000000
set_option maxRecDepth 100000
namespace Go.Proofs.Ytcgbbhkjkkpfoaa.P
open Go.RowKit Go.Proofs.YtcgbbhkjkkpfoaaW.PrintWords Go.Proofs.YtcgbbhkjkkpfoaaW.PrintLast Go.Proofs.YtcgbbhkjkkpfoaaW.PrintMore
attribute [local go_sem] max2_int min2_int max_two min_two max_three min_three max_four min_four
attribute [local go_sem high] eqA40
mutual
def spec_l1Step.l0 : Nat → Int → Int → Int → Int → Int → Int → Int → Int → Int → List Int → Option (Bool)
 | 0, _, _, _, _, _, _, _, _, _, _ => none
 | k + 1, x1, x5, x114000, x114001, x114002, x114003, x114004, x114005, x114006, x114007 => if x5 < (x114007.length : Int) then (if 0 ≤ x5 then ((spec_l6In.f (rd x114007 x5) 0 (wrap64 (x1 - 1))).bind fun t116 => (if t116 = true then (spec_l1Step.l0 k x1 (wrap64 (x5 + 1)) x114000 x114001 x114002 x114003 x114004 x114005 x114006 x114007) else (some false))) else (none)) else (if x114000 = 1 then (spec_l1Step.j1 k true x114000 x114001 x114002 x114003 x114004 x114005 x114006 x114007 0 0) else (if x114000 = 2 then (spec_l1Step.j1 k true x114000 x114001 x114002 x114003 x114004 x114005 x114006 x114007 0 0) else (spec_l1Step.j1 k (x114000 == 3) x114000 x114001 x114002 x114003 x114004 x114005 x114006 x114007 0 0)))
def spec_l1Step.j1 : Nat → Bool → Int → Int → Int → Int → Int → Int → Int → List Int → Int → Int → Option (Bool)
 | 0, _, _, _, _, _, _, _, _, _, _, _ => none
 | k + 1, x7, x114000, x114001, x114002, x114003, x114004, x114005, x114006, x114007, x118000, x118001 => if x7 = true then ((spec_l6In.f x114001 0 11).bind fun t118 => (if t118 = true then (spec_l1Step.j2 k false x114000 x114001 x114002 x114003 x114004 x114005 x114006 x114007 x118000 x118001) else (spec_l1Step.j2 k true x114000 x114001 x114002 x114003 x114004 x114005 x114006 x114007 x118000 x118001))) else (spec_l1Step.j2 k (x114001 != 0) x114000 x114001 x114002 x114003 x114004 x114005 x114006 x114007 x118000 x118001)
def spec_l1Step.j2 : Nat → Bool → Int → Int → Int → Int → Int → Int → Int → List Int → Int → Int → Option (Bool)
 | 0, _, _, _, _, _, _, _, _, _, _, _ => none
 | k + 1, x60, x114000, x114001, x114002, x114003, x114004, x114005, x114006, x114007, x118000, x118001 => if x60 = true then (some false) else (if x114000 = 1 then ((spec_l6In.f x114002 1 4).bind fun t119 => (if t119 = true then ((spec_l1Opnd.f x114003 x114004).bind fun t120 => (if t120 = true then ((spec_l1Opnd.f x114005 x114006).bind fun t121 => (some t121)) else (some false))) else (some false))) else (if x114000 = 2 then (if x114002 = 0 then ((spec_l1Opnd.f x114003 x114004).bind fun t122 => (if t122 = true then (some (x114005 == x118000 && (x114006 == x118001))) else (some false))) else (some false)) else (if x114000 = 4 then (if x114002 = 0 then ((spec_l1Opnd.f x114003 x114004).bind fun t123 => (if t123 = true then (some (x114005 == x118000 && (x114006 == x118001))) else (some false))) else (some false)) else (if x114000 = 5 then (if x114002 = 0 then ((spec_l1Opnd.f x114003 x114004).bind fun t124 => (if t124 = true then (some (x114005 == x118000 && (x114006 == x118001))) else (some false))) else (some false)) else (if x114002 = 0 then (if (x114003 == x118000 && (x114004 == x118001)) = true then (some (x114005 == x118000 && (x114006 == x118001))) else (some false)) else (some false))))))
end
def spec_l1Step.f (k : Nat) (a0_0 : Int) (a0_1 : Int) (a0_2 : Int) (a0_3 : Int) (a0_4 : Int) (a0_5 : Int) (a0_6 : Int) (l0_7 : List Int) (a1 : Int) : Option (Bool) := (spec_l1Many.f a0_0).bind fun t114 => (if (l0_7.length : Int) = t114 then (spec_l1Step.l0 k a1 0 a0_0 a0_1 a0_2 a0_3 a0_4 a0_5 a0_6 l0_7) else (some false))
theorem spec_l1Step.calls (k : Nat) (a0_0 : Int) (a0_1 : Int) (a0_2 : Int) (a0_3 : Int) (a0_4 : Int) (a0_5 : Int) (a0_6 : Int) (A0_7 : Option Addr) (c0_7 : Nat) (l0_7 : List Int) (a1 : Int) (r : Bool) (w : World) (hr0_7 : Kd.C (Kd.int .i64) w A0_7 l0_7.length l0_7) (hc0_7 : l0_7.length ≤ c0_7) (h : spec_l1Step.f k a0_0 a0_1 a0_2 a0_3 a0_4 a0_5 a0_6 l0_7 a1 = some r) :
  Calls Try.prog 110 #[.agg #[.int .i64 a0_0, .int .i64 a0_1, .int .i64 a0_2, .int .i64 a0_3, .int .i64 a0_4, .int .i64 a0_5, .int .i64 a0_6, .slice A0_7 l0_7.length c0_7], .int .i64 a1] w fun e w' => e = .returned (.bool r) ∧ Below w.heap.size w w' := by
 have hu77 := Try.underlying77
 have hu40 := Try.underlying40
 have HR0_7 := Aside0.mk hr0_7
 have HC0_7 := Aside0.mk hc0_7
 clear hr0_7 hc0_7
 have HB := Aside0.mk (Below.refl w.heap.size w)
 have H : ((spec_l1Many.f a0_0).bind fun t114 => (if (l0_7.length : Int) = t114 then (spec_l1Step.l0 k a1 0 a0_0 a0_1 a0_2 a0_3 a0_4 a0_5 a0_6 l0_7) else (some false))) = some r := h
 clear h
 replace H := Option.bind_eq_some_iff.mp H
 obtain ⟨t114, A30, H⟩ := H
 have A3 := Aside0.mk A30
 clear A30
 by_cases c4 : (l0_7.length : Int) = t114
 ·rw [if_pos c4] at H
  have c4b0 : ((l0_7.length : Int) == t114) = true := beq_iff_eq.mpr c4
  have c4b1 : ((l0_7.length : Int) != t114) = false := bne_eq_false_iff_eq.mpr c4
  clear c4
  have H' := Aside0.mk H
  clear H
  go_enter Try.func110, Try.ntmps110
  go_wp2_with (first | ((with_reducible refine gate_dst (N := 2) rfl ?_); refine bxe (cs := #[.int .i64 a0_0, .int .i64 a0_1, .int .i64 a0_2, .int .i64 a0_3, .int .i64 a0_4, .int .i64 a0_5, .int .i64 a0_6, .slice A0_7 l0_7.length c0_7]) (t := 77) ?_; intro gb113 hg w5 hbox hb; have BK113 := Aside0.mk (hbox); have GW113 := bwz HB hg; have GE113 := bwz HB hg; replace HB := bwb HB hb; clear hb hbox hg; obtain ⟨hcz6, hfz6⟩ := bcf BK113) | (go_at_call 129; (with_reducible refine (spec_l1Many.calls a0_0 t114 _ A3.out).mono ?_); rintro e w' ⟨rfl, ⟨nd, rfl⟩⟩; (try first | exact ⟨rfl, _, World.drewN_drewN _ _ _⟩ | exact ⟨rfl, _, Eq.trans (World.drewN_drewN _ _ _) (congrArg (World.drewN _) (Nat.add_assoc _ _ _))⟩)))
  repeat (go_quiet (first | ((with_reducible refine gate_dst (N := 2) rfl ?_); refine bxe (cs := #[.int .i64 a0_0, .int .i64 a0_1, .int .i64 a0_2, .int .i64 a0_3, .int .i64 a0_4, .int .i64 a0_5, .int .i64 a0_6, .slice A0_7 l0_7.length c0_7]) (t := 77) ?_; intro gb113 hg w5 hbox hb; have BK113 := Aside0.mk (hbox); have GW113 := bwz HB hg; have GE113 := bwz HB hg; replace HB := bwb HB hb; clear hb hbox hg; obtain ⟨hcz6, hfz6⟩ := bcf BK113) | (go_at_call 129; (with_reducible refine (spec_l1Many.calls a0_0 t114 _ A3.out).mono ?_); rintro e w' ⟨rfl, ⟨nd, rfl⟩⟩; (try first | exact ⟨rfl, _, World.drewN_drewN _ _ _⟩ | exact ⟨rfl, _, Eq.trans (World.drewN_drewN _ _ _) (congrArg (World.drewN _) (Nat.add_assoc _ _ _))⟩))); try go_wp2_with (first | ((with_reducible refine gate_dst (N := 2) rfl ?_); refine bxe (cs := #[.int .i64 a0_0, .int .i64 a0_1, .int .i64 a0_2, .int .i64 a0_3, .int .i64 a0_4, .int .i64 a0_5, .int .i64 a0_6, .slice A0_7 l0_7.length c0_7]) (t := 77) ?_; intro gb113 hg w5 hbox hb; have BK113 := Aside0.mk (hbox); have GW113 := bwz HB hg; have GE113 := bwz HB hg; replace HB := bwb HB hb; clear hb hbox hg) | (go_at_call 129; (with_reducible refine (spec_l1Many.calls a0_0 t114 _ A3.out).mono ?_); rintro e w' ⟨rfl, ⟨nd, rfl⟩⟩; (try first | exact ⟨rfl, _, World.drewN_drewN _ _ _⟩ | exact ⟨rfl, _, Eq.trans (World.drewN_drewN _ _ _) (congrArg (World.drewN _) (Nat.add_assoc _ _ _))⟩))))
  go_loopg [5] k (fun kq v5 w' => ∃ (x5_1 : Int), v5 = .int .i64 x5_1 ∧ Aside0 (spec_l1Step.l0 kq a1 x5_1 a0_0 a0_1 a0_2 a0_3 a0_4 a0_5 a0_6 l0_7 = some r) ∧ Aside0 (kq ≤ k) ∧ Aside0 (w'.heap[gb113]? = some (.cells #[.int .i64 a0_0, .int .i64 a0_1, .int .i64 a0_2, .int .i64 a0_3, .int .i64 a0_4, .int .i64 a0_5, .int .i64 a0_6, (.slice A0_7 l0_7.length c0_7)] 77 (0, 0))) ∧ Aside0 (Below w.heap.size w w'))
  case atStart => exact ⟨(0), (by first | rfl | (simp; done) | (simp [*]; done)), H', ⟨Nat.le_refl _⟩, ⟨bkq BK113⟩, ⟨bwq HB⟩⟩
  case round =>
   clear H'
   try clear c1
   try clear p2
   try clear c4
   try clear c4b0
   try clear c4b1
   try clear hcz6
   try clear hfz6
   obtain ⟨x5_1, rfl, HA, HK1, BK113, HB⟩ := hrel
   cases gk with
   | zero => exact absurd HA.out (by intro h_; first | (cases h_; done) | (simp [spec_l1Step.l0] at h_))
   | succ k1 =>
    have H := HA.out
    clear HA
    simp only [spec_l1Step.l0] at H
    by_cases c7 : x5_1 < (l0_7.length : Int)
    ·rw [if_pos c7] at H
     have c7b0 : decide (x5_1 < (l0_7.length : Int)) = true := decide_eq_true c7
     clear c7
     by_cases c8 : 0 ≤ x5_1
     ·rw [if_pos c8] at H
      have c8b0 : decide (0 ≤ x5_1) = true := decide_eq_true c8
      clear c8
      replace H := Option.bind_eq_some_iff.mp H
      obtain ⟨t116, A90, H⟩ := H
      have A9 := Aside0.mk A90
      clear A90
      by_cases c10 : t116 = true
      ·subst c10
       rw [if_pos rfl] at H
       have H' := Aside0.mk H
       clear H
       obtain ⟨hcz11, hfz11⟩ := bcf BK113
       have p115 : 0 ≤ (x5_1 : Int) := oda
       have q115 : x5_1 < (l0_7.length : Int) := oda
       obtain ⟨ad115, e115, hx115_0⟩ := Kd.at_int HR0_7.out x5_1 p115 q115
       cases e115
       replace hx115_0 := hxb HB hx115_0
       replace p115 := eq_true p115
       replace q115 := eq_true q115
       go_wp2_with (first | (go_at_call 77; (with_reducible refine (spec_l6In.calls (rd l0_7 x5_1) 0 (wrap64 (a1 - 1)) true _ A9.out).mono ?_); rintro e w' ⟨rfl, ⟨nd, rfl⟩⟩; (try first | exact ⟨rfl, _, World.drewN_drewN _ _ _⟩ | exact ⟨rfl, _, Eq.trans (World.drewN_drewN _ _ _) (congrArg (World.drewN _) (Nat.add_assoc _ _ _))⟩)))
       repeat (go_quiet (first | (go_at_call 77; (with_reducible refine (spec_l6In.calls (rd l0_7 x5_1) 0 (wrap64 (a1 - 1)) true _ A9.out).mono ?_); rintro e w' ⟨rfl, ⟨nd, rfl⟩⟩; (try first | exact ⟨rfl, _, World.drewN_drewN _ _ _⟩ | exact ⟨rfl, _, Eq.trans (World.drewN_drewN _ _ _) (congrArg (World.drewN _) (Nat.add_assoc _ _ _))⟩))); try go_wp2_with (first | (go_at_call 77; (with_reducible refine (spec_l6In.calls (rd l0_7 x5_1) 0 (wrap64 (a1 - 1)) true _ A9.out).mono ?_); rintro e w' ⟨rfl, ⟨nd, rfl⟩⟩; (try first | exact ⟨rfl, _, World.drewN_drewN _ _ _⟩ | exact ⟨rfl, _, Eq.trans (World.drewN_drewN _ _ _) (congrArg (World.drewN _) (Nat.add_assoc _ _ _))⟩))))
       go_roundg k1
       case measure => have := HK1.out; omega
       case rel => exact ⟨(wrap64 (x5_1 + 1)), (by first | rfl | (simp; done) | (simp [*]; done)), H', ⟨by have := HK1.out; omega⟩, ⟨bkq BK113⟩, ⟨bwq HB⟩⟩
      ·replace c10 := Bool.eq_false_iff.mpr c10
       subst c10
       have H1 : (some false) = some r := by rw [if_neg (show ¬ (false = true) by decide)] at H; exact H
       clear H
       have H := H1
       clear H1
       obtain rfl := Option.some.inj H
       obtain ⟨hcz12, hfz12⟩ := bcf BK113
       have p115 : 0 ≤ (x5_1 : Int) := oda
       have q115 : x5_1 < (l0_7.length : Int) := oda
       obtain ⟨ad115, e115, hx115_0⟩ := Kd.at_int HR0_7.out x5_1 p115 q115
       cases e115
       replace hx115_0 := hxb HB hx115_0
       replace p115 := eq_true p115
       replace q115 := eq_true q115
       go_wp2_with (first | (go_at_call 77; (with_reducible refine (spec_l6In.calls (rd l0_7 x5_1) 0 (wrap64 (a1 - 1)) false _ A9.out).mono ?_); rintro e w' ⟨rfl, ⟨nd, rfl⟩⟩; (try first | exact ⟨rfl, _, World.drewN_drewN _ _ _⟩ | exact ⟨rfl, _, Eq.trans (World.drewN_drewN _ _ _) (congrArg (World.drewN _) (Nat.add_assoc _ _ _))⟩)))
       repeat (go_quiet (first | (go_at_call 77; (with_reducible refine (spec_l6In.calls (rd l0_7 x5_1) 0 (wrap64 (a1 - 1)) false _ A9.out).mono ?_); rintro e w' ⟨rfl, ⟨nd, rfl⟩⟩; (try first | exact ⟨rfl, _, World.drewN_drewN _ _ _⟩ | exact ⟨rfl, _, Eq.trans (World.drewN_drewN _ _ _) (congrArg (World.drewN _) (Nat.add_assoc _ _ _))⟩))); try go_wp2_with (first | (go_at_call 77; (with_reducible refine (spec_l6In.calls (rd l0_7 x5_1) 0 (wrap64 (a1 - 1)) false _ A9.out).mono ?_); rintro e w' ⟨rfl, ⟨nd, rfl⟩⟩; (try first | exact ⟨rfl, _, World.drewN_drewN _ _ _⟩ | exact ⟨rfl, _, Eq.trans (World.drewN_drewN _ _ _) (congrArg (World.drewN _) (Nat.add_assoc _ _ _))⟩))))
       go_ret
       exact ⟨by first | rfl | (simp [errW_none, errW_some] <;> rfl) | (simp [*, errW_none, errW_some] <;> rfl), bwq HB⟩
     ·rw [if_neg c8] at H
      exact absurd H (by simp)
    ·rw [if_neg c7] at H
     have c7b0 : decide (x5_1 < (l0_7.length : Int)) = false := decide_eq_false c7
     clear c7
     have HC13 := Aside0.mk H
     clear H
     obtain ⟨hcz14, hfz14⟩ := bcf BK113
     go_upto_region 9 with (first | ((with_reducible refine gate_dst (N := 6) rfl ?_); refine bxe (cs := #[.int .i64 0, .int .i64 0]) (t := 40) ?_; intro gb117 hg w15 hbox hb; have BK117 := Aside0.mk (hbox); have GW117 := bwz HB hg; have GE117 := bwz HB hg; replace HB := bwb HB hb; have NB113_117 := bkl BK113 hg; have NB117_113 := bkg BK113 hg; replace BK113 := bkb BK113 hb; clear hb hbox hg; have hnb16 := NB117_113.out; have hnc16 := NB113_117.out; obtain ⟨hcz17, hfz17⟩ := bcf BK117))
     repeat (go_quiet (first | ((with_reducible refine gate_dst (N := 6) rfl ?_); refine bxe (cs := #[.int .i64 0, .int .i64 0]) (t := 40) ?_; intro gb117 hg w15 hbox hb; have BK117 := Aside0.mk (hbox); have GW117 := bwz HB hg; have GE117 := bwz HB hg; replace HB := bwb HB hb; have NB113_117 := bkl BK113 hg; have NB117_113 := bkg BK113 hg; replace BK113 := bkb BK113 hb; clear hb hbox hg; have hnb16 := NB117_113.out; have hnc16 := NB113_117.out; obtain ⟨hcz17, hfz17⟩ := bcf BK117)); go_upto_region 9 with (first | ((with_reducible refine gate_dst (N := 6) rfl ?_); refine bxe (cs := #[.int .i64 0, .int .i64 0]) (t := 40) ?_; intro gb117 hg w15 hbox hb; have BK117 := Aside0.mk (hbox); have GW117 := bwz HB hg; have GE117 := bwz HB hg; replace HB := bwb HB hb; have NB113_117 := bkl BK113 hg; have NB117_113 := bkg BK113 hg; replace BK113 := bkb BK113 hb; clear hb hbox hg; have hnb16 := NB117_113.out; have hnc16 := NB113_117.out)))
     (try simp only [Act.put, List.setIfInBounds_toArray, List.set_cons_zero, List.set_cons_succ])
     go_cut [7] (fun v7 wc => ∃ (kq : Nat) (x7_12 : Bool), v7 = .bool x7_12 ∧ Aside0 (spec_l1Step.j1 kq x7_12 a0_0 a0_1 a0_2 a0_3 a0_4 a0_5 a0_6 l0_7 0 0 = some r) ∧ Aside0 (kq ≤ k1) ∧ Aside0 (wc.heap[gb113]? = some (.cells #[.int .i64 a0_0, .int .i64 a0_1, .int .i64 a0_2, .int .i64 a0_3, .int .i64 a0_4, .int .i64 a0_5, .int .i64 a0_6, (.slice A0_7 l0_7.length c0_7)] 77 (0, 0))) ∧ Aside0 (wc.heap[gb117]? = some (.cells #[.int .i64 0, .int .i64 0] 40 (0, 0))) ∧ Aside0 (Below w.heap.size w wc))
     case first =>
      have H := HC13.out
      clear HC13
      by_cases c18 : a0_0 = 1
      ·rw [if_pos c18] at H
       have c18b0 : (a0_0 == 1) = true := beq_iff_eq.mpr c18
       have c18b1 : (a0_0 != 1) = false := bne_eq_false_iff_eq.mpr c18
       clear c18
       (first | rw [c18b0] | (simp only [i64_w, i32_w]; rw [c18b0]) | skip)
       have H' := Aside0.mk H
       clear H
       have hnb19 := NB113_117.out
       have hnc19 := NB117_113.out
       obtain ⟨hcz20, hfz20⟩ := bcf BK113
       go_wp2
       repeat (go_quiet (fail); try go_wp2)
       go_meet
       case rel => exact ⟨_, (true), (by first | rfl | (simp; done) | (simp [*]; done)), H', ⟨by have := HK1.out; first | omega | exact Nat.le_refl _⟩, ⟨by (with_reducible repeat (first | refine blk_drewN ?_ _ | refine blk_drew ?_ | refine blk_alloc ?_ _)); refine blk_far ?_ NB113_117.out _; (with_reducible repeat (first | refine blk_drewN ?_ _ | refine blk_drew ?_ | refine blk_alloc ?_ _)); refine blk_far ?_ NB113_117.out _; exact bkq BK113⟩, ⟨by (with_reducible repeat (first | refine blk_drewN ?_ _ | refine blk_drew ?_ | refine blk_alloc ?_ _)); refine blk_put (cs := #[.int .i64 0, .int .i64 0]) ?_ 1 _ rfl; (with_reducible repeat (first | refine blk_drewN ?_ _ | refine blk_drew ?_ | refine blk_alloc ?_ _)); refine blk_put (cs := #[.int .i64 0, .int .i64 0]) ?_ 0 _ rfl; exact bkq BK117⟩, ⟨bwq HB⟩⟩
      ·rw [if_neg c18] at H
       have c18b0 : (a0_0 == 1) = false := beq_eq_false_iff_ne.mpr c18
       have c18b1 : (a0_0 != 1) = true := bne_iff_ne.mpr c18
       (first | rw [c18b0] | (simp only [i64_w, i32_w]; rw [c18b0]) | skip)
       by_cases c21 : a0_0 = 2
       ·rw [if_pos c21] at H
        have c21b0 : (a0_0 == 2) = true := beq_iff_eq.mpr c21
        have c21b1 : (a0_0 != 2) = false := bne_eq_false_iff_eq.mpr c21
        clear c21
        have H' := Aside0.mk H
        clear H
        have hnb22 := NB113_117.out
        have hnc22 := NB117_113.out
        obtain ⟨hcz23, hfz23⟩ := bcf BK113
        go_wp2
        repeat (go_quiet (fail); try go_wp2)
        go_meet
        case rel => exact ⟨_, (true), (by first | rfl | (simp; done) | (simp [*]; done)), H', ⟨by have := HK1.out; first | omega | exact Nat.le_refl _⟩, ⟨by (with_reducible repeat (first | refine blk_drewN ?_ _ | refine blk_drew ?_ | refine blk_alloc ?_ _)); refine blk_far ?_ NB113_117.out _; (with_reducible repeat (first | refine blk_drewN ?_ _ | refine blk_drew ?_ | refine blk_alloc ?_ _)); refine blk_far ?_ NB113_117.out _; exact bkq BK113⟩, ⟨by (with_reducible repeat (first | refine blk_drewN ?_ _ | refine blk_drew ?_ | refine blk_alloc ?_ _)); refine blk_put (cs := #[.int .i64 0, .int .i64 0]) ?_ 1 _ rfl; (with_reducible repeat (first | refine blk_drewN ?_ _ | refine blk_drew ?_ | refine blk_alloc ?_ _)); refine blk_put (cs := #[.int .i64 0, .int .i64 0]) ?_ 0 _ rfl; exact bkq BK117⟩, ⟨bwq HB⟩⟩
       ·rw [if_neg c21] at H
        have c21b0 : (a0_0 == 2) = false := beq_eq_false_iff_ne.mpr c21
        have c21b1 : (a0_0 != 2) = true := bne_iff_ne.mpr c21
        have H' := Aside0.mk H
        clear H
        have hnb24 := NB113_117.out
        have hnc24 := NB117_113.out
        obtain ⟨hcz25, hfz25⟩ := bcf BK113
        go_wp2
        repeat (go_quiet (fail); try go_wp2)
        go_meet
        case rel => exact ⟨_, ((a0_0 == 3)), (by first | rfl | (simp; done) | (simp [*]; done)), H', ⟨by have := HK1.out; first | omega | exact Nat.le_refl _⟩, ⟨by (with_reducible repeat (first | refine blk_drewN ?_ _ | refine blk_drew ?_ | refine blk_alloc ?_ _)); refine blk_far ?_ NB113_117.out _; (with_reducible repeat (first | refine blk_drewN ?_ _ | refine blk_drew ?_ | refine blk_alloc ?_ _)); refine blk_far ?_ NB113_117.out _; exact bkq BK113⟩, ⟨by (with_reducible repeat (first | refine blk_drewN ?_ _ | refine blk_drew ?_ | refine blk_alloc ?_ _)); refine blk_put (cs := #[.int .i64 0, .int .i64 0]) ?_ 1 _ rfl; (with_reducible repeat (first | refine blk_drewN ?_ _ | refine blk_drew ?_ | refine blk_alloc ?_ _)); refine blk_put (cs := #[.int .i64 0, .int .i64 0]) ?_ 0 _ rfl; exact bkq BK117⟩, ⟨bwq HB⟩⟩
     case rest =>
      clear HC13
      try clear c1
      try clear p1
      try clear q1
      try clear hx1
      try clear c2
      try clear p2
      try clear c4
      try clear c4b0
      try clear c4b1
      try clear p6
      try clear c7
      try clear c7b0
      try clear c8
      try clear c8b0
      try clear c10
      try clear c11
      try clear p11
      try clear q11
      try clear hx11
      try clear c16
      try clear c18
      try clear c18b0
      try clear c18b1
      try clear c19
      try clear c21
      try clear c21b0
      try clear c21b1
      try clear c22
      try clear c24
      try clear hcz11
      try clear hcz12
      try clear hcz14
      try clear hcz17
      try clear hcz20
      try clear hcz23
      try clear hcz25
      try clear hcz6
      try clear hfz11
      try clear hfz12
      try clear hfz14
      try clear hfz17
      try clear hfz20
      try clear hfz23
      try clear hfz25
      try clear hfz6
      try clear hx115_0
      try clear p115
      try clear p2
      try clear q115
      obtain ⟨kq, x7_12, rfl, HA, HJ12, BK113, BK117, HB⟩ := hcut
      cases kq with
      | zero => exact absurd HA.out (by intro h_; first | (cases h_; done) | (simp [spec_l1Step.j1] at h_))
      | succ kj12 =>
       have H := HA.out
       clear HA
       simp only [spec_l1Step.j1] at H
       have HC26 := Aside0.mk H
       clear H
       go_upto_region 10 with (fail)
       repeat (go_quiet (fail); go_upto_region 10 with (fail))
       go_cut [60] (fun v60 wc => ∃ (kq : Nat) (x60_25 : Bool), v60 = .bool x60_25 ∧ Aside0 (spec_l1Step.j2 kq x60_25 a0_0 a0_1 a0_2 a0_3 a0_4 a0_5 a0_6 l0_7 0 0 = some r) ∧ Aside0 (kq ≤ kj12) ∧ Aside0 (wc.heap[gb113]? = some (.cells #[.int .i64 a0_0, .int .i64 a0_1, .int .i64 a0_2, .int .i64 a0_3, .int .i64 a0_4, .int .i64 a0_5, .int .i64 a0_6, (.slice A0_7 l0_7.length c0_7)] 77 (0, 0))) ∧ Aside0 (wc.heap[gb117]? = some (.cells #[.int .i64 0, .int .i64 0] 40 (0, 0))) ∧ Aside0 (Below w.heap.size w wc))
       case first =>
        have H := HC26.out
        clear HC26
        by_cases c27 : x7_12 = true
        ·subst c27
         rw [if_pos rfl] at H
         replace H := Option.bind_eq_some_iff.mp H
         obtain ⟨t118, A280, H⟩ := H
         have A28 := Aside0.mk A280
         clear A280
         by_cases c29 : t118 = true
         ·subst c29
          rw [if_pos rfl] at H
          have H' := Aside0.mk H
          clear H
          have hnb30 := NB113_117.out
          have hnc30 := NB117_113.out
          obtain ⟨hcz31, hfz31⟩ := bcf BK113
          go_wp2_with (first | (go_at_call 77; (with_reducible refine (spec_l6In.calls a0_1 0 11 true _ A28.out).mono ?_); rintro e w' ⟨rfl, ⟨nd, rfl⟩⟩; (try first | exact ⟨rfl, _, World.drewN_drewN _ _ _⟩ | exact ⟨rfl, _, Eq.trans (World.drewN_drewN _ _ _) (congrArg (World.drewN _) (Nat.add_assoc _ _ _))⟩)))
          repeat (go_quiet (first | (go_at_call 77; (with_reducible refine (spec_l6In.calls a0_1 0 11 true _ A28.out).mono ?_); rintro e w' ⟨rfl, ⟨nd, rfl⟩⟩; (try first | exact ⟨rfl, _, World.drewN_drewN _ _ _⟩ | exact ⟨rfl, _, Eq.trans (World.drewN_drewN _ _ _) (congrArg (World.drewN _) (Nat.add_assoc _ _ _))⟩))); try go_wp2_with (first | (go_at_call 77; (with_reducible refine (spec_l6In.calls a0_1 0 11 true _ A28.out).mono ?_); rintro e w' ⟨rfl, ⟨nd, rfl⟩⟩; (try first | exact ⟨rfl, _, World.drewN_drewN _ _ _⟩ | exact ⟨rfl, _, Eq.trans (World.drewN_drewN _ _ _) (congrArg (World.drewN _) (Nat.add_assoc _ _ _))⟩))))
          go_meet
          case rel => exact ⟨_, (false), (by first | rfl | (simp; done) | (simp [*]; done)), H', ⟨by have := HK1.out; have := HJ12.out; first | omega | exact Nat.le_refl _⟩, ⟨bkq BK113⟩, ⟨bkq BK117⟩, ⟨bwq HB⟩⟩
         ·replace c29 := Bool.eq_false_iff.mpr c29
          subst c29
          have H1 : (spec_l1Step.j2 kj12 true a0_0 a0_1 a0_2 a0_3 a0_4 a0_5 a0_6 l0_7 0 0) = some r := by rw [if_neg (show ¬ (false = true) by decide)] at H; exact H
          clear H
          have H := H1
          clear H1
          have H' := Aside0.mk H
          clear H
          have hnb32 := NB113_117.out
          have hnc32 := NB117_113.out
          obtain ⟨hcz33, hfz33⟩ := bcf BK113
          go_wp2_with (first | (go_at_call 77; (with_reducible refine (spec_l6In.calls a0_1 0 11 false _ A28.out).mono ?_); rintro e w' ⟨rfl, ⟨nd, rfl⟩⟩; (try first | exact ⟨rfl, _, World.drewN_drewN _ _ _⟩ | exact ⟨rfl, _, Eq.trans (World.drewN_drewN _ _ _) (congrArg (World.drewN _) (Nat.add_assoc _ _ _))⟩)))
          repeat (go_quiet (first | (go_at_call 77; (with_reducible refine (spec_l6In.calls a0_1 0 11 false _ A28.out).mono ?_); rintro e w' ⟨rfl, ⟨nd, rfl⟩⟩; (try first | exact ⟨rfl, _, World.drewN_drewN _ _ _⟩ | exact ⟨rfl, _, Eq.trans (World.drewN_drewN _ _ _) (congrArg (World.drewN _) (Nat.add_assoc _ _ _))⟩))); try go_wp2_with (first | (go_at_call 77; (with_reducible refine (spec_l6In.calls a0_1 0 11 false _ A28.out).mono ?_); rintro e w' ⟨rfl, ⟨nd, rfl⟩⟩; (try first | exact ⟨rfl, _, World.drewN_drewN _ _ _⟩ | exact ⟨rfl, _, Eq.trans (World.drewN_drewN _ _ _) (congrArg (World.drewN _) (Nat.add_assoc _ _ _))⟩))))
          go_meet
          case rel => exact ⟨_, (true), (by first | rfl | (simp; done) | (simp [*]; done)), H', ⟨by have := HK1.out; have := HJ12.out; first | omega | exact Nat.le_refl _⟩, ⟨bkq BK113⟩, ⟨bkq BK117⟩, ⟨bwq HB⟩⟩
        ·replace c27 := Bool.eq_false_iff.mpr c27
         subst c27
         have H1 : (spec_l1Step.j2 kj12 (a0_1 != 0) a0_0 a0_1 a0_2 a0_3 a0_4 a0_5 a0_6 l0_7 0 0) = some r := by rw [if_neg (show ¬ (false = true) by decide)] at H; exact H
         clear H
         have H := H1
         clear H1
         have H' := Aside0.mk H
         clear H
         have hnb34 := NB113_117.out
         have hnc34 := NB117_113.out
         obtain ⟨hcz35, hfz35⟩ := bcf BK113
         go_wp2
         repeat (go_quiet (fail); try go_wp2)
         go_meet
         case rel => exact ⟨_, ((a0_1 != 0)), (by first | rfl | (simp; done) | (simp [*]; done)), H', ⟨by have := HK1.out; have := HJ12.out; first | omega | exact Nat.le_refl _⟩, ⟨bkq BK113⟩, ⟨bkq BK117⟩, ⟨bwq HB⟩⟩
       case rest =>
        clear HC26
        try clear c1
        try clear p1
        try clear q1
        try clear hx1
        try clear c2
        try clear p2
        try clear c3
        try clear c4
        try clear c4b0
        try clear c4b1
        try clear p6
        try clear c7
        try clear c7b0
        try clear c8
        try clear c8b0
        try clear c10
        try clear c11
        try clear p11
        try clear q11
        try clear hx11
        try clear c16
        try clear c18
        try clear c18b0
        try clear c18b1
        try clear c19
        try clear c21
        try clear c21b0
        try clear c21b1
        try clear c22
        try clear c24
        try clear c27
        try clear c29
        try clear c30
        try clear c32
        try clear c34
        try clear hcz11
        try clear hcz12
        try clear hcz14
        try clear hcz17
        try clear hcz20
        try clear hcz23
        try clear hcz25
        try clear hcz31
        try clear hcz33
        try clear hcz35
        try clear hcz6
        try clear hfz11
        try clear hfz12
        try clear hfz14
        try clear hfz17
        try clear hfz20
        try clear hfz23
        try clear hfz25
        try clear hfz31
        try clear hfz33
        try clear hfz35
        try clear hfz6
        try clear hx115_0
        try clear p1
        try clear p11
        try clear p115
        try clear p2
        try clear p6
        try clear q1
        try clear q11
        try clear q115
        obtain ⟨kq, x60_25, rfl, HA, HJ25, BK113, BK117, HB⟩ := hcut
        cases kq with
        | zero => exact absurd HA.out (by intro h_; first | (cases h_; done) | (simp [spec_l1Step.j2] at h_))
        | succ kj25 =>
         have H := HA.out
         clear HA
         simp only [spec_l1Step.j2] at H
         by_cases c36 : x60_25 = true
         ·subst c36
          rw [if_pos rfl] at H
          obtain rfl := Option.some.inj H
          go_wp2
          repeat (go_quiet (fail); try go_wp2)
          go_ret
          exact ⟨by first | rfl | (simp [errW_none, errW_some] <;> rfl) | (simp [*, errW_none, errW_some] <;> rfl), bwq HB⟩
         ·replace c36 := Bool.eq_false_iff.mpr c36
          subst c36
          have H1 : (if a0_0 = 1 then ((spec_l6In.f a0_2 1 4).bind fun t119 => (if t119 = true then ((spec_l1Opnd.f a0_3 a0_4).bind fun t120 => (if t120 = true then ((spec_l1Opnd.f a0_5 a0_6).bind fun t121 => (some t121)) else (some false))) else (some false))) else (if a0_0 = 2 then (if a0_2 = 0 then ((spec_l1Opnd.f a0_3 a0_4).bind fun t122 => (if t122 = true then (some (a0_5 == 0 && (a0_6 == 0))) else (some false))) else (some false)) else (if a0_0 = 4 then (if a0_2 = 0 then ((spec_l1Opnd.f a0_3 a0_4).bind fun t123 => (if t123 = true then (some (a0_5 == 0 && (a0_6 == 0))) else (some false))) else (some false)) else (if a0_0 = 5 then (if a0_2 = 0 then ((spec_l1Opnd.f a0_3 a0_4).bind fun t124 => (if t124 = true then (some (a0_5 == 0 && (a0_6 == 0))) else (some false))) else (some false)) else (if a0_2 = 0 then (if (a0_3 == 0 && (a0_4 == 0)) = true then (some (a0_5 == 0 && (a0_6 == 0))) else (some false)) else (some false)))))) = some r := by rw [if_neg (show ¬ (false = true) by decide)] at H; exact H
          clear H
          have H := H1
          clear H1
          by_cases c37 : a0_0 = 1
          ·rw [if_pos c37] at H
           have c37b0 : (a0_0 == 1) = true := beq_iff_eq.mpr c37
           have c37b1 : (a0_0 != 1) = false := bne_eq_false_iff_eq.mpr c37
           clear c37
           replace H := Option.bind_eq_some_iff.mp H
           obtain ⟨t119, A380, H⟩ := H
           have A38 := Aside0.mk A380
           clear A380
           by_cases c39 : t119 = true
           ·subst c39
            rw [if_pos rfl] at H
            replace H := Option.bind_eq_some_iff.mp H
            obtain ⟨t120, A400, H⟩ := H
            have A40 := Aside0.mk A400
            clear A400
            by_cases c41 : t120 = true
            ·subst c41
             rw [if_pos rfl] at H
             replace H := Option.bind_eq_some_iff.mp H
             obtain ⟨t121, A420, H⟩ := H
             have A42 := Aside0.mk A420
             clear A420
             obtain rfl := Option.some.inj H
             have hnb43 := NB113_117.out
             have hnc43 := NB117_113.out
             obtain ⟨hcz44, hfz44⟩ := bcf BK113
             go_wp2_with (first | (go_at_call 77; (with_reducible refine (spec_l6In.calls a0_2 1 4 true _ A38.out).mono ?_); rintro e w' ⟨rfl, ⟨nd, rfl⟩⟩; (try first | exact ⟨rfl, _, World.drewN_drewN _ _ _⟩ | exact ⟨rfl, _, Eq.trans (World.drewN_drewN _ _ _) (congrArg (World.drewN _) (Nat.add_assoc _ _ _))⟩)) | (go_at_call 111; (with_reducible refine (spec_l1Opnd.calls a0_3 a0_4 true _ A40.out).mono ?_); rintro e w45 ⟨rfl, hb⟩; replace BK113 := bkb BK113 hb; replace BK117 := bkb BK117 hb; replace HB := bwb HB hb; (try clear hb); (try clear hb2); (try clear hk); (try clear hi); obtain ⟨hcz46, hfz46⟩ := bcf BK113) | (go_at_call 111; (with_reducible refine (spec_l1Opnd.calls a0_5 a0_6 t121 _ A42.out).mono ?_); rintro e w47 ⟨rfl, hb⟩; replace BK113 := bkb BK113 hb; replace BK117 := bkb BK117 hb; replace HB := bwb HB hb; (try clear hb); (try clear hb2); (try clear hk); (try clear hi)))
             repeat (go_quiet (first | (go_at_call 77; (with_reducible refine (spec_l6In.calls a0_2 1 4 true _ A38.out).mono ?_); rintro e w' ⟨rfl, ⟨nd, rfl⟩⟩; (try first | exact ⟨rfl, _, World.drewN_drewN _ _ _⟩ | exact ⟨rfl, _, Eq.trans (World.drewN_drewN _ _ _) (congrArg (World.drewN _) (Nat.add_assoc _ _ _))⟩)) | (go_at_call 111; (with_reducible refine (spec_l1Opnd.calls a0_3 a0_4 true _ A40.out).mono ?_); rintro e w45 ⟨rfl, hb⟩; replace BK113 := bkb BK113 hb; replace BK117 := bkb BK117 hb; replace HB := bwb HB hb; (try clear hb); (try clear hb2); (try clear hk); (try clear hi); obtain ⟨hcz46, hfz46⟩ := bcf BK113) | (go_at_call 111; (with_reducible refine (spec_l1Opnd.calls a0_5 a0_6 t121 _ A42.out).mono ?_); rintro e w47 ⟨rfl, hb⟩; replace BK113 := bkb BK113 hb; replace BK117 := bkb BK117 hb; replace HB := bwb HB hb; (try clear hb); (try clear hb2); (try clear hk); (try clear hi))); try go_wp2_with (first | (go_at_call 77; (with_reducible refine (spec_l6In.calls a0_2 1 4 true _ A38.out).mono ?_); rintro e w' ⟨rfl, ⟨nd, rfl⟩⟩; (try first | exact ⟨rfl, _, World.drewN_drewN _ _ _⟩ | exact ⟨rfl, _, Eq.trans (World.drewN_drewN _ _ _) (congrArg (World.drewN _) (Nat.add_assoc _ _ _))⟩)) | (go_at_call 111; (with_reducible refine (spec_l1Opnd.calls a0_3 a0_4 true _ A40.out).mono ?_); rintro e w45 ⟨rfl, hb⟩; replace BK113 := bkb BK113 hb; replace BK117 := bkb BK117 hb; replace HB := bwb HB hb; (try clear hb); (try clear hb2); (try clear hk); (try clear hi)) | (go_at_call 111; (with_reducible refine (spec_l1Opnd.calls a0_5 a0_6 t121 _ A42.out).mono ?_); rintro e w47 ⟨rfl, hb⟩; replace BK113 := bkb BK113 hb; replace BK117 := bkb BK117 hb; replace HB := bwb HB hb; (try clear hb); (try clear hb2); (try clear hk); (try clear hi))))
             go_ret
             exact ⟨by first | rfl | (simp [errW_none, errW_some] <;> rfl) | (simp [*, errW_none, errW_some] <;> rfl), bwq HB⟩
            ·replace c41 := Bool.eq_false_iff.mpr c41
             subst c41
             have H1 : (some false) = some r := by rw [if_neg (show ¬ (false = true) by decide)] at H; exact H
             clear H
             have H := H1
             clear H1
             obtain rfl := Option.some.inj H
             have hnb48 := NB113_117.out
             have hnc48 := NB117_113.out
             obtain ⟨hcz49, hfz49⟩ := bcf BK113
             go_wp2_with (first | (go_at_call 77; (with_reducible refine (spec_l6In.calls a0_2 1 4 true _ A38.out).mono ?_); rintro e w' ⟨rfl, ⟨nd, rfl⟩⟩; (try first | exact ⟨rfl, _, World.drewN_drewN _ _ _⟩ | exact ⟨rfl, _, Eq.trans (World.drewN_drewN _ _ _) (congrArg (World.drewN _) (Nat.add_assoc _ _ _))⟩)) | (go_at_call 111; (with_reducible refine (spec_l1Opnd.calls a0_3 a0_4 false _ A40.out).mono ?_); rintro e w50 ⟨rfl, hb⟩; replace BK113 := bkb BK113 hb; replace BK117 := bkb BK117 hb; replace HB := bwb HB hb; (try clear hb); (try clear hb2); (try clear hk); (try clear hi)))
             repeat (go_quiet (first | (go_at_call 77; (with_reducible refine (spec_l6In.calls a0_2 1 4 true _ A38.out).mono ?_); rintro e w' ⟨rfl, ⟨nd, rfl⟩⟩; (try first | exact ⟨rfl, _, World.drewN_drewN _ _ _⟩ | exact ⟨rfl, _, Eq.trans (World.drewN_drewN _ _ _) (congrArg (World.drewN _) (Nat.add_assoc _ _ _))⟩)) | (go_at_call 111; (with_reducible refine (spec_l1Opnd.calls a0_3 a0_4 false _ A40.out).mono ?_); rintro e w50 ⟨rfl, hb⟩; replace BK113 := bkb BK113 hb; replace BK117 := bkb BK117 hb; replace HB := bwb HB hb; (try clear hb); (try clear hb2); (try clear hk); (try clear hi))); try go_wp2_with (first | (go_at_call 77; (with_reducible refine (spec_l6In.calls a0_2 1 4 true _ A38.out).mono ?_); rintro e w' ⟨rfl, ⟨nd, rfl⟩⟩; (try first | exact ⟨rfl, _, World.drewN_drewN _ _ _⟩ | exact ⟨rfl, _, Eq.trans (World.drewN_drewN _ _ _) (congrArg (World.drewN _) (Nat.add_assoc _ _ _))⟩)) | (go_at_call 111; (with_reducible refine (spec_l1Opnd.calls a0_3 a0_4 false _ A40.out).mono ?_); rintro e w50 ⟨rfl, hb⟩; replace BK113 := bkb BK113 hb; replace BK117 := bkb BK117 hb; replace HB := bwb HB hb; (try clear hb); (try clear hb2); (try clear hk); (try clear hi))))
             go_ret
             exact ⟨by first | rfl | (simp [errW_none, errW_some] <;> rfl) | (simp [*, errW_none, errW_some] <;> rfl), bwq HB⟩
           ·replace c39 := Bool.eq_false_iff.mpr c39
            subst c39
            have H1 : (some false) = some r := by rw [if_neg (show ¬ (false = true) by decide)] at H; exact H
            clear H
            have H := H1
            clear H1
            obtain rfl := Option.some.inj H
            have hnb51 := NB113_117.out
            have hnc51 := NB117_113.out
            obtain ⟨hcz52, hfz52⟩ := bcf BK113
            go_wp2_with (first | (go_at_call 77; (with_reducible refine (spec_l6In.calls a0_2 1 4 false _ A38.out).mono ?_); rintro e w' ⟨rfl, ⟨nd, rfl⟩⟩; (try first | exact ⟨rfl, _, World.drewN_drewN _ _ _⟩ | exact ⟨rfl, _, Eq.trans (World.drewN_drewN _ _ _) (congrArg (World.drewN _) (Nat.add_assoc _ _ _))⟩)))
            repeat (go_quiet (first | (go_at_call 77; (with_reducible refine (spec_l6In.calls a0_2 1 4 false _ A38.out).mono ?_); rintro e w' ⟨rfl, ⟨nd, rfl⟩⟩; (try first | exact ⟨rfl, _, World.drewN_drewN _ _ _⟩ | exact ⟨rfl, _, Eq.trans (World.drewN_drewN _ _ _) (congrArg (World.drewN _) (Nat.add_assoc _ _ _))⟩))); try go_wp2_with (first | (go_at_call 77; (with_reducible refine (spec_l6In.calls a0_2 1 4 false _ A38.out).mono ?_); rintro e w' ⟨rfl, ⟨nd, rfl⟩⟩; (try first | exact ⟨rfl, _, World.drewN_drewN _ _ _⟩ | exact ⟨rfl, _, Eq.trans (World.drewN_drewN _ _ _) (congrArg (World.drewN _) (Nat.add_assoc _ _ _))⟩))))
            go_ret
            exact ⟨by first | rfl | (simp [errW_none, errW_some] <;> rfl) | (simp [*, errW_none, errW_some] <;> rfl), bwq HB⟩
          ·rw [if_neg c37] at H
           have c37b0 : (a0_0 == 1) = false := beq_eq_false_iff_ne.mpr c37
           have c37b1 : (a0_0 != 1) = true := bne_iff_ne.mpr c37
           by_cases c53 : a0_0 = 2
           ·rw [if_pos c53] at H
            have c53b0 : (a0_0 == 2) = true := beq_iff_eq.mpr c53
            have c53b1 : (a0_0 != 2) = false := bne_eq_false_iff_eq.mpr c53
            clear c53
            by_cases c54 : a0_2 = 0
            ·rw [if_pos c54] at H
             have c54b0 : (a0_2 == 0) = true := beq_iff_eq.mpr c54
             have c54b1 : (a0_2 != 0) = false := bne_eq_false_iff_eq.mpr c54
             clear c54
             replace H := Option.bind_eq_some_iff.mp H
             obtain ⟨t122, A550, H⟩ := H
             have A55 := Aside0.mk A550
             clear A550
             by_cases c56 : t122 = true
             ·subst c56
              rw [if_pos rfl] at H
              obtain rfl := Option.some.inj H
              have hnb57 := NB113_117.out
              have hnc57 := NB117_113.out
              obtain ⟨hcz58, hfz58⟩ := bcf BK113
              go_wp2_with (first | (go_at_call 111; (with_reducible refine (spec_l1Opnd.calls a0_3 a0_4 true _ A55.out).mono ?_); rintro e w59 ⟨rfl, hb⟩; replace BK113 := bkb BK113 hb; replace BK117 := bkb BK117 hb; replace HB := bwb HB hb; (try clear hb); (try clear hb2); (try clear hk); (try clear hi); obtain ⟨hcz60, hfz60⟩ := bcf BK113; obtain ⟨hcz61, hfz61⟩ := bcf BK117))
              repeat (go_quiet (first | (go_at_call 111; (with_reducible refine (spec_l1Opnd.calls a0_3 a0_4 true _ A55.out).mono ?_); rintro e w59 ⟨rfl, hb⟩; replace BK113 := bkb BK113 hb; replace BK117 := bkb BK117 hb; replace HB := bwb HB hb; (try clear hb); (try clear hb2); (try clear hk); (try clear hi); obtain ⟨hcz60, hfz60⟩ := bcf BK113; obtain ⟨hcz61, hfz61⟩ := bcf BK117)); try go_wp2_with (first | (go_at_call 111; (with_reducible refine (spec_l1Opnd.calls a0_3 a0_4 true _ A55.out).mono ?_); rintro e w59 ⟨rfl, hb⟩; replace BK113 := bkb BK113 hb; replace BK117 := bkb BK117 hb; replace HB := bwb HB hb; (try clear hb); (try clear hb2); (try clear hk); (try clear hi))))
              go_ret
              exact ⟨by first | rfl | (simp [errW_none, errW_some] <;> rfl) | (simp [*, errW_none, errW_some] <;> rfl), bwq HB⟩
             ·replace c56 := Bool.eq_false_iff.mpr c56
              subst c56
              have H1 : (some false) = some r := by rw [if_neg (show ¬ (false = true) by decide)] at H; exact H
              clear H
              have H := H1
              clear H1
              obtain rfl := Option.some.inj H
              have hnb62 := NB113_117.out
              have hnc62 := NB117_113.out
              obtain ⟨hcz63, hfz63⟩ := bcf BK113
              go_wp2_with (first | (go_at_call 111; (with_reducible refine (spec_l1Opnd.calls a0_3 a0_4 false _ A55.out).mono ?_); rintro e w64 ⟨rfl, hb⟩; replace BK113 := bkb BK113 hb; replace BK117 := bkb BK117 hb; replace HB := bwb HB hb; (try clear hb); (try clear hb2); (try clear hk); (try clear hi)))
              repeat (go_quiet (first | (go_at_call 111; (with_reducible refine (spec_l1Opnd.calls a0_3 a0_4 false _ A55.out).mono ?_); rintro e w64 ⟨rfl, hb⟩; replace BK113 := bkb BK113 hb; replace BK117 := bkb BK117 hb; replace HB := bwb HB hb; (try clear hb); (try clear hb2); (try clear hk); (try clear hi))); try go_wp2_with (first | (go_at_call 111; (with_reducible refine (spec_l1Opnd.calls a0_3 a0_4 false _ A55.out).mono ?_); rintro e w64 ⟨rfl, hb⟩; replace BK113 := bkb BK113 hb; replace BK117 := bkb BK117 hb; replace HB := bwb HB hb; (try clear hb); (try clear hb2); (try clear hk); (try clear hi))))
              go_ret
              exact ⟨by first | rfl | (simp [errW_none, errW_some] <;> rfl) | (simp [*, errW_none, errW_some] <;> rfl), bwq HB⟩
            ·rw [if_neg c54] at H
             have c54b0 : (a0_2 == 0) = false := beq_eq_false_iff_ne.mpr c54
             have c54b1 : (a0_2 != 0) = true := bne_iff_ne.mpr c54
             obtain rfl := Option.some.inj H
             have hnb65 := NB113_117.out
             have hnc65 := NB117_113.out
             obtain ⟨hcz66, hfz66⟩ := bcf BK113
             go_wp2
             repeat (go_quiet (fail); try go_wp2)
             go_ret
             exact ⟨by first | rfl | (simp [errW_none, errW_some] <;> rfl) | (simp [*, errW_none, errW_some] <;> rfl), bwq HB⟩
           ·rw [if_neg c53] at H
            have c53b0 : (a0_0 == 2) = false := beq_eq_false_iff_ne.mpr c53
            have c53b1 : (a0_0 != 2) = true := bne_iff_ne.mpr c53
            by_cases c67 : a0_0 = 4
            ·rw [if_pos c67] at H
             have c67b0 : (a0_0 == 4) = true := beq_iff_eq.mpr c67
             have c67b1 : (a0_0 != 4) = false := bne_eq_false_iff_eq.mpr c67
             clear c67
             by_cases c68 : a0_2 = 0
             ·rw [if_pos c68] at H
              have c68b0 : (a0_2 == 0) = true := beq_iff_eq.mpr c68
              have c68b1 : (a0_2 != 0) = false := bne_eq_false_iff_eq.mpr c68
              clear c68
              replace H := Option.bind_eq_some_iff.mp H
              obtain ⟨t123, A690, H⟩ := H
              have A69 := Aside0.mk A690
              clear A690
              by_cases c70 : t123 = true
              ·subst c70
               rw [if_pos rfl] at H
               obtain rfl := Option.some.inj H
               have hnb71 := NB113_117.out
               have hnc71 := NB117_113.out
               obtain ⟨hcz72, hfz72⟩ := bcf BK113
               go_wp2_with (first | (go_at_call 111; (with_reducible refine (spec_l1Opnd.calls a0_3 a0_4 true _ A69.out).mono ?_); rintro e w73 ⟨rfl, hb⟩; replace BK113 := bkb BK113 hb; replace BK117 := bkb BK117 hb; replace HB := bwb HB hb; (try clear hb); (try clear hb2); (try clear hk); (try clear hi); obtain ⟨hcz74, hfz74⟩ := bcf BK113; obtain ⟨hcz75, hfz75⟩ := bcf BK117))
               repeat (go_quiet (first | (go_at_call 111; (with_reducible refine (spec_l1Opnd.calls a0_3 a0_4 true _ A69.out).mono ?_); rintro e w73 ⟨rfl, hb⟩; replace BK113 := bkb BK113 hb; replace BK117 := bkb BK117 hb; replace HB := bwb HB hb; (try clear hb); (try clear hb2); (try clear hk); (try clear hi); obtain ⟨hcz74, hfz74⟩ := bcf BK113; obtain ⟨hcz75, hfz75⟩ := bcf BK117)); try go_wp2_with (first | (go_at_call 111; (with_reducible refine (spec_l1Opnd.calls a0_3 a0_4 true _ A69.out).mono ?_); rintro e w73 ⟨rfl, hb⟩; replace BK113 := bkb BK113 hb; replace BK117 := bkb BK117 hb; replace HB := bwb HB hb; (try clear hb); (try clear hb2); (try clear hk); (try clear hi))))
               go_ret
               exact ⟨by first | rfl | (simp [errW_none, errW_some] <;> rfl) | (simp [*, errW_none, errW_some] <;> rfl), bwq HB⟩
              ·replace c70 := Bool.eq_false_iff.mpr c70
               subst c70
               have H1 : (some false) = some r := by rw [if_neg (show ¬ (false = true) by decide)] at H; exact H
               clear H
               have H := H1
               clear H1
               obtain rfl := Option.some.inj H
               have hnb76 := NB113_117.out
               have hnc76 := NB117_113.out
               obtain ⟨hcz77, hfz77⟩ := bcf BK113
               go_wp2_with (first | (go_at_call 111; (with_reducible refine (spec_l1Opnd.calls a0_3 a0_4 false _ A69.out).mono ?_); rintro e w78 ⟨rfl, hb⟩; replace BK113 := bkb BK113 hb; replace BK117 := bkb BK117 hb; replace HB := bwb HB hb; (try clear hb); (try clear hb2); (try clear hk); (try clear hi)))
               repeat (go_quiet (first | (go_at_call 111; (with_reducible refine (spec_l1Opnd.calls a0_3 a0_4 false _ A69.out).mono ?_); rintro e w78 ⟨rfl, hb⟩; replace BK113 := bkb BK113 hb; replace BK117 := bkb BK117 hb; replace HB := bwb HB hb; (try clear hb); (try clear hb2); (try clear hk); (try clear hi))); try go_wp2_with (first | (go_at_call 111; (with_reducible refine (spec_l1Opnd.calls a0_3 a0_4 false _ A69.out).mono ?_); rintro e w78 ⟨rfl, hb⟩; replace BK113 := bkb BK113 hb; replace BK117 := bkb BK117 hb; replace HB := bwb HB hb; (try clear hb); (try clear hb2); (try clear hk); (try clear hi))))
               go_ret
               exact ⟨by first | rfl | (simp [errW_none, errW_some] <;> rfl) | (simp [*, errW_none, errW_some] <;> rfl), bwq HB⟩
             ·rw [if_neg c68] at H
              have c68b0 : (a0_2 == 0) = false := beq_eq_false_iff_ne.mpr c68
              have c68b1 : (a0_2 != 0) = true := bne_iff_ne.mpr c68
              obtain rfl := Option.some.inj H
              have hnb79 := NB113_117.out
              have hnc79 := NB117_113.out
              obtain ⟨hcz80, hfz80⟩ := bcf BK113
              go_wp2
              repeat (go_quiet (fail); try go_wp2)
              go_ret
              exact ⟨by first | rfl | (simp [errW_none, errW_some] <;> rfl) | (simp [*, errW_none, errW_some] <;> rfl), bwq HB⟩
            ·rw [if_neg c67] at H
             have c67b0 : (a0_0 == 4) = false := beq_eq_false_iff_ne.mpr c67
             have c67b1 : (a0_0 != 4) = true := bne_iff_ne.mpr c67
             by_cases c81 : a0_0 = 5
             ·rw [if_pos c81] at H
              have c81b0 : (a0_0 == 5) = true := beq_iff_eq.mpr c81
              have c81b1 : (a0_0 != 5) = false := bne_eq_false_iff_eq.mpr c81
              clear c81
              by_cases c82 : a0_2 = 0
              ·rw [if_pos c82] at H
               have c82b0 : (a0_2 == 0) = true := beq_iff_eq.mpr c82
               have c82b1 : (a0_2 != 0) = false := bne_eq_false_iff_eq.mpr c82
               clear c82
               replace H := Option.bind_eq_some_iff.mp H
               obtain ⟨t124, A830, H⟩ := H
               have A83 := Aside0.mk A830
               clear A830
               by_cases c84 : t124 = true
               ·subst c84
                rw [if_pos rfl] at H
                obtain rfl := Option.some.inj H
                have hnb85 := NB113_117.out
                have hnc85 := NB117_113.out
                obtain ⟨hcz86, hfz86⟩ := bcf BK113
                go_wp2_with (first | (go_at_call 111; (with_reducible refine (spec_l1Opnd.calls a0_3 a0_4 true _ A83.out).mono ?_); rintro e w87 ⟨rfl, hb⟩; replace BK113 := bkb BK113 hb; replace BK117 := bkb BK117 hb; replace HB := bwb HB hb; (try clear hb); (try clear hb2); (try clear hk); (try clear hi); obtain ⟨hcz88, hfz88⟩ := bcf BK113; obtain ⟨hcz89, hfz89⟩ := bcf BK117))
                repeat (go_quiet (first | (go_at_call 111; (with_reducible refine (spec_l1Opnd.calls a0_3 a0_4 true _ A83.out).mono ?_); rintro e w87 ⟨rfl, hb⟩; replace BK113 := bkb BK113 hb; replace BK117 := bkb BK117 hb; replace HB := bwb HB hb; (try clear hb); (try clear hb2); (try clear hk); (try clear hi); obtain ⟨hcz88, hfz88⟩ := bcf BK113; obtain ⟨hcz89, hfz89⟩ := bcf BK117)); try go_wp2_with (first | (go_at_call 111; (with_reducible refine (spec_l1Opnd.calls a0_3 a0_4 true _ A83.out).mono ?_); rintro e w87 ⟨rfl, hb⟩; replace BK113 := bkb BK113 hb; replace BK117 := bkb BK117 hb; replace HB := bwb HB hb; (try clear hb); (try clear hb2); (try clear hk); (try clear hi))))
                go_ret
                exact ⟨by first | rfl | (simp [errW_none, errW_some] <;> rfl) | (simp [*, errW_none, errW_some] <;> rfl), bwq HB⟩
               ·replace c84 := Bool.eq_false_iff.mpr c84
                subst c84
                have H1 : (some false) = some r := by rw [if_neg (show ¬ (false = true) by decide)] at H; exact H
                clear H
                have H := H1
                clear H1
                obtain rfl := Option.some.inj H
                have hnb90 := NB113_117.out
                have hnc90 := NB117_113.out
                obtain ⟨hcz91, hfz91⟩ := bcf BK113
                go_wp2_with (first | (go_at_call 111; (with_reducible refine (spec_l1Opnd.calls a0_3 a0_4 false _ A83.out).mono ?_); rintro e w92 ⟨rfl, hb⟩; replace BK113 := bkb BK113 hb; replace BK117 := bkb BK117 hb; replace HB := bwb HB hb; (try clear hb); (try clear hb2); (try clear hk); (try clear hi)))
                repeat (go_quiet (first | (go_at_call 111; (with_reducible refine (spec_l1Opnd.calls a0_3 a0_4 false _ A83.out).mono ?_); rintro e w92 ⟨rfl, hb⟩; replace BK113 := bkb BK113 hb; replace BK117 := bkb BK117 hb; replace HB := bwb HB hb; (try clear hb); (try clear hb2); (try clear hk); (try clear hi))); try go_wp2_with (first | (go_at_call 111; (with_reducible refine (spec_l1Opnd.calls a0_3 a0_4 false _ A83.out).mono ?_); rintro e w92 ⟨rfl, hb⟩; replace BK113 := bkb BK113 hb; replace BK117 := bkb BK117 hb; replace HB := bwb HB hb; (try clear hb); (try clear hb2); (try clear hk); (try clear hi))))
                go_ret
                exact ⟨by first | rfl | (simp [errW_none, errW_some] <;> rfl) | (simp [*, errW_none, errW_some] <;> rfl), bwq HB⟩
              ·rw [if_neg c82] at H
               have c82b0 : (a0_2 == 0) = false := beq_eq_false_iff_ne.mpr c82
               have c82b1 : (a0_2 != 0) = true := bne_iff_ne.mpr c82
               obtain rfl := Option.some.inj H
               have hnb93 := NB113_117.out
               have hnc93 := NB117_113.out
               obtain ⟨hcz94, hfz94⟩ := bcf BK113
               go_wp2
               repeat (go_quiet (fail); try go_wp2)
               go_ret
               exact ⟨by first | rfl | (simp [errW_none, errW_some] <;> rfl) | (simp [*, errW_none, errW_some] <;> rfl), bwq HB⟩
             ·rw [if_neg c81] at H
              have c81b0 : (a0_0 == 5) = false := beq_eq_false_iff_ne.mpr c81
              have c81b1 : (a0_0 != 5) = true := bne_iff_ne.mpr c81
              by_cases c95 : a0_2 = 0
              ·rw [if_pos c95] at H
               have c95b0 : (a0_2 == 0) = true := beq_iff_eq.mpr c95
               have c95b1 : (a0_2 != 0) = false := bne_eq_false_iff_eq.mpr c95
               clear c95
               by_cases c96 : (a0_3 == 0 && (a0_4 == 0)) = true
               ·rw [if_pos c96] at H
                have c96b0 : (a0_3 == 0 && (a0_4 == 0)) = true := c96
                (try (have c96b1 : decide (a0_3 = 0 && (a0_4 == 0)) = true := by simpa using c96))
                (try (have c96b2 : (a0_3 == 0 && (a0_4 == 0)) = true := by simpa using c96))
                clear c96
                obtain rfl := Option.some.inj H
                have hnb97 := NB113_117.out
                have hnc97 := NB117_113.out
                obtain ⟨hcz98, hfz98⟩ := bcf BK113
                obtain ⟨hcz99, hfz99⟩ := bcf BK117
                go_wp2
                repeat (go_quiet (fail); try go_wp2)
                go_ret
                exact ⟨by first | rfl | (simp [errW_none, errW_some] <;> rfl) | (simp [*, errW_none, errW_some] <;> rfl), bwq HB⟩
               ·rw [if_neg c96] at H
                have c96b0 : (a0_3 == 0 && (a0_4 == 0)) = false := by simpa using c96
                (try (have c96b1 : decide (a0_3 = 0 && (a0_4 == 0)) = false := by simpa using c96))
                (try (have c96b2 : (a0_3 == 0 && (a0_4 == 0)) = false := by simpa using c96))
                (try (have c96b3 : ¬ (a0_3 = 0 && (a0_4 == 0)) := by simpa using c96))
                clear c96
                obtain rfl := Option.some.inj H
                have hnb100 := NB113_117.out
                have hnc100 := NB117_113.out
                obtain ⟨hcz101, hfz101⟩ := bcf BK113
                obtain ⟨hcz102, hfz102⟩ := bcf BK117
                go_wp2
                repeat (go_quiet (fail); try go_wp2)
                go_ret
                exact ⟨by first | rfl | (simp [errW_none, errW_some] <;> rfl) | (simp [*, errW_none, errW_some] <;> rfl), bwq HB⟩
              ·rw [if_neg c95] at H
               have c95b0 : (a0_2 == 0) = false := beq_eq_false_iff_ne.mpr c95
               have c95b1 : (a0_2 != 0) = true := bne_iff_ne.mpr c95
               obtain rfl := Option.some.inj H
               have hnb103 := NB113_117.out
               have hnc103 := NB117_113.out
               obtain ⟨hcz104, hfz104⟩ := bcf BK113
               go_wp2
               repeat (go_quiet (fail); try go_wp2)
               go_ret
               exact ⟨by first | rfl | (simp [errW_none, errW_some] <;> rfl) | (simp [*, errW_none, errW_some] <;> rfl), bwq HB⟩
 ·rw [if_neg c4] at H
  have c4b0 : ((l0_7.length : Int) == t114) = false := beq_eq_false_iff_ne.mpr c4
  have c4b1 : ((l0_7.length : Int) != t114) = true := bne_iff_ne.mpr c4
  obtain rfl := Option.some.inj H
  go_enter Try.func110, Try.ntmps110
  go_wp2_with (first | ((with_reducible refine gate_dst (N := 2) rfl ?_); refine bxe (cs := #[.int .i64 a0_0, .int .i64 a0_1, .int .i64 a0_2, .int .i64 a0_3, .int .i64 a0_4, .int .i64 a0_5, .int .i64 a0_6, .slice A0_7 l0_7.length c0_7]) (t := 77) ?_; intro gb113 hg w105 hbox hb; have BK113 := Aside0.mk (hbox); have GW113 := bwz HB hg; have GE113 := bwz HB hg; replace HB := bwb HB hb; clear hb hbox hg; obtain ⟨hcz106, hfz106⟩ := bcf BK113) | (go_at_call 129; (with_reducible refine (spec_l1Many.calls a0_0 t114 _ A3.out).mono ?_); rintro e w' ⟨rfl, ⟨nd, rfl⟩⟩; (try first | exact ⟨rfl, _, World.drewN_drewN _ _ _⟩ | exact ⟨rfl, _, Eq.trans (World.drewN_drewN _ _ _) (congrArg (World.drewN _) (Nat.add_assoc _ _ _))⟩)))
  repeat (go_quiet (first | ((with_reducible refine gate_dst (N := 2) rfl ?_); refine bxe (cs := #[.int .i64 a0_0, .int .i64 a0_1, .int .i64 a0_2, .int .i64 a0_3, .int .i64 a0_4, .int .i64 a0_5, .int .i64 a0_6, .slice A0_7 l0_7.length c0_7]) (t := 77) ?_; intro gb113 hg w105 hbox hb; have BK113 := Aside0.mk (hbox); have GW113 := bwz HB hg; have GE113 := bwz HB hg; replace HB := bwb HB hb; clear hb hbox hg; obtain ⟨hcz106, hfz106⟩ := bcf BK113) | (go_at_call 129; (with_reducible refine (spec_l1Many.calls a0_0 t114 _ A3.out).mono ?_); rintro e w' ⟨rfl, ⟨nd, rfl⟩⟩; (try first | exact ⟨rfl, _, World.drewN_drewN _ _ _⟩ | exact ⟨rfl, _, Eq.trans (World.drewN_drewN _ _ _) (congrArg (World.drewN _) (Nat.add_assoc _ _ _))⟩))); try go_wp2_with (first | ((with_reducible refine gate_dst (N := 2) rfl ?_); refine bxe (cs := #[.int .i64 a0_0, .int .i64 a0_1, .int .i64 a0_2, .int .i64 a0_3, .int .i64 a0_4, .int .i64 a0_5, .int .i64 a0_6, .slice A0_7 l0_7.length c0_7]) (t := 77) ?_; intro gb113 hg w105 hbox hb; have BK113 := Aside0.mk (hbox); have GW113 := bwz HB hg; have GE113 := bwz HB hg; replace HB := bwb HB hb; clear hb hbox hg) | (go_at_call 129; (with_reducible refine (spec_l1Many.calls a0_0 t114 _ A3.out).mono ?_); rintro e w' ⟨rfl, ⟨nd, rfl⟩⟩; (try first | exact ⟨rfl, _, World.drewN_drewN _ _ _⟩ | exact ⟨rfl, _, Eq.trans (World.drewN_drewN _ _ _) (congrArg (World.drewN _) (Nat.add_assoc _ _ _))⟩))))
  go_ret
  exact ⟨by first | rfl | (simp [errW_none, errW_some] <;> rfl) | (simp [*, errW_none, errW_some] <;> rfl), bwq HB⟩
end Go.Proofs.Ytcgbbhkjkkpfoaa.P
namespace Go.Proofs.Ytcgbbhkjkkpfoaa.P
open Go.RowKit Go.Proofs.YtcgbbhkjkkpfoaaW.PrintWords Go.Proofs.YtcgbbhkjkkpfoaaW.PrintLast Go.Proofs.YtcgbbhkjkkpfoaaW.PrintMore
attribute [local go_sem] max2_int min2_int max_two min_two max_three min_three max_four min_four
mutual
def spec_ProgOk.j0 : Nat → Bool → List (S77) → Option (Bool)
 | 0, _, _ => none
 | k + 1, x13, x126000 => if x13 = true then (some false) else (spec_ProgOk.l0 k 0 x126000)
def spec_ProgOk.l0 : Nat → Int → List (S77) → Option (Bool)
 | 0, _, _ => none
 | k + 1, x3, x126000 => if x3 < (x126000.length : Int) then (if 0 ≤ x3 then ((spec_l1Step.f k ((rd_T77 x126000 x3).f0) ((rd_T77 x126000 x3).f1) ((rd_T77 x126000 x3).f2) ((rd_T77 x126000 x3).f3.f0) ((rd_T77 x126000 x3).f3.f1) ((rd_T77 x126000 x3).f4.f0) ((rd_T77 x126000 x3).f4.f1) ((rd_T77 x126000 x3).f5) (x126000.length : Int)).bind fun t127 => (if t127 = true then (spec_ProgOk.l0 k (wrap64 (x3 + 1)) x126000) else (some false))) else (none)) else (some true)
end
def spec_ProgOk.f (k : Nat) (l0_0 : List (S77)) : Option (Bool) := if (l0_0.length : Int) < 1 then (spec_ProgOk.j0 k true l0_0) else (spec_ProgOk.j0 k (decide ((l0_0.length : Int) > 60)) l0_0)
def spec_ProgOk.T6 : Bool × List (List Nat × List Nat) := (true, [([], []), ([0], [0]), ([], []), ([1, 2], [1, 2]), ([3], [3]), ([], []), ([5], [5]), ([6], [6]), ([4, 7], [4, 7]), ([8], [8])])
def spec_ProgOk.B6 : List Nat := [0, 1, 0, 7, 15, 0, 32, 96, 255, 511]
theorem spec_ProgOk.tab6 : rtab .any (opsOf Try.f76 6) = spec_ProgOk.T6 := by kernel_rfl
theorem spec_ProgOk.bits6 : waitsOk spec_ProgOk.T6.2 spec_ProgOk.B6 = true := by kernel_rfl
theorem spec_ProgOk.calls (k : Nat) (A0_0 : Option Addr) (c0_0 : Nat) (l0_0 : List (S77)) (r : Bool) (w : World) (hr0_0 : Kd.C k77 w A0_0 l0_0.length l0_0) (hc0_0 : l0_0.length ≤ c0_0) (h : spec_ProgOk.f k l0_0 = some r) :
  Calls Try.prog 76 #[.agg #[.slice A0_0 l0_0.length c0_0]] w fun e w' => e = .returned (.bool r) ∧ Below w.heap.size w w' := by
 have hu38 := Try.underlying38
 have hu77 := Try.underlying77
 have HR0_0 := Aside0.mk hr0_0
 have HC0_0 := Aside0.mk hc0_0
 clear hr0_0 hc0_0
 have HB := Aside0.mk (Below.refl w.heap.size w)
 have H : (if (l0_0.length : Int) < 1 then (spec_ProgOk.j0 k true l0_0) else (spec_ProgOk.j0 k (decide ((l0_0.length : Int) > 60)) l0_0)) = some r := h
 clear h
 have HC2 := Aside0.mk H
 clear H
 go_enter Try.func76, Try.ntmps76
 go_upto_region 1 with (first | ((with_reducible refine gate_dst (N := 1) rfl ?_); (try (refine gate_guard (by rfl) ?_; dsimp only)); refine bxe (cs := #[.slice A0_0 l0_0.length c0_0]) (t := 38) ?_; intro gb125 hg w3 hbox hb; have BK125 := Aside0.mk (hbox); have GW125 := bwz HB hg; have GE125 := bwz HB hg; replace HB := bwb HB hb; clear hb hbox hg))
 (try simp only [Act.put, List.setIfInBounds_toArray, List.set_cons_zero, List.set_cons_succ])
 go_cut [13] (fun v13 wc => ∃ (kq : Nat) (x13_1 : Bool), v13 = .bool x13_1 ∧ Aside0 (spec_ProgOk.j0 kq x13_1 l0_0 = some r) ∧ Aside0 (kq ≤ k) ∧ Aside0 (wc.heap[gb125]? = some (.cells #[(.slice A0_0 l0_0.length c0_0)] 38 (0, 0))) ∧ Aside0 (Below w.heap.size w wc))
 case first =>
  have H := HC2.out
  clear HC2
  by_cases c4 : (l0_0.length : Int) < 1
  ·rw [if_pos c4] at H
   have c4b0 : decide ((l0_0.length : Int) < 1) = true := decide_eq_true c4
   have c4b1 : decide (l0_0.length < 1) = true := decide_eq_true (by omega)
   clear c4
   (first | rw [c4b0] | (simp only [i64_w, i32_w]; rw [c4b0]) | skip)
   have H' := Aside0.mk H
   clear H
   obtain ⟨hcz5, hfz5⟩ := bcf BK125
   go_wp2
   go_meet
   case rel => exact ⟨_, (true), (by first | rfl | (simp; done) | (simp [*]; done)), H', ⟨by first | omega | exact Nat.le_refl _⟩, ⟨bkq BK125⟩, ⟨bwq HB⟩⟩
  ·rw [if_neg c4] at H
   have c4b0 : decide ((l0_0.length : Int) < 1) = false := decide_eq_false c4
   have c4b1 : decide (l0_0.length < 1) = false := decide_eq_false (by omega)
   clear c4
   (first | rw [c4b0] | (simp only [i64_w, i32_w]; rw [c4b0]) | skip)
   have H' := Aside0.mk H
   clear H
   obtain ⟨hcz6, hfz6⟩ := bcf BK125
   go_wp2
   go_meet
   case rel => exact ⟨_, (decide ((l0_0.length : Int) > 60)), (by first | rfl | (simp; done) | (simp [*]; done)), H', ⟨by first | omega | exact Nat.le_refl _⟩, ⟨bkq BK125⟩, ⟨bwq HB⟩⟩
 case rest =>
  clear HC2
  try clear p2
  try clear c4
  try clear c4b0
  try clear c4b1
  try clear hcz5
  try clear hcz6
  try clear hfz5
  try clear hfz6
  obtain ⟨kq, x13_1, rfl, HA, HJ1, BK125, HB⟩ := hcut
  cases kq with
  | zero => exact absurd HA.out (by intro h_; first | (cases h_; done) | (simp [spec_ProgOk.j0] at h_))
  | succ kj1 =>
   have H := HA.out
   clear HA
   simp only [spec_ProgOk.j0] at H
   by_cases c7 : x13_1 = true
   ·subst c7
    rw [if_pos rfl] at H
    obtain rfl := Option.some.inj H
    go_wp2
    go_ret
    exact ⟨by first | rfl | (simp [errW_none, errW_some] <;> rfl) | (simp [*, errW_none, errW_some] <;> rfl), bwq HB⟩
   ·replace c7 := Bool.eq_false_iff.mpr c7
    subst c7
    have H1 : (spec_ProgOk.l0 kj1 0 l0_0) = some r := by rw [if_neg (show ¬ (false = true) by decide)] at H; exact H
    clear H
    have H := H1
    clear H1
    have H' := Aside0.mk H
    clear H
    go_wp2
    go_loopg [3] kj1 (fun kq v3 w' => ∃ (x3_2 : Int), v3 = .int .i64 x3_2 ∧ Aside0 (spec_ProgOk.l0 kq x3_2 l0_0 = some r) ∧ Aside0 (kq ≤ kj1) ∧ Aside0 (w'.heap[gb125]? = some (.cells #[(.slice A0_0 l0_0.length c0_0)] 38 (0, 0))) ∧ Aside0 (Below w.heap.size w w'))
    case atStart => exact ⟨(0), (by first | rfl | (simp; done) | (simp [*]; done)), H', ⟨Nat.le_refl _⟩, ⟨bkq BK125⟩, ⟨bwq HB⟩⟩
    case round =>
     clear H'
     try clear p2
     try clear c4
     try clear c4b0
     try clear c4b1
     try clear c7
     try clear hcz5
     try clear hcz6
     try clear hfz5
     try clear hfz6
     try clear p2
     obtain ⟨x3_2, rfl, HA, HK2, BK125, HB⟩ := hrel
     cases gk with
     | zero => exact absurd HA.out (by intro h_; first | (cases h_; done) | (simp [spec_ProgOk.l0] at h_))
     | succ k2 =>
      have H := HA.out
      clear HA
      simp only [spec_ProgOk.l0] at H
      by_cases c8 : x3_2 < (l0_0.length : Int)
      ·rw [if_pos c8] at H
       have c8b0 : decide (x3_2 < (l0_0.length : Int)) = true := decide_eq_true c8
       clear c8
       by_cases c9 : 0 ≤ x3_2
       ·rw [if_pos c9] at H
        have c9b0 : decide (0 ≤ x3_2) = true := decide_eq_true c9
        clear c9
        replace H := Option.bind_eq_some_iff.mp H
        obtain ⟨t127, A100, H⟩ := H
        have A10 := Aside0.mk A100
        clear A100
        by_cases c11 : t127 = true
        ·subst c11
         rw [if_pos rfl] at H
         have H' := Aside0.mk H
         clear H
         obtain ⟨hcz12, hfz12⟩ := bcf BK125
         try go_wp2
         replace BK125 := Aside0.mk (blk_drew BK125.out)
         replace HB := Aside0.mk (below_drew1 HB.out)
         have p126 : 0 ≤ (x3_2 : Int) := oda
         have q126 : x3_2 < (l0_0.length : Int) := oda
         obtain ⟨ad126, A126_7, c126_7, e126, hx126_0, hx126_1, hx126_2, hx126_3, hx126_4, hx126_5, hx126_6, hx126_7, hl126_7, hi126_7⟩ := at_T77 HR0_0.out x3_2 p126 q126
         have hw126_7 := hx126_7
         have hw126_6 := hx126_6
         have hw126_5 := hx126_5
         have hw126_4 := hx126_4
         have hw126_3 := hx126_3
         have hw126_2 := hx126_2
         have hw126_1 := hx126_1
         have hw126_0 := hx126_0
         cases e126
         replace hx126_0 := hxb HB hx126_0
         replace hx126_1 := hxb HB hx126_1
         replace hx126_2 := hxb HB hx126_2
         replace hx126_3 := hxb HB hx126_3
         replace hx126_4 := hxb HB hx126_4
         replace hx126_5 := hxb HB hx126_5
         replace hx126_6 := hxb HB hx126_6
         replace hx126_7 := hxb HB hx126_7
         have HR126_7 := Aside0.mk hi126_7
         have HC126_7 := Aside0.mk hl126_7
         clear hi126_7 hl126_7
         replace p126 := eq_true p126
         replace q126 := eq_true q126
         refine start_ (n := 10) (S := fun w' => w'.cell? ⟨gb125, 0, none⟩ = some (.slice (some ad126) l0_0.length c0_0) ∧ w'.cell? (ad126.add ((x3_2).toNat * 8)) = some (.int .i64 ((rd_T77 l0_0 x3_2).f0)) ∧ w'.cell? ⟨(ad126.add ((x3_2).toNat * 8)).block, (ad126.add ((x3_2).toNat * 8)).off + 1, none⟩ = some (.int .i64 ((rd_T77 l0_0 x3_2).f1)) ∧ w'.cell? ⟨(ad126.add ((x3_2).toNat * 8)).block, (ad126.add ((x3_2).toNat * 8)).off + 2, none⟩ = some (.int .i64 ((rd_T77 l0_0 x3_2).f2)) ∧ w'.cell? ⟨(ad126.add ((x3_2).toNat * 8)).block, (ad126.add ((x3_2).toNat * 8)).off + 3, none⟩ = some (.int .i64 ((rd_T77 l0_0 x3_2).f3.f0)) ∧ w'.cell? ⟨(ad126.add ((x3_2).toNat * 8)).block, (ad126.add ((x3_2).toNat * 8)).off + 4, none⟩ = some (.int .i64 ((rd_T77 l0_0 x3_2).f3.f1)) ∧ w'.cell? ⟨(ad126.add ((x3_2).toNat * 8)).block, (ad126.add ((x3_2).toNat * 8)).off + 5, none⟩ = some (.int .i64 ((rd_T77 l0_0 x3_2).f4.f0)) ∧ w'.cell? ⟨(ad126.add ((x3_2).toNat * 8)).block, (ad126.add ((x3_2).toNat * 8)).off + 6, none⟩ = some (.int .i64 ((rd_T77 l0_0 x3_2).f4.f1)) ∧ w'.cell? ⟨(ad126.add ((x3_2).toNat * 8)).block, (ad126.add ((x3_2).toNat * 8)).off + 7, none⟩ = some (.slice A126_7 ((rd_T77 l0_0 x3_2).f5).length c126_7)) (ds := []) #[false, false, false, false, false, false, false, false, false, false] (by kernel_rfl) rfl rfl ⟨(blk_cell BK125.out 0).trans rfl, ((HB.out.cell (World.block_lt_of_cell? w _ hw126_0)).trans hw126_0), ((HB.out.cell (World.block_lt_of_cell? w _ hw126_1)).trans hw126_1), ((HB.out.cell (World.block_lt_of_cell? w _ hw126_2)).trans hw126_2), ((HB.out.cell (World.block_lt_of_cell? w _ hw126_3)).trans hw126_3), ((HB.out.cell (World.block_lt_of_cell? w _ hw126_4)).trans hw126_4), ((HB.out.cell (World.block_lt_of_cell? w _ hw126_5)).trans hw126_5), ((HB.out.cell (World.block_lt_of_cell? w _ hw126_6)).trans hw126_6), ((HB.out.cell (World.block_lt_of_cell? w _ hw126_7)).trans hw126_7)⟩ (fun hHeld => ?_); refine with_tabW spec_ProgOk.tab6 spec_ProgOk.bits6 (fun HT_ HW_ => ?_)
         generalize wr.drew = w13 at BK125 HB HR126_7 hx126_0 hx126_1 hx126_2 hx126_3 hx126_4 hx126_5 hx126_6 hx126_7 hHeld ⊢
         refine pure_ (i := 0) (N := some 21) (v := ?_) (a' := ?_) #[true, false, false, false, false, false, false, false, false, false] rfl rfl (any_of HT_.out (by kernel_rfl)) (fun _ _ _ h => h) (Or.inl ⟨by rfl, ?_⟩) ?_ ?_
         rotate_left
         ·intro w'
          go_simp
          with_reducible rfl
         rotate_left
         ·simp only [Act.put, List.setIfInBounds_toArray, List.set_cons_zero, List.set_cons_succ, i64_w, i32_w]
          rfl
         refine pure_ (i := 2) (N := some 23) (v := ?_) (a' := ?_) #[true, false, true, false, false, false, false, false, false, false] rfl rfl (any_of HT_.out (by kernel_rfl)) (fun _ _ _ h => h) (Or.inl ⟨by rfl, ?_⟩) ?_ ?_
         rotate_left
         ·intro w'
          go_simp
          with_reducible rfl
         rotate_left
         ·simp only [Act.put, List.setIfInBounds_toArray, List.set_cons_zero, List.set_cons_succ, i64_w, i32_w]
          rfl
         refine pure_ (i := 5) (N := some 26) (v := ?_) (a' := ?_) #[true, false, true, false, false, true, false, false, false, false] rfl rfl (any_of HT_.out (by kernel_rfl)) (fun _ _ _ h => h) (Or.inl ⟨by rfl, ?_⟩) ?_ ?_
         rotate_left
         ·intro w'
          go_simp
          with_reducible rfl
         rotate_left
         ·simp only [Act.put, List.setIfInBounds_toArray, List.set_cons_zero, List.set_cons_succ, i64_w, i32_w]
          rfl
         refine take_ (i := 1) (N := some 22) (v := ?_) (a' := ?_) #[true, true, true, false, false, true, false, false, false, false] rfl rfl (take_ofW HT_.out HW_.out (by kernel_rfl)) (fun _ _ _ h => h) (Or.inl ⟨by rfl, ?_⟩) hHeld ?_ ?_
         rotate_left
         ·rintro w' ⟨s0, s1, s2, s3, s4, s5, s6, s7, s8⟩
          go_simp
          with_reducible rfl
         rotate_left
         ·simp only [Act.put, List.setIfInBounds_toArray, List.set_cons_zero, List.set_cons_succ, i64_w, i32_w]
          rfl
         refine pure_ (i := 3) (N := some 24) (v := ?_) (a' := ?_) #[true, true, true, true, false, true, false, false, false, false] rfl rfl (any_of HT_.out (by kernel_rfl)) (fun _ _ _ h => h) (Or.inl ⟨by rfl, ?_⟩) ?_ ?_
         rotate_left
         ·intro w'
          go_simp
          with_reducible rfl
         rotate_left
         ·simp only [Act.put, List.setIfInBounds_toArray, List.set_cons_zero, List.set_cons_succ, i64_w, i32_w]
          rfl
         refine take_ (i := 4) (N := some 25) (v := ?_) (a' := ?_) #[true, true, true, true, true, true, false, false, false, false] rfl rfl (take_ofW HT_.out HW_.out (by kernel_rfl)) (fun _ _ _ h => h) (Or.inl ⟨by rfl, ?_⟩) hHeld ?_ ?_
         rotate_left
         ·rintro w' ⟨s0, s1, s2, s3, s4, s5, s6, s7, s8⟩
          go_simp
          with_reducible rfl
         rotate_left
         ·simp only [Act.put, List.setIfInBounds_toArray, List.set_cons_zero, List.set_cons_succ, i64_w, i32_w]
          rfl
         refine take_ (i := 6) (N := some 27) (v := ?_) (a' := ?_) #[true, true, true, true, true, true, true, false, false, false] rfl rfl (take_ofW HT_.out HW_.out (by kernel_rfl)) (fun _ _ _ h => h) (Or.inl ⟨by rfl, ?_⟩) hHeld ?_ ?_
         rotate_left
         ·rintro w' ⟨s0, s1, s2, s3, s4, s5, s6, s7, s8⟩
          go_simp
          with_reducible rfl
         rotate_left
         ·simp only [Act.put, List.setIfInBounds_toArray, List.set_cons_zero, List.set_cons_succ, i64_w, i32_w]
          rfl
         refine pure_ (i := 7) (N := some 28) (v := ?_) (a' := ?_) #[true, true, true, true, true, true, true, true, false, false] rfl rfl (any_of HT_.out (by kernel_rfl)) (fun _ _ _ h => h) (Or.inl ⟨by rfl, ?_⟩) ?_ ?_
         rotate_left
         ·intro w'
          go_simp
          with_reducible rfl
         rotate_left
         ·simp only [Act.put, List.setIfInBounds_toArray, List.set_cons_zero, List.set_cons_succ, i64_w, i32_w]
          rfl
         refine one_ (i := 8) (N := some 29) #[true, true, true, true, true, true, true, true, true, false] rfl rfl (one_of HT_.out (by kernel_rfl)) (by decide) (fun K hK => ?_)
         refine goesS Try.func110 #[.agg #[.int .i64 ((rd_T77 l0_0 x3_2).f0), .int .i64 ((rd_T77 l0_0 x3_2).f1), .int .i64 ((rd_T77 l0_0 x3_2).f2), .int .i64 ((rd_T77 l0_0 x3_2).f3.f0), .int .i64 ((rd_T77 l0_0 x3_2).f3.f1), .int .i64 ((rd_T77 l0_0 x3_2).f4.f0), .int .i64 ((rd_T77 l0_0 x3_2).f4.f1), .slice A126_7 ((rd_T77 l0_0 x3_2).f5).length c126_7], .int .i64 (l0_0.length : Int)] rfl rfl ?_
         with_reducible refine (spec_l1Step.calls k2 ((rd_T77 l0_0 x3_2).f0) ((rd_T77 l0_0 x3_2).f1) ((rd_T77 l0_0 x3_2).f2) ((rd_T77 l0_0 x3_2).f3.f0) ((rd_T77 l0_0 x3_2).f3.f1) ((rd_T77 l0_0 x3_2).f4.f0) ((rd_T77 l0_0 x3_2).f4.f1) _ _ ((rd_T77 l0_0 x3_2).f5) (l0_0.length : Int) true _ ?side1 ?side2 A10.out).mono ?_
         (case side1 => exact Cq (Kd.C_below HR126_7.out HB.out))
         (case side2 => exact HC126_7.out)
         rintro e w14 ⟨rfl, hb⟩
         refine ⟨_, rfl, ?_⟩
         replace BK125 := bkb BK125 hb
         replace HB := bwb HB hb
         (try clear hb)
         (try clear hb2)
         (try clear hk)
         (try clear hi)
         refine hK.out _ _ ⟨(blk_cell BK125.out 0).trans rfl, ((HB.out.cell (World.block_lt_of_cell? w _ hw126_0)).trans hw126_0), ((HB.out.cell (World.block_lt_of_cell? w _ hw126_1)).trans hw126_1), ((HB.out.cell (World.block_lt_of_cell? w _ hw126_2)).trans hw126_2), ((HB.out.cell (World.block_lt_of_cell? w _ hw126_3)).trans hw126_3), ((HB.out.cell (World.block_lt_of_cell? w _ hw126_4)).trans hw126_4), ((HB.out.cell (World.block_lt_of_cell? w _ hw126_5)).trans hw126_5), ((HB.out.cell (World.block_lt_of_cell? w _ hw126_6)).trans hw126_6), ((HB.out.cell (World.block_lt_of_cell? w _ hw126_7)).trans hw126_7)⟩ (fun hHeld => ?_)
         clear hK K
         refine norm_ (a' := ?_) ?_ ?_
         rotate_left
         ·show Act.put _ (some 29) _ = _
          simp only [Act.put, List.setIfInBounds_toArray, List.set_cons_zero, List.set_cons_succ, i64_w, i32_w]
          rfl
         refine pure_ (i := 9) (N := some 30) (v := ?_) (a' := ?_) #[true, true, true, true, true, true, true, true, true, true] rfl rfl (any_of HT_.out (by kernel_rfl)) (fun _ _ _ h => h) (Or.inl ⟨by rfl, ?_⟩) ?_ ?_
         rotate_left
         ·intro w'
          go_simp
          with_reducible rfl
         rotate_left
         ·simp only [Act.put, List.setIfInBounds_toArray, List.set_cons_zero, List.set_cons_succ, i64_w, i32_w]
          rfl
         refine done_ (done_of HT_.out (by kernel_rfl)) ?_
         try go_wp2
         go_roundg k2
         case measure => have := HJ1.out; have := HK2.out; omega
         case rel => exact ⟨(wrap64 (x3_2 + 1)), (by first | rfl | (simp; done) | (simp [*]; done)), H', ⟨by have := HJ1.out; have := HK2.out; omega⟩, ⟨bkq BK125⟩, ⟨bwq HB⟩⟩
        ·replace c11 := Bool.eq_false_iff.mpr c11
         subst c11
         have H1 : (some false) = some r := by rw [if_neg (show ¬ (false = true) by decide)] at H; exact H
         clear H
         have H := H1
         clear H1
         obtain rfl := Option.some.inj H
         obtain ⟨hcz15, hfz15⟩ := bcf BK125
         try go_wp2
         replace BK125 := Aside0.mk (blk_drew BK125.out)
         replace HB := Aside0.mk (below_drew1 HB.out)
         have p126 : 0 ≤ (x3_2 : Int) := oda
         have q126 : x3_2 < (l0_0.length : Int) := oda
         obtain ⟨ad126, A126_7, c126_7, e126, hx126_0, hx126_1, hx126_2, hx126_3, hx126_4, hx126_5, hx126_6, hx126_7, hl126_7, hi126_7⟩ := at_T77 HR0_0.out x3_2 p126 q126
         have hw126_7 := hx126_7
         have hw126_6 := hx126_6
         have hw126_5 := hx126_5
         have hw126_4 := hx126_4
         have hw126_3 := hx126_3
         have hw126_2 := hx126_2
         have hw126_1 := hx126_1
         have hw126_0 := hx126_0
         cases e126
         replace hx126_0 := hxb HB hx126_0
         replace hx126_1 := hxb HB hx126_1
         replace hx126_2 := hxb HB hx126_2
         replace hx126_3 := hxb HB hx126_3
         replace hx126_4 := hxb HB hx126_4
         replace hx126_5 := hxb HB hx126_5
         replace hx126_6 := hxb HB hx126_6
         replace hx126_7 := hxb HB hx126_7
         have HR126_7 := Aside0.mk hi126_7
         have HC126_7 := Aside0.mk hl126_7
         clear hi126_7 hl126_7
         replace p126 := eq_true p126
         replace q126 := eq_true q126
         refine start_ (n := 10) (S := fun w' => w'.cell? ⟨gb125, 0, none⟩ = some (.slice (some ad126) l0_0.length c0_0) ∧ w'.cell? (ad126.add ((x3_2).toNat * 8)) = some (.int .i64 ((rd_T77 l0_0 x3_2).f0)) ∧ w'.cell? ⟨(ad126.add ((x3_2).toNat * 8)).block, (ad126.add ((x3_2).toNat * 8)).off + 1, none⟩ = some (.int .i64 ((rd_T77 l0_0 x3_2).f1)) ∧ w'.cell? ⟨(ad126.add ((x3_2).toNat * 8)).block, (ad126.add ((x3_2).toNat * 8)).off + 2, none⟩ = some (.int .i64 ((rd_T77 l0_0 x3_2).f2)) ∧ w'.cell? ⟨(ad126.add ((x3_2).toNat * 8)).block, (ad126.add ((x3_2).toNat * 8)).off + 3, none⟩ = some (.int .i64 ((rd_T77 l0_0 x3_2).f3.f0)) ∧ w'.cell? ⟨(ad126.add ((x3_2).toNat * 8)).block, (ad126.add ((x3_2).toNat * 8)).off + 4, none⟩ = some (.int .i64 ((rd_T77 l0_0 x3_2).f3.f1)) ∧ w'.cell? ⟨(ad126.add ((x3_2).toNat * 8)).block, (ad126.add ((x3_2).toNat * 8)).off + 5, none⟩ = some (.int .i64 ((rd_T77 l0_0 x3_2).f4.f0)) ∧ w'.cell? ⟨(ad126.add ((x3_2).toNat * 8)).block, (ad126.add ((x3_2).toNat * 8)).off + 6, none⟩ = some (.int .i64 ((rd_T77 l0_0 x3_2).f4.f1)) ∧ w'.cell? ⟨(ad126.add ((x3_2).toNat * 8)).block, (ad126.add ((x3_2).toNat * 8)).off + 7, none⟩ = some (.slice A126_7 ((rd_T77 l0_0 x3_2).f5).length c126_7)) (ds := []) #[false, false, false, false, false, false, false, false, false, false] (by kernel_rfl) rfl rfl ⟨(blk_cell BK125.out 0).trans rfl, ((HB.out.cell (World.block_lt_of_cell? w _ hw126_0)).trans hw126_0), ((HB.out.cell (World.block_lt_of_cell? w _ hw126_1)).trans hw126_1), ((HB.out.cell (World.block_lt_of_cell? w _ hw126_2)).trans hw126_2), ((HB.out.cell (World.block_lt_of_cell? w _ hw126_3)).trans hw126_3), ((HB.out.cell (World.block_lt_of_cell? w _ hw126_4)).trans hw126_4), ((HB.out.cell (World.block_lt_of_cell? w _ hw126_5)).trans hw126_5), ((HB.out.cell (World.block_lt_of_cell? w _ hw126_6)).trans hw126_6), ((HB.out.cell (World.block_lt_of_cell? w _ hw126_7)).trans hw126_7)⟩ (fun hHeld => ?_); refine with_tabW spec_ProgOk.tab6 spec_ProgOk.bits6 (fun HT_ HW_ => ?_)
         generalize wr.drew = w16 at BK125 HB HR126_7 hx126_0 hx126_1 hx126_2 hx126_3 hx126_4 hx126_5 hx126_6 hx126_7 hHeld ⊢
         refine pure_ (i := 0) (N := some 21) (v := ?_) (a' := ?_) #[true, false, false, false, false, false, false, false, false, false] rfl rfl (any_of HT_.out (by kernel_rfl)) (fun _ _ _ h => h) (Or.inl ⟨by rfl, ?_⟩) ?_ ?_
         rotate_left
         ·intro w'
          go_simp
          with_reducible rfl
         rotate_left
         ·simp only [Act.put, List.setIfInBounds_toArray, List.set_cons_zero, List.set_cons_succ, i64_w, i32_w]
          rfl
         refine pure_ (i := 2) (N := some 23) (v := ?_) (a' := ?_) #[true, false, true, false, false, false, false, false, false, false] rfl rfl (any_of HT_.out (by kernel_rfl)) (fun _ _ _ h => h) (Or.inl ⟨by rfl, ?_⟩) ?_ ?_
         rotate_left
         ·intro w'
          go_simp
          with_reducible rfl
         rotate_left
         ·simp only [Act.put, List.setIfInBounds_toArray, List.set_cons_zero, List.set_cons_succ, i64_w, i32_w]
          rfl
         refine pure_ (i := 5) (N := some 26) (v := ?_) (a' := ?_) #[true, false, true, false, false, true, false, false, false, false] rfl rfl (any_of HT_.out (by kernel_rfl)) (fun _ _ _ h => h) (Or.inl ⟨by rfl, ?_⟩) ?_ ?_
         rotate_left
         ·intro w'
          go_simp
          with_reducible rfl
         rotate_left
         ·simp only [Act.put, List.setIfInBounds_toArray, List.set_cons_zero, List.set_cons_succ, i64_w, i32_w]
          rfl
         refine take_ (i := 1) (N := some 22) (v := ?_) (a' := ?_) #[true, true, true, false, false, true, false, false, false, false] rfl rfl (take_ofW HT_.out HW_.out (by kernel_rfl)) (fun _ _ _ h => h) (Or.inl ⟨by rfl, ?_⟩) hHeld ?_ ?_
         rotate_left
         ·rintro w' ⟨s0, s1, s2, s3, s4, s5, s6, s7, s8⟩
          go_simp
          with_reducible rfl
         rotate_left
         ·simp only [Act.put, List.setIfInBounds_toArray, List.set_cons_zero, List.set_cons_succ, i64_w, i32_w]
          rfl
         refine pure_ (i := 3) (N := some 24) (v := ?_) (a' := ?_) #[true, true, true, true, false, true, false, false, false, false] rfl rfl (any_of HT_.out (by kernel_rfl)) (fun _ _ _ h => h) (Or.inl ⟨by rfl, ?_⟩) ?_ ?_
         rotate_left
         ·intro w'
          go_simp
          with_reducible rfl
         rotate_left
         ·simp only [Act.put, List.setIfInBounds_toArray, List.set_cons_zero, List.set_cons_succ, i64_w, i32_w]
          rfl
         refine take_ (i := 4) (N := some 25) (v := ?_) (a' := ?_) #[true, true, true, true, true, true, false, false, false, false] rfl rfl (take_ofW HT_.out HW_.out (by kernel_rfl)) (fun _ _ _ h => h) (Or.inl ⟨by rfl, ?_⟩) hHeld ?_ ?_
         rotate_left
         ·rintro w' ⟨s0, s1, s2, s3, s4, s5, s6, s7, s8⟩
          go_simp
          with_reducible rfl
         rotate_left
         ·simp only [Act.put, List.setIfInBounds_toArray, List.set_cons_zero, List.set_cons_succ, i64_w, i32_w]
          rfl
         refine take_ (i := 6) (N := some 27) (v := ?_) (a' := ?_) #[true, true, true, true, true, true, true, false, false, false] rfl rfl (take_ofW HT_.out HW_.out (by kernel_rfl)) (fun _ _ _ h => h) (Or.inl ⟨by rfl, ?_⟩) hHeld ?_ ?_
         rotate_left
         ·rintro w' ⟨s0, s1, s2, s3, s4, s5, s6, s7, s8⟩
          go_simp
          with_reducible rfl
         rotate_left
         ·simp only [Act.put, List.setIfInBounds_toArray, List.set_cons_zero, List.set_cons_succ, i64_w, i32_w]
          rfl
         refine pure_ (i := 7) (N := some 28) (v := ?_) (a' := ?_) #[true, true, true, true, true, true, true, true, false, false] rfl rfl (any_of HT_.out (by kernel_rfl)) (fun _ _ _ h => h) (Or.inl ⟨by rfl, ?_⟩) ?_ ?_
         rotate_left
         ·intro w'
          go_simp
          with_reducible rfl
         rotate_left
         ·simp only [Act.put, List.setIfInBounds_toArray, List.set_cons_zero, List.set_cons_succ, i64_w, i32_w]
          rfl
         refine one_ (i := 8) (N := some 29) #[true, true, true, true, true, true, true, true, true, false] rfl rfl (one_of HT_.out (by kernel_rfl)) (by decide) (fun K hK => ?_)
         refine goesS Try.func110 #[.agg #[.int .i64 ((rd_T77 l0_0 x3_2).f0), .int .i64 ((rd_T77 l0_0 x3_2).f1), .int .i64 ((rd_T77 l0_0 x3_2).f2), .int .i64 ((rd_T77 l0_0 x3_2).f3.f0), .int .i64 ((rd_T77 l0_0 x3_2).f3.f1), .int .i64 ((rd_T77 l0_0 x3_2).f4.f0), .int .i64 ((rd_T77 l0_0 x3_2).f4.f1), .slice A126_7 ((rd_T77 l0_0 x3_2).f5).length c126_7], .int .i64 (l0_0.length : Int)] rfl rfl ?_
         with_reducible refine (spec_l1Step.calls k2 ((rd_T77 l0_0 x3_2).f0) ((rd_T77 l0_0 x3_2).f1) ((rd_T77 l0_0 x3_2).f2) ((rd_T77 l0_0 x3_2).f3.f0) ((rd_T77 l0_0 x3_2).f3.f1) ((rd_T77 l0_0 x3_2).f4.f0) ((rd_T77 l0_0 x3_2).f4.f1) _ _ ((rd_T77 l0_0 x3_2).f5) (l0_0.length : Int) false _ ?side1 ?side2 A10.out).mono ?_
         (case side1 => exact Cq (Kd.C_below HR126_7.out HB.out))
         (case side2 => exact HC126_7.out)
         rintro e w17 ⟨rfl, hb⟩
         refine ⟨_, rfl, ?_⟩
         replace BK125 := bkb BK125 hb
         replace HB := bwb HB hb
         (try clear hb)
         (try clear hb2)
         (try clear hk)
         (try clear hi)
         refine hK.out _ _ ⟨(blk_cell BK125.out 0).trans rfl, ((HB.out.cell (World.block_lt_of_cell? w _ hw126_0)).trans hw126_0), ((HB.out.cell (World.block_lt_of_cell? w _ hw126_1)).trans hw126_1), ((HB.out.cell (World.block_lt_of_cell? w _ hw126_2)).trans hw126_2), ((HB.out.cell (World.block_lt_of_cell? w _ hw126_3)).trans hw126_3), ((HB.out.cell (World.block_lt_of_cell? w _ hw126_4)).trans hw126_4), ((HB.out.cell (World.block_lt_of_cell? w _ hw126_5)).trans hw126_5), ((HB.out.cell (World.block_lt_of_cell? w _ hw126_6)).trans hw126_6), ((HB.out.cell (World.block_lt_of_cell? w _ hw126_7)).trans hw126_7)⟩ (fun hHeld => ?_)
         clear hK K
         refine norm_ (a' := ?_) ?_ ?_
         rotate_left
         ·show Act.put _ (some 29) _ = _
          simp only [Act.put, List.setIfInBounds_toArray, List.set_cons_zero, List.set_cons_succ, i64_w, i32_w]
          rfl
         refine pure_ (i := 9) (N := some 30) (v := ?_) (a' := ?_) #[true, true, true, true, true, true, true, true, true, true] rfl rfl (any_of HT_.out (by kernel_rfl)) (fun _ _ _ h => h) (Or.inl ⟨by rfl, ?_⟩) ?_ ?_
         rotate_left
         ·intro w'
          go_simp
          with_reducible rfl
         rotate_left
         ·simp only [Act.put, List.setIfInBounds_toArray, List.set_cons_zero, List.set_cons_succ, i64_w, i32_w]
          rfl
         refine done_ (done_of HT_.out (by kernel_rfl)) ?_
         try go_wp2
         go_ret
         exact ⟨by first | rfl | (simp [errW_none, errW_some] <;> rfl) | (simp [*, errW_none, errW_some] <;> rfl), bwq HB⟩
       ·rw [if_neg c9] at H
        exact absurd H (by simp)
      ·rw [if_neg c8] at H
       have c8b0 : decide (x3_2 < (l0_0.length : Int)) = false := decide_eq_false c8
       clear c8
       obtain rfl := Option.some.inj H
       obtain ⟨hcz18, hfz18⟩ := bcf BK125
       go_wp2
       go_ret
       exact ⟨by first | rfl | (simp [errW_none, errW_some] <;> rfl) | (simp [*, errW_none, errW_some] <;> rfl), bwq HB⟩
end Go.Proofs.Ytcgbbhkjkkpfoaa.P
namespace Go.Proofs.Ytcgbbhkjkkpfoaa.P
open Go.RowKit Go.Proofs.YtcgbbhkjkkpfoaaW.PrintWords Go.Proofs.YtcgbbhkjkkpfoaaW.PrintLast Go.Proofs.YtcgbbhkjkkpfoaaW.PrintMore
theorem l6In_eq (a b c : Int) : spec_l6In.f a b c = some (inB a b c) := by
 unfold spec_l6In.f inB
 by_cases h : a ≥ b
 ·rw [if_pos h]; simp; omega
 ·rw [if_neg h]; simp; omega
theorem l1Many_eq (k : Int) : spec_l1Many.f k = some (if inB k 1 7 = true then nextsZ k else -1) := by
 unfold spec_l1Many.f nextsZ
 by_cases h5 : k = 5
 ·subst h5; rfl
 by_cases h7 : k = 7
 ·subst h7; rfl
 rw [if_neg h5, if_neg h7, if_neg h5, if_neg h7]
 by_cases h : inB k 1 7 = true
 ·rw [if_pos h]
  have hh : 1 ≤ k ∧ k ≤ 7 := by unfold inB at h; simpa using h
  have : k = 1 ∨ k = 2 ∨ k = 3 ∨ k = 4 ∨ k = 6 := by omega
  rcases this with rfl | rfl | rfl | rfl | rfl <;> rfl
 ·rw [if_neg h]
  have hh : ¬ (1 ≤ k ∧ k ≤ 7) := by unfold inB at h; simpa using h
  rw [if_neg (by omega), if_neg (by omega), if_neg (by omega), if_neg (by omega), if_neg (by omega)]
theorem l1Opnd_eq (v n : Int) : spec_l1Opnd.f v n = some (opOkB v n) := by
 unfold spec_l1Opnd.f opOkB
 rw [l6In_eq, l6In_eq]
 by_cases h : v = -1
 ·subst h
  rw [if_pos rfl]
  simp [inB]
 ·rw [if_neg h]
  simp only [Option.bind_some]
  by_cases h2 : inB v 0 11 = true <;> simp [h, h2]
def restB (s : Stp) : Bool := (if useAB s.f0 = true then opOkB s.f3.f0 s.f3.f1 else s.f3.f0 == 0 && s.f3.f1 == 0) &&
 (if s.f0 = 1 then inB s.f2 1 4 && opOkB s.f4.f0 s.f4.f1 else s.f2 == 0 && (s.f4.f0 == 0 && s.f4.f1 == 0))
theorem j2_ev (s : Stp) (b : Bool) : Ev (fun k => spec_l1Step.j2 k b s.f0 s.f1 s.f2 s.f3.f0 s.f3.f1 s.f4.f0 s.f4.f1 s.f5 0 0) (!b && restB s) := by
 refine Ev.step (fun k => by rw [spec_l1Step.j2]) (Ev.const ?_)
 cases b
 ·rw [if_neg (by decide)]
  simp only [l6In_eq, l1Opnd_eq, Option.bind_some]
  unfold restB useAB
  by_cases h1 : s.f0 = 1
  ·rw [if_pos h1]; simp only [h1]
   cases inB s.f2 1 4 <;> cases opOkB s.f3.f0 s.f3.f1 <;> simp
  rw [if_neg h1]
  by_cases h2 : s.f0 = 2
  ·rw [if_pos h2]; simp only [h2]
   by_cases h0 : s.f2 = 0 <;> cases opOkB s.f3.f0 s.f3.f1 <;> simp [h0]
  rw [if_neg h2]
  by_cases h4 : s.f0 = 4
  ·rw [if_pos h4]; simp only [h4]
   by_cases h0 : s.f2 = 0 <;> cases opOkB s.f3.f0 s.f3.f1 <;> simp [h0]
  rw [if_neg h4]
  by_cases h5 : s.f0 = 5
  ·rw [if_pos h5]; simp only [h5]
   by_cases h0 : s.f2 = 0 <;> cases opOkB s.f3.f0 s.f3.f1 <;> simp [h0]
  rw [if_neg h5]
  by_cases h0 : s.f2 = 0
  ·rw [if_pos h0]
   generalize (s.f3.f0 == 0 && s.f3.f1 == 0) = b3
   cases b3 <;> simp [h0, h1, h2, h4, h5]
  ·rw [if_neg h0]; simp [h0, h1, h2, h4, h5]
 ·rfl
theorem j1_ev (s : Stp) (b : Bool) (hb : b = chB s.f0) : Ev (fun k => spec_l1Step.j1 k b s.f0 s.f1 s.f2 s.f3.f0 s.f3.f1 s.f4.f0 s.f4.f1 s.f5 0 0) ((if chB s.f0 = true then inB s.f1 0 11 else s.f1 == 0) && restB s) := by
 subst hb
 refine Ev.step (fun k => by rw [spec_l1Step.j1]) ?_
 refine Ev.cases (fun h => ?_) (fun h => ?_)
 ·rw [if_pos h]
  refine Ev.bind (Ev.const (l6In_eq _ _ _)) ?_
  refine Ev.cases (fun h2 => ?_) (fun h2 => ?_)
  ·rw [h2]; exact j2_ev s false
  ·rw [show inB s.f1 0 11 = false by simpa using h2]; exact j2_ev s true
 ·rw [if_neg h]
  refine Ev.eq (j2_ev s _) ?_
  simp [bne]
theorem l1Step_loop (s : Stp) (n : Int) (h0 : 0 ≤ n) (h1 : n ≤ 140737488355328) (hs : s.f5.length ≤ 2) (hk : inB s.f0 1 7 = true) : ∀ (d i : Nat), i + d = s.f5.length →
  Ev (fun k => spec_l1Step.l0 k n (i : Int) s.f0 s.f1 s.f2 s.f3.f0 s.f3.f1 s.f4.f0 s.f4.f1 s.f5) ((s.f5.drop i).all (fun x => inB x 0 (n - 1)) && ((if chB s.f0 = true then inB s.f1 0 11 else s.f1 == 0) && restB s))
 | 0, i, hd => by
  refine Ev.step (fun k => by rw [spec_l1Step.l0]) ?_
  rw [List.drop_eq_nil_of_le (by omega)]
  refine Ev.neg (by omega) (Ev.cases (fun h => j1_ev s true ?_) (fun h => Ev.cases (fun h => j1_ev s true ?_) (fun h2 => j1_ev s _ ?_)))
  ·rw [h]; rfl
  ·rw [h]; rfl
  ·have hh : 1 ≤ s.f0 ∧ s.f0 ≤ 7 := by unfold inB at hk; simpa using hk
   have : s.f0 = 3 ∨ s.f0 = 4 ∨ s.f0 = 5 ∨ s.f0 = 6 ∨ s.f0 = 7 := by omega
   rcases this with h | h | h | h | h <;> rw [h] <;> rfl
 | d + 1, i, hd => by
  have hi : i < s.f5.length := by omega
  refine Ev.step (fun k => by rw [spec_l1Step.l0]) ?_
  refine Ev.pos (by omega) (Ev.pos (by omega) ?_)
  rw [rdN hi, wrapN (by omega), wrapI (by omega) (by omega), drop_at hi]
  refine Ev.bind (Ev.const (l6In_eq _ _ _)) ?_
  rw [List.all_cons]
  refine Ev.cases (fun h => ?_) (fun h => ?_)
  ·rw [h, Bool.true_and]; exact l1Step_loop s n h0 h1 hs hk d (i + 1) (by omega)
  ·rw [show inB s.f5[i] 0 (n - 1) = false by simpa using h]; exact Ev.now _
theorem l1Step_ev (s : Stp) (n : Int) (h0 : 0 ≤ n) (h1 : n ≤ 140737488355328) : Ev (fun k => spec_l1Step.f k s.f0 s.f1 s.f2 s.f3.f0 s.f3.f1 s.f4.f0 s.f4.f1 s.f5 n) (stepOkB n s) := by
 unfold spec_l1Step.f
 refine Ev.bind (Ev.const (l1Many_eq _)) ?_
 have e : ∀ l : List Int, (!l.any (fun x => !inB x 0 (n - 1))) = l.all (fun x => inB x 0 (n - 1)) := fun l => by
  induction l with
  | nil => rfl
  | cons x l ih => rw [List.any_cons, List.all_cons, Bool.not_or, Bool.not_not, ih]
 unfold stepOkB
 rw [e]
 by_cases hk : inB s.f0 1 7 = true
 ·rw [if_pos hk]
  refine Ev.cases (fun h => ?_) (fun h => ?_)
  ·have hz : nextsZ s.f0 ≤ 2 := by unfold nextsZ; split <;> (try split) <;> omega
   refine Ev.eq (l1Step_loop s n h0 h1 (by omega) hk s.f5.length 0 (by omega)) ?_
   rw [List.drop_zero, hk, show ((s.f5.length : Int) == nextsZ s.f0) = true from beq_iff_eq.2 h]
   rfl
  ·rw [show ((s.f5.length : Int) == nextsZ s.f0) = false from beq_eq_false_iff_ne.2 h]
   exact Ev.eq (Ev.now _) (by simp)
 ·rw [if_neg hk]
  refine Ev.neg (by omega) (Ev.eq (Ev.now _) ?_)
  rw [show inB s.f0 1 7 = false by simpa using hk]; rfl
theorem progOk_loop (l : List Stp) (hl : l.length ≤ 60) : ∀ (d i : Nat), i + d = l.length → Ev (fun k => spec_ProgOk.l0 k (i : Int) l) ((l.drop i).all (stepOkB l.length))
 | 0, i, hd => by
  refine Ev.step (fun k => by rw [spec_ProgOk.l0]) ?_
  rw [List.drop_eq_nil_of_le (by omega)]
  exact Ev.neg (by omega) (Ev.now _)
 | d + 1, i, hd => by
  have hi : i < l.length := by omega
  refine Ev.step (fun k => by rw [spec_ProgOk.l0]) ?_
  refine Ev.pos (by omega) (Ev.pos (by omega) ?_)
  rw [rdS hi, wrapN (by omega), drop_at hi, List.all_cons]
  refine Ev.bind (l1Step_ev l[i] l.length (by omega) (by omega)) (Ev.cases (fun h => ?_) (fun h => ?_))
  ·rw [h, Bool.true_and]; exact progOk_loop l hl d (i + 1) (by omega)
  ·rw [show stepOkB l.length l[i] = false by simpa using h]; exact Ev.now _
theorem specProgOk_ev (l : List Stp) : Ev (fun k => spec_ProgOk.f k l) (progOkB l) := by
 unfold spec_ProgOk.f progOkB
 refine Ev.cases (fun h => ?_) (fun h => ?_)
 ·refine Ev.step (fun k => by rw [spec_ProgOk.j0]) (Ev.pos rfl (Ev.eq (Ev.now _) ?_))
  rw [decide_eq_false (by omega)]; rfl
 ·refine Ev.step (fun k => by rw [spec_ProgOk.j0]) (Ev.cases (fun h2 => Ev.eq (Ev.now _) ?_) (fun h2 => ?_))
  ·have := of_decide_eq_true h2
   rw [decide_eq_false (p := l.length ≤ 60) (by omega), Bool.false_and, Bool.and_false]
  ·have : ¬ ((l.length : Int) > 60) := fun c => h2 (decide_eq_true c)
   refine Ev.eq (progOk_loop l (by omega) l.length 0 (by omega)) ?_
   rw [List.drop_zero, decide_eq_true (show 1 ≤ l.length by omega), decide_eq_true (show l.length ≤ 60 by omega)]
   rfl
theorem progOk_len {l : List Stp} (h : progOkB l = true) : 1 ≤ l.length ∧ l.length ≤ 60 := by unfold progOkB at h; simp at h; exact ⟨h.1, h.2.1⟩
theorem progOk_step {l : List Stp} (h : progOkB l = true) {s : Stp} (hs : s ∈ l) : stepOkB l.length s = true := by unfold progOkB at h; simp at h; exact h.2.2 s hs
theorem stepOk_next {n : Int} {s : Stp} (h : stepOkB n s = true) {x : Int} (hx : x ∈ s.f5) : 0 ≤ x ∧ x < n := by
 unfold stepOkB at h
 simp at h
 have := h.2.2.1 x hx
 unfold inB at this
 simp at this
 omega
theorem stepOk_many {n : Int} {s : Stp} (h : stepOkB n s = true) : (s.f5.length : Int) = nextsZ s.f0 := by
 unfold stepOkB at h
 simp at h
 exact h.2.1
theorem stepOk_kind {n : Int} {s : Stp} (h : stepOkB n s = true) : 1 ≤ s.f0 ∧ s.f0 ≤ 7 := by
 unfold stepOkB inB at h
 simp at h
 exact h.1
theorem clone_calls (A : Option Addr) (c : Nat) (l : List Bool) (w : World) (h0 : 0 < l.length) (hl : l.length < 140737488355328) (hr : Kd.C Kd.bool w A l.length l) :
  Calls Try.prog 103 #[.slice A l.length c] w fun e w' => ∃ v : Value, e = .returned v ∧ Kd.R Kd.bool 4 w' w.heap.size (fun _ => True) v l ∧ Below w.heap.size w w' := by
 obtain ⟨ad, rfl, _⟩ := hr.2.2 h0
 have HR := Aside0.mk hr
 have HL := Aside0.mk hl
 have e1 := fun w : World => Lib.run_eql_slice_nil (P := Try.prog) w 29 4 (some ad) l.length c 0 0 Try.underlying29
 clear hr hl h0
 go_enter Try.func103, Try.ntmps103
 go_wp2_with (first | ((with_reducible refine gate_dst (N := 5) rfl ?_); refine Kd.R_lit Kd.bool _ 4 ?hg (N := 5) ?hd (xs := ([] : List Bool)) (inner := []) (ok := fun _ => True) (okp := fun _ => True) ?hr ?hp (fun _ hk => hk) trivial (Below.refl _ _) (Nat.le_refl _) (by simp) ?_; (case hd => rfl); (case hg => rfl); (case hr => first | (go_simp; done) | (go_simp; rfl)); (case hp => exact (Reps.none _ _)); intro v1 w1 ho hb hg_ hnew_; clear hg_ hnew_; have HO := Aside0.mk ho; have HB := Aside0.mk hb; clear hb ho) | (at_builtin; refine Kd.R_append_rows Kd.bool (w0 := w) w.heap.size rfl (.tmp 5) (.tmp 6) 29 4 (.bool false) 1 rfl Try.underlying29 info4 rfl (by decide) (by omega) v1 [] l _ _ _ (fun _ => True) (fun _ => False) rfl rfl HO.out (Kd.C_below HR.out HB.out) (fun _ _ h => h) (fun _ h => h.elim) (fun _ _ => trivial) HB.out HB.out.size (by have := HL.out; simp; omega) ?_; intro v2 w2 ho hb hg_ hnew_; clear hg_ hnew_; have HO2 := Aside0.mk ho; have HB2 := Aside0.mk hb; clear ho hb))
 go_ret
 exact ⟨_, rfl, HO2.out, HB2.out⟩
end Go.Proofs.Ytcgbbhkjkkpfoaa.P
namespace Go.Proofs.Ytcgbbhkjkkpfoaa.P
open Go.RowKit Go.Proofs.YtcgbbhkjkkpfoaaW.PrintWords Go.Proofs.YtcgbbhkjkkpfoaaW.PrintLast Go.Proofs.YtcgbbhkjkkpfoaaW.PrintMore Lcm Lcm.G
def TestsG (F : (Nat → Prop) → Nat → Prop) (n : Nat) (v : Value) (w0 : World) : Prop :=
 ∀ w1, Below w0.heap.size w0 w1 → ∀ i, i < n → ∀ (A : Option Addr) (c : Nat) (l : List Bool), l.length = n → n ≤ c → Kd.C Kd.bool w1 A l.length l →
  CallsV Try.prog v #[.int .i64 (i : Int), .slice A n c] w1 fun e w2 => e = .returned (.bool (yes (F (on l) i))) ∧ Below w1.heap.size w1 w2
theorem on_rd {l : List Bool} {i : Nat} (h : i < l.length) : rdOf false l (i : Int) = true ↔ on l i := by
 unfold rdOf on; rw [List.getD_eq_getElem?_getD, Int.toNat_natCast, List.getElem?_eq_getElem h]; simp
theorem greatest_calls (g : G) (F : (Nat → Prop) → Nat → Prop) (m : Mono F) (n : Nat) (hn : ∀ i, g.Reach i → i < n) (h0 : 0 < n) (hN : n ≤ 60) (b : Nat) (s0 s2 s3 s4 : Value) (A1 : Option Addr) (c1 : Nat) (gf : FuncId) (cap : Array Value) (w : World)
  (hb : w.heap[b]? = some (.cells #[s0, .slice A1 n c1, s2, s3, s4] 74 (0, 0))) (hr : Kd.C Kd.bool w A1 n (bl n g.Reach)) (hf : TestsG F n (.func (.func gf) #[] cap) w) :
  Calls Try.prog 95 #[.pointer (some ⟨b, 0, none⟩), .func (.func gf) #[] cap] w fun e w' => ∃ v : Value, e = .returned v ∧ Kd.R Kd.bool 4 w' w.heap.size (fun _ => True) v (bl n (g.Gfp F)) ∧ Below w.heap.size w w' := by
 have hu := Try.underlying74
 have z0 := blk_cell hb
 have HR : Aside0 (Kd.C Kd.bool w A1 (bl n g.Reach).length (bl n g.Reach)) := ⟨by rw [bl_len]; exact hr⟩
 have HF := Aside0.mk hf
 have HN := Aside0.mk hn
 have HM := Aside0.mk m
 have HL := Aside0.mk (bl_len n g.Reach)
 clear hb hr hf hn m
 have HC := Aside0.mk (fun w1 => clone_calls A1 c1 (bl n g.Reach) w1 (by rw [HL.out]; exact h0) (by rw [HL.out]; omega))
 go_enter Try.func95, Try.ntmps95
 go_wp2_with (first | ((with_reducible refine gate_callee (f := 103) rfl ?_); refine goesM (some 12) rfl rfl Try.func103 #[.slice A1 n c1] rfl ?_; rw [← HL.out]; refine (HC.out _ HR.out).mono ?_; rintro e w1 ⟨v1, rfl, ho, hb⟩; refine ⟨_, rfl, ?_⟩; obtain ⟨go, cp, rfl, hg1, hg2, hg3⟩ := Kd.R_form ho (by rw [HL.out]; exact h0); have HO := Aside0.mk ho; have HB := Aside0.mk hb; clear hb ho hg2 hg3; rw [HL.out]))
 go_loopg [6] (2 * n + 2) (fun kq v6 w' => ∃ (l : List Bool) (a : Bool), v6 = .bool a ∧ Aside0 (OutOk g F n kq l a) ∧ Aside0 (Kd.R Kd.bool 4 w' w.heap.size (fun _ => True) (.slice (some ⟨go, 0, none⟩) n cp) l) ∧ Aside0 (Below w.heap.size w w'))
 case atStart => exact ⟨_, true, rfl, ⟨OutOk.start⟩, (by have h := HO; rw [HL.out] at h; exact h), HB⟩
 case round =>
  clear HB HO HC
  obtain ⟨l, a, rfl, HI, HO, HB⟩ := hrel
  cases a with
  | false =>
   go_wp2
   go_ret
   exact ⟨_, rfl, by rw [← HI.out.done]; exact HO.out, HB.out⟩
  | true =>
   go_wp2
   obtain ⟨wo, rfl⟩ : ∃ wo : World, wo = wr := ⟨_, rfl⟩
   go_loopg [6, 16] n (fun kq v6 v16 w' => ∃ (l2 : List Bool) (a2 : Bool) (i : Nat), v6 = .bool a2 ∧ v16 = .int .i64 (i : Int) ∧ Aside0 (InOk g F n (many l) i kq l2 a2) ∧ Aside0 (Kd.R Kd.bool 4 w' w.heap.size (fun _ => True) (.slice (some ⟨go, 0, none⟩) n cp) l2) ∧ Aside0 (Below w.heap.size w w'))
   case atStart => exact ⟨l, false, 0, rfl, rfl, ⟨InOk.start HI.out⟩, HO, HB⟩
   case round =>
    clear HB HO
    obtain ⟨l2, a2, i, rfl, rfl, HJ, HO, HB⟩ := hrel
    have hin : i ≤ n := by have := HJ.out.1; omega
    by_cases hi : i < n
    ·have hl2 := HJ.out.len
     have HK : Aside0 (gk - 1 < gk) := ⟨by have := HJ.out.1; omega⟩
     obtain ⟨hx, hfz⟩ := Kd.R_celln false HO.out (i : Int) (by omega) (by omega)
     simp only [Int.toNat_natCast] at hx hfz
     have HQ0 := HF.out _ HB.out i hi (some ⟨go, 0, none⟩) cp l2 hl2 (Kd.R_reads' HO.out).2.1 (Kd.R_reads' HO.out).2.2
     have hq := yes_iff (P := F (on l2) i)
     generalize yes (F (on l2) i) = r at HQ0 hq
     have HQ := Aside0.mk HQ0
     have hon : rdOf false l2 (i : Int) = true ↔ on l2 i := on_rd (by omega)
     clear hl2 HQ0
     by_cases c1 : on l2 i
     ·rw [hon.2 c1] at hx
      cases r with
      | true =>
       have HJ2 := Aside0.mk (HJ.out.keep (fun _ => hq.1 rfl) hi)
       clear c1 hq hon HJ hfz
       go_wp2_with (first | ((with_reducible refine gate_value (x := 24) rfl ?_); (try (refine gate_guard (by rfl) ?_; dsimp only)); refine goesV_ (some 27) rfl rfl (.func (.func gf) #[] cap) #[.int .i64 (i : Int), .slice (some ⟨go, 0, none⟩) n cp] rfl rfl (by simp only [List.map_toArray, List.map_cons, List.map_nil]; rfl) ?_; refine HQ.out.mono ?_; rintro e w2 ⟨rfl, hb⟩; refine ⟨_, rfl, ?_⟩; have HB2 := Aside0.mk (below_step HB.out hb); have HO2 := Aside0.mk (Kd.R_below HO.out hb); clear hb))
       go_roundg (gk - 1)
       case measure => exact HK.out
       case rel => exact ⟨_, _, i + 1, rfl, by go_num, HJ2, HO2, HB2⟩
      | false =>
       have HJ2 := Aside0.mk (HJ.out.off HM.out HN.out c1 (fun h => by cases hq.2 h) hi)
       have hi0 : 0 ≤ (i : Int) := by omega
       have hi1 : (i : Int) < (n : Int) := by omega
       clear c1 hq hon HJ hfz
       go_wp2_with (first | ((with_reducible refine gate_value (x := 24) rfl ?_); (try (refine gate_guard (by rfl) ?_; dsimp only)); refine goesV_ (some 27) rfl rfl (.func (.func gf) #[] cap) #[.int .i64 (i : Int), .slice (some ⟨go, 0, none⟩) n cp] rfl rfl (by simp only [List.map_toArray, List.map_cons, List.map_nil]; rfl) ?_; refine HQ.out.mono ?_; rintro e w2 ⟨rfl, hb⟩; refine ⟨_, rfl, ?_⟩; have HB2 := Aside0.mk (below_step HB.out hb); have HO2 := Aside0.mk (Kd.R_below HO.out hb); clear hb; obtain ⟨hx2, hfz2⟩ := Kd.R_celln false HO2.out (i : Int) hi0 hi1; simp only [Int.toNat_natCast] at hx2 hfz2) | ((with_reducible refine gate_store (t := 4) (p := 32) rfl ?_); refine store_event (t := 4) (p := 32) (v := ?vo) (w1 := w2.setCell ⟨go, i, none⟩ (.bool false)) ?hg ?ho ?hn ?hr ?_; (case ho => rfl); (case hg => rfl); (case hn => rfl); (case hr => first | (go_simp; done) | (go_simp; rfl)); intro w3 hw_; have HO3 : Aside0 (Kd.R Kd.bool 4 w3 w.heap.size (fun _ => True) (.slice (some ⟨go, 0, none⟩) n cp) (l2.set i false)) := ⟨by have h := (Kd.R_putg HO2.out (i : Int) false).1; rw [Int.toNat_natCast] at h; rw [hw_]; exact h⟩; have HB3 : Aside0 (Below w.heap.size w w3) := ⟨by rw [hw_]; exact below_set HB2.out hg1⟩; clear hw_))
       go_roundg (gk - 1)
       case measure => exact HK.out
       case rel => exact ⟨_, _, i + 1, rfl, by go_num, HJ2, HO3, HB3⟩
     ·rw [show rdOf false l2 (i : Int) = false by cases h : rdOf false l2 (i : Int) with | false => rfl | true => exact absurd (hon.1 h) c1] at hx
      have HJ2 := Aside0.mk (HJ.out.keep (fun h => absurd h c1) hi)
      clear c1 hq hon HJ hfz HQ
      go_wp2
      go_roundg (gk - 1)
      case measure => exact HK.out
      case rel => exact ⟨_, _, i + 1, rfl, by go_num, HJ2, HO, HB⟩
    ·obtain rfl : n = i := by omega
     go_wp2
     have h := InOk.last HI.out HJ.out
     go_roundg (2 * many l2 + (if a2 = true then 1 else 0))
     case measure => exact h.1
     case rel => exact ⟨_, _, rfl, ⟨h.2⟩, HO, HB⟩
end Go.Proofs.Ytcgbbhkjkkpfoaa.P
namespace Go.Proofs.Ytcgbbhkjkkpfoaa.P
open Go.RowKit Go.Proofs.YtcgbbhkjkkpfoaaW.PrintWords Go.Proofs.YtcgbbhkjkkpfoaaW.PrintLast Go.Proofs.YtcgbbhkjkkpfoaaW.PrintMore Lcm
theorem all1_calls (b : Bool) (g : FuncId) (h : Nat) (cap : Array Value) (x : Int) (w : World) (t : TypeId) (hb : w.heap[h]? = some (.cells #[.func (.func g) #[] cap] t (0, 0)))
  (hf : CallsV Try.prog (.func (.func g) #[] cap) #[.int .i64 x] w fun e w2 => e = .returned (.bool b) ∧ Below w.heap.size w w2) :
  Calls Try.prog 126 #[.int .i64 x, .pointer (some ⟨h, 0, none⟩)] w fun e w2 => e = .returned (.bool (!b)) ∧ Below w.heap.size w w2 := by
 have HF := Aside0.mk hf
 have z0 := blk_cell hb
 clear hf hb
 go_enter Try.func126, Try.ntmps126
 go_wp2_with (first | ((with_reducible refine gate_value (x := 4) rfl ?_); refine goesV_ (some 6) rfl rfl (.func (.func g) #[] cap) #[.int .i64 x] rfl rfl (by simp only [List.map_toArray, List.map_cons, List.map_nil]; rfl) ?_; refine HF.out.mono ?_; rintro e w1 ⟨rfl, hb⟩; refine ⟨_, rfl, ?_⟩; have HB := Aside0.mk hb; clear hb))
 go_ret
 exact ⟨rfl, HB.out⟩
def TestsN (Q : Nat → Prop) (v : Value) (l : List Nat) (w0 : World) : Prop :=
 ∀ w1, Below w0.heap.size w0 w1 → ∀ i, i ∈ l → CallsV Try.prog v #[.int .i64 (i : Int)] w1 fun e w2 => e = .returned (.bool (yes (Q i))) ∧ Below w1.heap.size w1 w2
def ints (l : List Nat) : List Int := List.map (fun i : Nat => (i : Int)) l
theorem ints_len (l : List Nat) : (ints l).length = l.length := List.length_map _
theorem tests_of {Q : Nat → Prop} {v : Value} {l : List Nat} {w0 : World} (h : TestsN Q v l w0) : ∀ w1, Below w0.heap.size w0 w1 → ∀ x, x ∈ ints l →
  CallsV Try.prog v #[.int .i64 x] w1 fun e w2 => e = .returned (.bool (yes (Q x.toNat))) ∧ Below w1.heap.size w1 w2 := fun w1 hb x hx => by
 obtain ⟨i, hi, rfl⟩ := List.mem_map.1 hx
 have := h w1 hb i hi
 rw [show (i : Int).toNat = i from Int.toNat_natCast i]; exact this
theorem all_calls {Q : Nat → Prop} (g : FuncId) (cap : Array Value) (A : Option Addr) (c : Nat) (l : List Nat) (w : World) (hr : Kd.C (Kd.int .i64) w A l.length (ints l)) (hl : l.length ≤ 1000) (hf : TestsN Q (.func (.func g) #[] cap) l w) :
  Calls Try.prog 97 #[.slice A l.length c, .func (.func g) #[] cap] w fun e w' => e = .returned (.bool (yes (∀ i, i ∈ l → Q i))) ∧ Below w.heap.size w w' := by
 rw [show yes (∀ i, i ∈ l → Q i) = !(ints l).any (fun x => !yes (Q x.toNat)) from yes_eq ?_]
 rotate_left
 ·rw [Bool.not_eq_true', List.any_eq_false]
  constructor
  ·intro h i hi
   have := h i (List.mem_map.2 ⟨i, hi, rfl⟩)
   exact yes_iff.1 (by simpa using this)
  ·intro h x hx
   obtain ⟨i, hi, rfl⟩ := List.mem_map.1 hx
   simp [yes_iff.2 (h i hi)]
 ·have HT := Aside0.mk (tests_of hf)
  have HR : Aside0 (Kd.C (Kd.int .i64) w A (ints l).length (ints l)) := ⟨by rw [ints_len]; exact hr⟩
  have hL := ints_len l
  have HN := Aside0.mk hL
  have HF : Aside0 (∀ h w1 t, Below w.heap.size w w1 → w1.heap[h]? = some (.cells #[.func (.func g) #[] cap] t (0, 0)) → Calls Try.prog 54 #[.slice A l.length c, .func (.func 126) #[] #[.pointer (some ⟨h, 0, none⟩)]] w1
    fun e w' => e = .returned (.bool ((ints l).any (fun x => !yes (Q x.toNat)))) ∧ Below w1.heap.size w1 w') := ⟨fun h w1 t hb1 hb => by
   rw [← HN.out]
   refine containsFunc_int _ _ _ A c (ints l) w1 (Kd.C_below HR.out hb1) (by omega) fun w2 hb2 x hx => ⟨_, _, _, rfl, Try.func126, by kernel_rfl, rfl, ?_⟩
   exact all1_calls _ g h cap x w2 t (blk_below hb hb2) (HT.out w2 (below_step hb1 hb2) x hx)⟩
  have hmf : ∀ (fn : Fn) (first cap : Array Value) (w : World), (Instr.makeFunc fn first cap).run Try.prog w = .ok (.func fn first cap) w := fun _ _ _ _ => rfl
  have HB := Aside0.mk (Fr.new w)
  clear hr hl hf hL
  generalize (ints l).any (fun x => !yes (Q x.toNat)) = b at *
  go_enter Try.func97, Try.ntmps97
  go_wp2_with (first | ((with_reducible refine gate_dst (N := 3) rfl ?_); refine fr_box HB (N := 3) rfl rfl (cs := #[.func (.func g) #[] cap]) (t := 79) ?hr ?_; (case hr => first | (go_simp; done) | (go_simp; rfl)); intro h w1 _ HB) | ((with_reducible refine gate_callee (f := 54) rfl ?_); refine goesM (some 7) rfl rfl Try.func54 #[.slice A l.length c, .func (.func 126) #[] #[.pointer (some ⟨h, 0, none⟩)]] rfl ?_; refine (HF.out h _ _ HB.out.below (HB.out.blk 0 rfl)).mono ?_; rintro e w2 ⟨rfl, hb⟩; refine ⟨_, rfl, ?_⟩; have HB2 := Aside0.mk (HB.out.step hb); clear hb))
  go_ret
  exact ⟨rfl, HB2.out.below⟩
end Go.Proofs.Ytcgbbhkjkkpfoaa.P
namespace Go.Proofs.Ytcgbbhkjkkpfoaa.P
open Go.RowKit Go.Proofs.YtcgbbhkjkkpfoaaW.PrintWords Go.Proofs.YtcgbbhkjkkpfoaaW.PrintLast Go.Proofs.YtcgbbhkjkkpfoaaW.PrintMore Lcm Lcm.G
noncomputable def preds (g : G) (n i : Nat) : List Nat := (List.range n).filter fun u => yes (g.Pred u i)
noncomputable def prl (g : G) (n : Nat) : List (List Int) := (List.range n).map fun i => ints (preds g n i)
theorem mem_preds {g : G} {n i u : Nat} : u ∈ preds g n i ↔ u < n ∧ g.Pred u i := by unfold preds; rw [List.mem_filter, List.mem_range, yes_iff]
theorem preds_len (g : G) (n i : Nat) : (preds g n i).length ≤ n := by
 have := List.length_filter_le (fun u => yes (g.Pred u i)) (List.range n)
 rw [List.length_range] at this; exact this
structure Fit (g : G) (p : List Stp) : Prop where
 pos : 0 < p.length
 few : p.length ≤ 60
 next : ∀ i (h : i < p.length), p[i].f5 = ints (g.next i)
 two : ∀ i, i < p.length → (g.next i).length ≤ 2
 lt : ∀ i, i < p.length → ∀ k, k ∈ g.next i → k < p.length
theorem Fit.reach {g : G} {p : List Stp} (h : Fit g p) : ∀ i, g.Reach i → i < p.length := fun i hr => by
 induction hr with
 | zero => exact h.pos
 | step hu hi ih => exact h.lt _ ih _ hi
structure Std (g : G) (p : List Stp) (w : World) (b : Nat) (A0 A1 A2 A3 A4 : Option Addr) (c0 c1 c2 c3 c4 : Nat) : Prop where
 blk : w.heap[b]? = some (.cells #[.slice A0 p.length c0, .slice A1 p.length c1, .slice A2 p.length c2, .slice A3 p.length c3, .slice A4 p.length c4] 74 (0, 0))
 steps : Kd.C k77 w A0 p.length p
 reach : Kd.C Kd.bool w A1 p.length (bl p.length g.Reach)
 preds : Kd.C (Kd.slice 3 (Kd.int .i64)) w A2 p.length (prl g p.length)
 comp : Kd.C Kd.bool w A3 p.length (bl p.length g.comp)
 keeps : Kd.C Kd.bool w A4 p.length (bl p.length g.keeps)
section
variable {g : G} {p : List Stp} {w w' : World} {b : Nat} {A0 A1 A2 A3 A4 : Option Addr} {c0 c1 c2 c3 c4 : Nat}
theorem Std.below (h : Std g p w b A0 A1 A2 A3 A4 c0 c1 c2 c3 c4) (hb : Below w.heap.size w w') : Std g p w' b A0 A1 A2 A3 A4 c0 c1 c2 c3 c4 :=
 ⟨blk_below h.blk hb, Kd.C_below h.steps hb, Kd.C_below h.reach hb, Kd.C_below h.preds hb, Kd.C_below h.comp hb, Kd.C_below h.keeps hb⟩
theorem at_b {A : Option Addr} {n : Nat} {l : List Bool} (hr : Kd.C Kd.bool w A n l) (i : Nat) (hi : i < n) : ∃ (ad : Addr) (r : Bool), A = some ad ∧ w.cell? (ad.add i) = some (.bool r) ∧ (r = true ↔ on l i) := by
 obtain ⟨ad, e, h⟩ := Kd.at_bool hr (i : Int) (by omega) (by omega)
 rw [Int.toNat_natCast] at h
 exact ⟨ad, _, e, h, on_rd (by have := hr.1; omega)⟩
theorem at_bl {A : Option Addr} {n : Nat} {P : Nat → Prop} (hr : Kd.C Kd.bool w A n (bl n P)) (i : Nat) (hi : i < n) : ∃ (ad : Addr) (r : Bool), A = some ad ∧ w.cell? (ad.add i) = some (.bool r) ∧ (r = true ↔ P i) := by
 obtain ⟨ad, r, e, h, hh⟩ := at_b hr i hi
 exact ⟨ad, r, e, h, by rw [hh, on_bl]; exact ⟨fun h => h.2, fun h => ⟨hi, h⟩⟩⟩
theorem at_next (hf : Fit g p) {A : Option Addr} (hr : Kd.C k77 w A p.length p) (i : Nat) (hi : i < p.length) :
  ∃ (ad : Addr) (A7 : Option Addr) (c7 : Nat), A = some ad ∧ w.cell? ⟨(ad.add (i * 8)).block, (ad.add (i * 8)).off + 7, none⟩ = some (.slice A7 (g.next i).length c7) ∧ Kd.C (Kd.int .i64) w A7 (g.next i).length (ints (g.next i)) := by
 obtain ⟨ad, A7, c7, e, h0, h1, h2, h3, h4, h5, h6, h7, h8, h9⟩ := at_T77 hr (i : Int) (by omega) (by omega)
 rw [rdS hi, hf.next i hi, ints_len] at h7 h8 h9
 rw [Int.toNat_natCast] at h7
 exact ⟨ad, A7, c7, e, h7, h9⟩
theorem at_pred {A : Option Addr} {n : Nat} (hr : Kd.C (Kd.slice 3 (Kd.int .i64)) w A n (prl g n)) (i : Nat) (hi : i < n) :
  ∃ (ad : Addr) (A7 : Option Addr) (c7 : Nat), A = some ad ∧ w.cell? (ad.add i) = some (.slice A7 (preds g n i).length c7) ∧ Kd.C (Kd.int .i64) w A7 (preds g n i).length (ints (preds g n i)) := by
 obtain ⟨ad, e, hc⟩ := hr.2.2 (by omega)
 have hx : (prl g n)[i]? = some (ints (preds g n i)) := by unfold prl; rw [List.getElem?_map, List.getElem?_range hi]; rfl
 obtain ⟨c, hs, ⟨A7, c7, rfl, hl, hC⟩, hcell⟩ := hc i _ hx
 have h0 := hcell 0 _ rfl
 rw [ints_len] at h0 hC
 refine ⟨ad, A7, c7, e, ?_, hC⟩
 simpa [show (Kd.slice 3 (Kd.int .i64)).sz = 1 from rfl] using h0
end
end Go.Proofs.Ytcgbbhkjkkpfoaa.P
namespace Go.Proofs.Ytcgbbhkjkkpfoaa.P
open Go.RowKit Go.Proofs.YtcgbbhkjkkpfoaaW.PrintWords Go.Proofs.YtcgbbhkjkkpfoaaW.PrintLast Go.Proofs.YtcgbbhkjkkpfoaaW.PrintMore Lcm
abbrev stpV (s : Stp) (A : Option Addr) (c : Nat) : Value := .agg #[.int .i64 s.f0, .int .i64 s.f1, .int .i64 s.f2, .int .i64 s.f3.f0, .int .i64 s.f3.f1, .int .i64 s.f4.f0, .int .i64 s.f4.f1, .slice A s.f5.length c]
def TestsE (Q : Stp → Prop) (v : Value) (l : List Stp) (w0 : World) : Prop :=
 ∀ w1, Below w0.heap.size w0 w1 → ∀ s, s ∈ l → ∀ (A : Option Addr) (c : Nat), s.f5.length ≤ c → Kd.C (Kd.int .i64) w1 A s.f5.length s.f5 →
  CallsV Try.prog v #[stpV s A c] w1 fun e w2 => e = .returned (.bool (yes (Q s))) ∧ Below w1.heap.size w1 w2
theorem at_stp {w : World} {A : Option Addr} {l : List Stp} (hr : Kd.C k77 w A l.length l) (i : Nat) (hi : i < l.length) :
  ∃ (ad : Addr) (A7 : Option Addr) (c7 : Nat), A = some ad ∧ w.cell? (ad.add (i * 8)) = some (.int .i64 l[i].f0) ∧ w.cell? ⟨(ad.add (i * 8)).block, (ad.add (i * 8)).off + 1, none⟩ = some (.int .i64 l[i].f1) ∧
   w.cell? ⟨(ad.add (i * 8)).block, (ad.add (i * 8)).off + 2, none⟩ = some (.int .i64 l[i].f2) ∧ w.cell? ⟨(ad.add (i * 8)).block, (ad.add (i * 8)).off + 3, none⟩ = some (.int .i64 l[i].f3.f0) ∧
   w.cell? ⟨(ad.add (i * 8)).block, (ad.add (i * 8)).off + 4, none⟩ = some (.int .i64 l[i].f3.f1) ∧ w.cell? ⟨(ad.add (i * 8)).block, (ad.add (i * 8)).off + 5, none⟩ = some (.int .i64 l[i].f4.f0) ∧
   w.cell? ⟨(ad.add (i * 8)).block, (ad.add (i * 8)).off + 6, none⟩ = some (.int .i64 l[i].f4.f1) ∧ w.cell? ⟨(ad.add (i * 8)).block, (ad.add (i * 8)).off + 7, none⟩ = some (.slice A7 l[i].f5.length c7) ∧
   l[i].f5.length ≤ c7 ∧ Kd.C (Kd.int .i64) w A7 l[i].f5.length l[i].f5 := by
 have h := at_T77 hr (i : Int) (by omega) (by omega)
 rw [rdS hi, Int.toNat_natCast] at h
 exact h
theorem each_calls (Q : Stp → Prop) (gf : FuncId) (cap : Array Value) (A0 : Option Addr) (c0 : Nat) (l : List Stp) (w : World) (hr : Kd.C k77 w A0 l.length l) (hn : l.length ≤ 60) (hf : TestsE Q (.func (.func gf) #[] cap) l w) :
  Calls Try.prog 117 #[.agg #[.slice A0 l.length c0], .func (.func gf) #[] cap] w fun e w' => ∃ v : Value, e = .returned v ∧ Kd.R Kd.bool 4 w' w.heap.size (fun _ => True) v (l.map fun s => yes (Q s)) ∧ Below w.heap.size w w' := by
 have hu := Try.underlying38
 have hu2 := Try.underlying77
 have hu3 := Try.underlying40
 have HR := Aside0.mk hr
 have HF := Aside0.mk hf
 have HB0 := Aside0.mk (Fr.new w)
 clear hr hf
 go_enter Try.func117, Try.ntmps117
 go_wp2_with (first | ((with_reducible refine gate_dst (N := 2) rfl ?_); refine fr_box HB0 (N := 2) rfl rfl (cs := #[.slice A0 l.length c0]) (t := 38) ?hr ?_; (case hr => first | (go_simp; done) | (go_simp; rfl)); intro gb w1 _ HB0; have y0 := HB0.out.c0))
 have HB := Aside0.mk HB0.out.below
 go_loopg [5, 11] l.length (fun kq v5 v11 w' => ∃ (i : Nat), v11 = .int .i64 (i : Int) ∧ Aside0 (i + kq = l.length) ∧ Aside0 (Kd.R Kd.bool 4 w' w.heap.size (fun _ => True) v5 ((l.take i).map fun s => yes (Q s))) ∧ Aside0 (Below w.heap.size w w'))
 case atStart => exact ⟨0, rfl, ⟨by omega⟩, ⟨Kd.R_nil _ _ _ _ _⟩, HB⟩
 case round =>
  clear HB HB0 y0
  obtain ⟨i, rfl, HN, HO, HB⟩ := hrel
  have hin : i ≤ l.length := by have := HN.out; omega
  by_cases hi : i < l.length
  ·have HK : Aside0 (gk - 1 < gk) := ⟨by have := HN.out; omega⟩
   obtain ⟨ad, A7, c7, eA, h0, h1, h2, h3, h4, h5, h6, h7, hl7, hi7⟩ := at_stp (Kd.C_below HR.out HB.out) i hi
   cases eA
   have HQ := Aside0.mk (fun w1 (hb : Below wr.heap.size wr w1) => HF.out w1 (below_step HB.out hb) l[i] (List.getElem_mem _) A7 c7 hl7 (Kd.C_below hi7 hb))
   have HN2 : Aside0 (i + 1 + (gk - 1) = l.length) := ⟨by have := HN.out; omega⟩
   have HT : Aside0 ((l.take (i + 1)).map (fun s => yes (Q s)) = (l.take i).map (fun s => yes (Q s)) ++ [yes (Q l[i])]) := ⟨by rw [List.take_add_one, List.getElem?_eq_getElem hi, List.map_append]; rfl⟩
   have HL : Aside0 (((l.take i).map (fun s => yes (Q s))).length ≤ 60) := ⟨by rw [List.length_map, List.length_take]; omega⟩
   clear hl7 hi7
   generalize yes (Q l[i]) = r at HQ HT
   go_wp2_with (first | ((with_reducible refine gate_value (x := 16) rfl ?_); refine goesV_ (some 18) rfl rfl (.func (.func gf) #[] cap) #[stpV l[i] A7 c7] rfl rfl (by simp only [List.map_toArray, List.map_cons, List.map_nil]; rfl) ?_; refine (HQ.out _ (below_alloc (Below.refl _ _) _)).mono ?_; rintro e w2 ⟨rfl, hb⟩; refine ⟨_, rfl, ?_⟩; have HB2 := Aside0.mk (below_step (below_alloc HB.out _) hb); have HO2 := Aside0.mk (Kd.R_below (Kd.R_alloc HO.out _) hb); clear hb) | (at_builtin; refine Kd.R_append Kd.bool (w0 := w) w.heap.size rfl (.tmp 15) (.tmp 19) 29 4 (.bool false) 1 rfl Try.underlying29 info4 rfl (by decide) (by omega) _ _ r [.bool r] (fun _ => True) (fun _ => False) rfl rfl rfl (fun _ hk => hk.elim) (fun _ _ => trivial) HO2.out HB2.out HB2.out.size (by have := HL.out; omega) ?_; intro v3 w3 ho hb _ _; have HO3 := Aside0.mk ho; have HB3 := Aside0.mk hb; clear ho hb))
   go_roundg (gk - 1)
   case measure => exact HK.out
   case rel => exact ⟨i + 1, by go_num, HN2, ⟨by rw [HT.out]; exact HO3.out⟩, HB3⟩
  ·obtain rfl : l.length = i := by omega
   go_wp2
   go_ret
   exact ⟨_, rfl, by have := HO.out; rwa [List.take_length] at this, HB.out⟩
end Go.Proofs.Ytcgbbhkjkkpfoaa.P
namespace Go.Proofs.Ytcgbbhkjkkpfoaa.P
open Go.RowKit Go.Proofs.YtcgbbhkjkkpfoaaW.PrintWords Go.Proofs.YtcgbbhkjkkpfoaaW.PrintLast Go.Proofs.YtcgbbhkjkkpfoaaW.PrintMore
attribute [local go_sem] max2_int min2_int max_two min_two max_three min_three max_four min_four
theorem eqA42 (d : Nat) (w : World) (x0 y0 : Int) (x1 y1 : Int) (x2 y2 : Int) (x3 y3 : Int) (x4 y4 : Int) :
  (Op.equalIn (d + 3) 42 (.agg #[.int .i64 x0, .int .i64 x1, .int .i64 x2, .int .i64 x3, .int .i64 x4]) (.agg #[.int .i64 y0, .int .i64 y1, .int .i64 y2, .int .i64 y3, .int .i64 y4])).run Try.prog w = .ok (x0 == y0 && ((x1 == y1 && (x2 == y2)) && ((x3 == y3 && (x4 == y4))))) w := by
 refine eqA_of Try.underlying42 (by kernel_rfl) ?_
 refine eqf_cons (by rfl) (by go_simp; rfl) (by go_simp; rfl) (by go_simp) ?_
 refine eqf_cons (by rfl) (by go_simp) (by go_simp) (eqA40 (d + 0) w _ _ _ _) ?_
 exact eqf_last (by rfl) (by go_simp) (by go_simp) (eqA40 (d + 0) w _ _ _ _)
def impl_Step_expr.f (a0_0 : Int) (a0_1 : Int) (a0_2 : Int) (a0_3 : Int) (a0_4 : Int) (a0_5 : Int) (a0_6 : Int) (l0_7 : List Int) : Option (Int × Int × Int × Int × Int × Bool) := some (a0_2, a0_3, a0_4, a0_5, a0_6, (a0_0 == 1))
def impl_Step_expr.T1 : Bool × List (List Nat × List Nat) := (true, [([], []), ([0], [0]), ([], []), ([2], [2]), ([], []), ([4], [4]), ([1, 3, 5], [1, 3, 5]), ([], []), ([7], [7]), ([8], [8]), ([6, 0, 1, 2, 3, 4, 5, 6], [6]), ([9, 10, 0, 1, 2, 3, 4, 5, 6, 7, 8, 9, 10], [9])])
def impl_Step_expr.B1 : List Nat := [0, 1, 0, 4, 0, 16, 63, 0, 128, 384, 127, 2047]
theorem impl_Step_expr.tab1 : rtab .any (opsOf Try.f119 1) = impl_Step_expr.T1 := by kernel_rfl
theorem impl_Step_expr.bits1 : waitsOk impl_Step_expr.T1.2 impl_Step_expr.B1 = true := by kernel_rfl
theorem impl_Step_expr.calls (a0_0 : Int) (a0_1 : Int) (a0_2 : Int) (a0_3 : Int) (a0_4 : Int) (a0_5 : Int) (a0_6 : Int) (A0_7 : Option Addr) (c0_7 : Nat) (l0_7 : List Int) (r1 : Int) (r2 : Int) (r3 : Int) (r4 : Int) (r5 : Int) (r6 : Bool) (w : World) (hr0_7 : Kd.C (Kd.int .i64) w A0_7 l0_7.length l0_7) (hc0_7 : l0_7.length ≤ c0_7) (h : impl_Step_expr.f a0_0 a0_1 a0_2 a0_3 a0_4 a0_5 a0_6 l0_7 = some (r1, r2, r3, r4, r5, r6)) :
  Calls Try.prog 119 #[.agg #[.int .i64 a0_0, .int .i64 a0_1, .int .i64 a0_2, .int .i64 a0_3, .int .i64 a0_4, .int .i64 a0_5, .int .i64 a0_6, .slice A0_7 l0_7.length c0_7]] w fun e w' => e = .returned (.tuple #[.agg #[.int .i64 r1, .int .i64 r2, .int .i64 r3, .int .i64 r4, .int .i64 r5], .bool r6]) ∧ Below w.heap.size w w' := by
 have hu77 := Try.underlying77
 have hu42 := Try.underlying42
 have hu40 := Try.underlying40
 have HR0_7 := Aside0.mk hr0_7
 have HC0_7 := Aside0.mk hc0_7
 clear hr0_7 hc0_7
 have HB := Aside0.mk (Below.refl w.heap.size w)
 have H : (some (a0_2, a0_3, a0_4, a0_5, a0_6, (a0_0 == 1))) = some (r1, r2, r3, r4, r5, r6) := h
 clear h
 simp only [Option.some.injEq, Prod.mk.injEq] at H
 obtain ⟨rfl, rfl, rfl, rfl, rfl, rfl⟩ := H
 go_enter Try.func119, Try.ntmps119
 try go_wp2_with (first | ((with_reducible refine gate_dst (N := 1) rfl ?_); refine bxe (cs := #[.int .i64 a0_0, .int .i64 a0_1, .int .i64 a0_2, .int .i64 a0_3, .int .i64 a0_4, .int .i64 a0_5, .int .i64 a0_6, .slice A0_7 l0_7.length c0_7]) (t := 77) ?_; intro gb1004 hg w2 hbox hb; have BK1004 := Aside0.mk (hbox); have GW1004 := bwz HB hg; have GE1004 := bwz HB hg; replace HB := bwb HB hb; clear hb hbox hg) | ((with_reducible refine gate_dst (N := 2) rfl ?_); refine bxe (cs := #[.int .i64 0, .int .i64 0, .int .i64 0, .int .i64 0, .int .i64 0]) (t := 42) ?_; intro gb1005 hg w3 hbox hb; have BK1005 := Aside0.mk (hbox); have GW1005 := bwz HB hg; have GE1005 := bwz HB hg; replace HB := bwb HB hb; have NB1004_1005 := bkl BK1004 hg; have NB1005_1004 := bkg BK1004 hg; replace BK1004 := bkb BK1004 hb; clear hb hbox hg))
 replace BK1004 := Aside0.mk (blk_drew BK1004.out)
 replace BK1005 := Aside0.mk (blk_drew BK1005.out)
 replace HB := Aside0.mk (below_drew1 HB.out)
 refine start_ (n := 12) (S := fun w' => w'.cell? ⟨gb1004, 0, none⟩ = some (.int .i64 a0_0) ∧ w'.cell? ⟨gb1004, 1, none⟩ = some (.int .i64 a0_1) ∧ w'.cell? ⟨gb1004, 2, none⟩ = some (.int .i64 a0_2) ∧ w'.cell? ⟨gb1004, 3, none⟩ = some (.int .i64 a0_3) ∧ w'.cell? ⟨gb1004, 4, none⟩ = some (.int .i64 a0_4) ∧ w'.cell? ⟨gb1004, 5, none⟩ = some (.int .i64 a0_5) ∧ w'.cell? ⟨gb1004, 6, none⟩ = some (.int .i64 a0_6) ∧ w'.cell? ⟨gb1004, 7, none⟩ = some (.slice A0_7 l0_7.length c0_7)) (ds := []) #[false, false, false, false, false, false, false, false, false, false, false, false] (by kernel_rfl) rfl rfl ⟨(blk_cell BK1004.out 0).trans rfl, (blk_cell BK1004.out 1).trans rfl, (blk_cell BK1004.out 2).trans rfl, (blk_cell BK1004.out 3).trans rfl, (blk_cell BK1004.out 4).trans rfl, (blk_cell BK1004.out 5).trans rfl, (blk_cell BK1004.out 6).trans rfl, (blk_cell BK1004.out 7).trans rfl⟩ (fun hHeld => ?_); refine with_tabW impl_Step_expr.tab1 impl_Step_expr.bits1 (fun HT_ HW_ => ?_)
 generalize w3.drew = w4 at BK1004 BK1005 HB hHeld ⊢
 refine pure_ (i := 0) (N := some 4) (v := ?_) (a' := ?_) #[true, false, false, false, false, false, false, false, false, false, false, false] rfl rfl (any_of HT_.out (by kernel_rfl)) (fun _ _ _ h => h) (Or.inl ⟨by rfl, ?_⟩) ?_ ?_
 rotate_left
 ·intro w'
  go_simp
  with_reducible rfl
 rotate_left
 ·simp only [Act.put, List.setIfInBounds_toArray, List.set_cons_zero, List.set_cons_succ, i64_w, i32_w]
  rfl
 refine pure_ (i := 2) (N := some 6) (v := ?_) (a' := ?_) #[true, false, true, false, false, false, false, false, false, false, false, false] rfl rfl (any_of HT_.out (by kernel_rfl)) (fun _ _ _ h => h) (Or.inl ⟨by rfl, ?_⟩) ?_ ?_
 rotate_left
 ·intro w'
  go_simp
  with_reducible rfl
 rotate_left
 ·simp only [Act.put, List.setIfInBounds_toArray, List.set_cons_zero, List.set_cons_succ, i64_w, i32_w]
  rfl
 refine pure_ (i := 4) (N := some 8) (v := ?_) (a' := ?_) #[true, false, true, false, true, false, false, false, false, false, false, false] rfl rfl (any_of HT_.out (by kernel_rfl)) (fun _ _ _ h => h) (Or.inl ⟨by rfl, ?_⟩) ?_ ?_
 rotate_left
 ·intro w'
  go_simp
  with_reducible rfl
 rotate_left
 ·simp only [Act.put, List.setIfInBounds_toArray, List.set_cons_zero, List.set_cons_succ, i64_w, i32_w]
  rfl
 refine pure_ (i := 7) (N := some 11) (v := ?_) (a' := ?_) #[true, false, true, false, true, false, false, true, false, false, false, false] rfl rfl (any_of HT_.out (by kernel_rfl)) (fun _ _ _ h => h) (Or.inl ⟨by rfl, ?_⟩) ?_ ?_
 rotate_left
 ·intro w'
  go_simp
  with_reducible rfl
 rotate_left
 ·simp only [Act.put, List.setIfInBounds_toArray, List.set_cons_zero, List.set_cons_succ, i64_w, i32_w]
  rfl
 refine take_ (i := 1) (N := some 5) (v := ?_) (a' := ?_) #[true, true, true, false, true, false, false, true, false, false, false, false] rfl rfl (take_ofW HT_.out HW_.out (by kernel_rfl)) (fun _ _ _ h => h) (Or.inl ⟨by rfl, ?_⟩) hHeld ?_ ?_
 rotate_left
 ·rintro w' ⟨s0, s1, s2, s3, s4, s5, s6, s7⟩
  go_simp
  with_reducible rfl
 rotate_left
 ·simp only [Act.put, List.setIfInBounds_toArray, List.set_cons_zero, List.set_cons_succ, i64_w, i32_w]
  rfl
 refine take_ (i := 3) (N := some 7) (v := ?_) (a' := ?_) #[true, true, true, true, true, false, false, true, false, false, false, false] rfl rfl (take_ofW HT_.out HW_.out (by kernel_rfl)) (fun _ _ _ h => h) (Or.inl ⟨by rfl, ?_⟩) hHeld ?_ ?_
 rotate_left
 ·rintro w' ⟨s0, s1, s2, s3, s4, s5, s6, s7⟩
  go_simp
  with_reducible rfl
 rotate_left
 ·simp only [Act.put, List.setIfInBounds_toArray, List.set_cons_zero, List.set_cons_succ, i64_w, i32_w]
  rfl
 refine take_ (i := 5) (N := some 9) (v := ?_) (a' := ?_) #[true, true, true, true, true, true, false, true, false, false, false, false] rfl rfl (take_ofW HT_.out HW_.out (by kernel_rfl)) (fun _ _ _ h => h) (Or.inl ⟨by rfl, ?_⟩) hHeld ?_ ?_
 rotate_left
 ·rintro w' ⟨s0, s1, s2, s3, s4, s5, s6, s7⟩
  go_simp
  with_reducible rfl
 rotate_left
 ·simp only [Act.put, List.setIfInBounds_toArray, List.set_cons_zero, List.set_cons_succ, i64_w, i32_w]
  rfl
 refine pure_ (i := 6) (N := some 10) (v := ?_) (a' := ?_) #[true, true, true, true, true, true, true, true, false, false, false, false] rfl rfl (any_of HT_.out (by kernel_rfl)) (fun _ _ _ h => h) (Or.inl ⟨by rfl, ?_⟩) ?_ ?_
 rotate_left
 ·intro w'
  go_simp
  with_reducible rfl
 rotate_left
 ·simp only [Act.put, List.setIfInBounds_toArray, List.set_cons_zero, List.set_cons_succ, i64_w, i32_w]
  rfl
 refine take_ (i := 8) (N := some 12) (v := ?_) (a' := ?_) #[true, true, true, true, true, true, true, true, true, false, false, false] rfl rfl (take_ofW HT_.out HW_.out (by kernel_rfl)) (fun _ _ _ h => h) (Or.inl ⟨by rfl, ?_⟩) hHeld ?_ ?_
 rotate_left
 ·rintro w' ⟨s0, s1, s2, s3, s4, s5, s6, s7⟩
  go_simp
  with_reducible rfl
 rotate_left
 ·simp only [Act.put, List.setIfInBounds_toArray, List.set_cons_zero, List.set_cons_succ, i64_w, i32_w]
  rfl
 refine pure_ (i := 9) (N := some 13) (v := ?_) (a' := ?_) #[true, true, true, true, true, true, true, true, true, true, false, false] rfl rfl (any_of HT_.out (by kernel_rfl)) (fun _ _ _ h => h) (Or.inl ⟨by rfl, ?_⟩) ?_ ?_
 rotate_left
 ·intro w'
  go_simp
  with_reducible rfl
 rotate_left
 ·simp only [Act.put, List.setIfInBounds_toArray, List.set_cons_zero, List.set_cons_succ, i64_w, i32_w]
  rfl
 refine one_ (i := 10) (N := none) #[true, true, true, true, true, true, true, true, true, true, true, false] rfl rfl (one_of HT_.out (by kernel_rfl)) (by decide) (fun K hK => ?_)
 have hs5 : w4.cell? ⟨gb1005, 0, none⟩ = some (.int .i64 0) := (blk_cell BK1005.out 0).trans rfl
 have hfs5 := blk_frozen BK1005.out 0
 have hns5_0 := NB1004_1005.out
 have hms5_0 := NB1005_1004.out
 have hs6 : w4.cell? ⟨gb1005, 1, none⟩ = some (.int .i64 0) := (blk_cell BK1005.out 1).trans rfl
 have hfs6 := blk_frozen BK1005.out 1
 have hns6_0 := NB1004_1005.out
 have hms6_0 := NB1005_1004.out
 have hs7 : w4.cell? ⟨gb1005, 2, none⟩ = some (.int .i64 0) := (blk_cell BK1005.out 2).trans rfl
 have hfs7 := blk_frozen BK1005.out 2
 have hns7_0 := NB1004_1005.out
 have hms7_0 := NB1005_1004.out
 have hs8 : w4.cell? ⟨gb1005, 3, none⟩ = some (.int .i64 0) := (blk_cell BK1005.out 3).trans rfl
 have hfs8 := blk_frozen BK1005.out 3
 have hns8_0 := NB1004_1005.out
 have hms8_0 := NB1005_1004.out
 have hs9 : w4.cell? ⟨gb1005, 4, none⟩ = some (.int .i64 0) := (blk_cell BK1005.out 4).trans rfl
 have hfs9 := blk_frozen BK1005.out 4
 have hns9_0 := NB1004_1005.out
 have hms9_0 := NB1005_1004.out
 refine skip_ (w1 := ?_) (by rfl) rfl ?_ ?_
 rotate_left
 ·go_simp
  rfl
 refine hK.out _ _ ⟨((cell_far (p := ⟨gb1005, _, none⟩) NB1004_1005.out _).trans (((cell_far (p := ⟨gb1005, _, none⟩) NB1004_1005.out _).trans (((cell_far (p := ⟨gb1005, _, none⟩) NB1004_1005.out _).trans (((cell_far (p := ⟨gb1005, _, none⟩) NB1004_1005.out _).trans (((cell_far (p := ⟨gb1005, _, none⟩) NB1004_1005.out _).trans (hHeld.1)))))))))), ((cell_far (p := ⟨gb1005, _, none⟩) NB1004_1005.out _).trans (((cell_far (p := ⟨gb1005, _, none⟩) NB1004_1005.out _).trans (((cell_far (p := ⟨gb1005, _, none⟩) NB1004_1005.out _).trans (((cell_far (p := ⟨gb1005, _, none⟩) NB1004_1005.out _).trans (((cell_far (p := ⟨gb1005, _, none⟩) NB1004_1005.out _).trans (hHeld.2.1)))))))))), ((cell_far (p := ⟨gb1005, _, none⟩) NB1004_1005.out _).trans (((cell_far (p := ⟨gb1005, _, none⟩) NB1004_1005.out _).trans (((cell_far (p := ⟨gb1005, _, none⟩) NB1004_1005.out _).trans (((cell_far (p := ⟨gb1005, _, none⟩) NB1004_1005.out _).trans (((cell_far (p := ⟨gb1005, _, none⟩) NB1004_1005.out _).trans (hHeld.2.2.1)))))))))), ((cell_far (p := ⟨gb1005, _, none⟩) NB1004_1005.out _).trans (((cell_far (p := ⟨gb1005, _, none⟩) NB1004_1005.out _).trans (((cell_far (p := ⟨gb1005, _, none⟩) NB1004_1005.out _).trans (((cell_far (p := ⟨gb1005, _, none⟩) NB1004_1005.out _).trans (((cell_far (p := ⟨gb1005, _, none⟩) NB1004_1005.out _).trans (hHeld.2.2.2.1)))))))))), ((cell_far (p := ⟨gb1005, _, none⟩) NB1004_1005.out _).trans (((cell_far (p := ⟨gb1005, _, none⟩) NB1004_1005.out _).trans (((cell_far (p := ⟨gb1005, _, none⟩) NB1004_1005.out _).trans (((cell_far (p := ⟨gb1005, _, none⟩) NB1004_1005.out _).trans (((cell_far (p := ⟨gb1005, _, none⟩) NB1004_1005.out _).trans (hHeld.2.2.2.2.1)))))))))), ((cell_far (p := ⟨gb1005, _, none⟩) NB1004_1005.out _).trans (((cell_far (p := ⟨gb1005, _, none⟩) NB1004_1005.out _).trans (((cell_far (p := ⟨gb1005, _, none⟩) NB1004_1005.out _).trans (((cell_far (p := ⟨gb1005, _, none⟩) NB1004_1005.out _).trans (((cell_far (p := ⟨gb1005, _, none⟩) NB1004_1005.out _).trans (hHeld.2.2.2.2.2.1)))))))))), ((cell_far (p := ⟨gb1005, _, none⟩) NB1004_1005.out _).trans (((cell_far (p := ⟨gb1005, _, none⟩) NB1004_1005.out _).trans (((cell_far (p := ⟨gb1005, _, none⟩) NB1004_1005.out _).trans (((cell_far (p := ⟨gb1005, _, none⟩) NB1004_1005.out _).trans (((cell_far (p := ⟨gb1005, _, none⟩) NB1004_1005.out _).trans (hHeld.2.2.2.2.2.2.1)))))))))), ((cell_far (p := ⟨gb1005, _, none⟩) NB1004_1005.out _).trans (((cell_far (p := ⟨gb1005, _, none⟩) NB1004_1005.out _).trans (((cell_far (p := ⟨gb1005, _, none⟩) NB1004_1005.out _).trans (((cell_far (p := ⟨gb1005, _, none⟩) NB1004_1005.out _).trans (((cell_far (p := ⟨gb1005, _, none⟩) NB1004_1005.out _).trans (hHeld.2.2.2.2.2.2.2))))))))))⟩ (fun hHeld => ?_)
 clear hK K
 refine pure_ (i := 11) (N := some 3) (v := ?_) (a' := ?_) #[true, true, true, true, true, true, true, true, true, true, true, true] rfl rfl (any_of HT_.out (by kernel_rfl)) (fun _ _ _ h => h) (Or.inl ⟨by rfl, ?_⟩) ?_ ?_
 rotate_left
 ·intro w'
  go_simp
  with_reducible rfl
 rotate_left
 ·simp only [Act.put, List.setIfInBounds_toArray, List.set_cons_zero, List.set_cons_succ, i64_w, i32_w]
  rfl
 refine done_ (done_of HT_.out (by kernel_rfl)) ?_
 try go_wp2
 refine bodyPost_ret (results_ct rfl _ _ gb1005 42 #[.int .i64 a0_2, .int .i64 a0_3, .int .i64 a0_4, .int .i64 a0_5, .int .i64 a0_6] (0, 0) _ rfl (by (with_reducible repeat (first | refine blk_drewN ?_ _ | refine blk_drew ?_ | refine blk_alloc ?_ _)); refine blk_put (cs := #[.int .i64 a0_2, .int .i64 a0_3, .int .i64 a0_4, .int .i64 a0_5, .int .i64 0]) ?_ 4 _ rfl; (with_reducible repeat (first | refine blk_drewN ?_ _ | refine blk_drew ?_ | refine blk_alloc ?_ _)); refine blk_put (cs := #[.int .i64 a0_2, .int .i64 a0_3, .int .i64 a0_4, .int .i64 0, .int .i64 0]) ?_ 3 _ rfl; (with_reducible repeat (first | refine blk_drewN ?_ _ | refine blk_drew ?_ | refine blk_alloc ?_ _)); refine blk_put (cs := #[.int .i64 a0_2, .int .i64 a0_3, .int .i64 0, .int .i64 0, .int .i64 0]) ?_ 2 _ rfl; (with_reducible repeat (first | refine blk_drewN ?_ _ | refine blk_drew ?_ | refine blk_alloc ?_ _)); refine blk_put (cs := #[.int .i64 a0_2, .int .i64 0, .int .i64 0, .int .i64 0, .int .i64 0]) ?_ 1 _ rfl; (with_reducible repeat (first | refine blk_drewN ?_ _ | refine blk_drew ?_ | refine blk_alloc ?_ _)); refine blk_put (cs := #[.int .i64 0, .int .i64 0, .int .i64 0, .int .i64 0, .int .i64 0]) ?_ 0 _ rfl; exact bkq BK1005) Try.underlying42 rfl (by kernel_rfl)) rfl ?_
 exact ⟨by first | rfl | (simp [errW_none, errW_some] <;> rfl) | (simp [*, errW_none, errW_some] <;> rfl), bwq HB⟩
def impl_Expr_has.f (a0_0 : Int) (a0_1 : Int) (a0_2 : Int) (a0_3 : Int) (a0_4 : Int) (a1 : Int) : Option (Bool) := if a0_1 = a1 then (some true) else (some (a0_3 == a1))
theorem impl_Expr_has.calls (a0_0 : Int) (a0_1 : Int) (a0_2 : Int) (a0_3 : Int) (a0_4 : Int) (a1 : Int) (r : Bool) (w : World) (h : impl_Expr_has.f a0_0 a0_1 a0_2 a0_3 a0_4 a1 = some r) :
  Calls Try.prog 122 #[.agg #[.int .i64 a0_0, .int .i64 a0_1, .int .i64 a0_2, .int .i64 a0_3, .int .i64 a0_4], .int .i64 a1] w fun e w' => e = .returned (.bool r) ∧ Below w.heap.size w w' := by
 have hu42 := Try.underlying42
 have HB := Aside0.mk (Below.refl w.heap.size w)
 have H : (if a0_1 = a1 then (some true) else (some (a0_3 == a1))) = some r := h
 clear h
 by_cases c3 : a0_1 = a1
 ·rw [if_pos c3] at H
  have c3b0 : (a0_1 == a1) = true := beq_iff_eq.mpr c3
  have c3b1 : (a0_1 != a1) = false := bne_eq_false_iff_eq.mpr c3
  clear c3
  obtain rfl := Option.some.inj H
  go_enter Try.func122, Try.ntmps122
  go_wp2_with (first | ((with_reducible refine gate_dst (N := 2) rfl ?_); refine bxe (cs := #[.int .i64 a0_0, .int .i64 a0_1, .int .i64 a0_2, .int .i64 a0_3, .int .i64 a0_4]) (t := 42) ?_; intro gb1006 hg w4 hbox hb; have BK1006 := Aside0.mk (hbox); have GW1006 := bwz HB hg; have GE1006 := bwz HB hg; replace HB := bwb HB hb; clear hb hbox hg; obtain ⟨hcz5, hfz5⟩ := bcf BK1006))
  go_ret
  exact ⟨by first | rfl | (simp [errW_none, errW_some] <;> rfl) | (simp [*, errW_none, errW_some] <;> rfl), bwq HB⟩
 ·rw [if_neg c3] at H
  have c3b0 : (a0_1 == a1) = false := beq_eq_false_iff_ne.mpr c3
  have c3b1 : (a0_1 != a1) = true := bne_iff_ne.mpr c3
  obtain rfl := Option.some.inj H
  go_enter Try.func122, Try.ntmps122
  go_wp2_with (first | ((with_reducible refine gate_dst (N := 2) rfl ?_); refine bxe (cs := #[.int .i64 a0_0, .int .i64 a0_1, .int .i64 a0_2, .int .i64 a0_3, .int .i64 a0_4]) (t := 42) ?_; intro gb1006 hg w6 hbox hb; have BK1006 := Aside0.mk (hbox); have GW1006 := bwz HB hg; have GE1006 := bwz HB hg; replace HB := bwb HB hb; clear hb hbox hg; obtain ⟨hcz7, hfz7⟩ := bcf BK1006))
  go_ret
  exact ⟨by first | rfl | (simp [errW_none, errW_some] <;> rfl) | (simp [*, errW_none, errW_some] <;> rfl), bwq HB⟩
end Go.Proofs.Ytcgbbhkjkkpfoaa.P
namespace Go.Proofs.Ytcgbbhkjkkpfoaa.P
open Go.RowKit Go.Proofs.YtcgbbhkjkkpfoaaW.PrintWords Go.Proofs.YtcgbbhkjkkpfoaaW.PrintLast Go.Proofs.YtcgbbhkjkkpfoaaW.PrintMore Lcm
attribute [local go_sem high] eqA42
def CompP (e0 e1 e2 e3 e4 : Int) (s : Stp) : Prop := s.f0 = 1 ∧ s.f2 = e0 ∧ s.f3.f0 = e1 ∧ s.f3.f1 = e2 ∧ s.f4.f0 = e3 ∧ s.f4.f1 = e4
def KeepsP (e1 e3 : Int) (s : Stp) : Prop := ¬ (chB s.f0 = true ∧ (e1 = s.f1 ∨ e3 = s.f1))
def gOf (p : List Stp) (e0 e1 e2 e3 e4 : Int) : G where
 next i := ((p.getD i z77).f5).map Int.toNat
 comp i := CompP e0 e1 e2 e3 e4 (p.getD i z77)
 keeps i := KeepsP e1 e3 (p.getD i z77)
abbrev exV (e0 e1 e2 e3 e4 : Int) : Value := .agg #[.int .i64 e0, .int .i64 e1, .int .i64 e2, .int .i64 e3, .int .i64 e4]
section
variable {e0 e1 e2 e3 e4 : Int} {w : World}
theorem comp1_calls (s : Stp) (A : Option Addr) (c : Nat) (hc : s.f5.length ≤ c) (hr : Kd.C (Kd.int .i64) w A s.f5.length s.f5) {h : Nat} (hb : w.heap[h]? = some (.cells #[.int .i64 e0, .int .i64 e1, .int .i64 e2, .int .i64 e3, .int .i64 e4] 42 (0, 0))) :
  Calls Try.prog 118 #[stpV s A c, .pointer (some ⟨h, 0, none⟩)] w fun e w' => e = .returned (.bool (yes (CompP e0 e1 e2 e3 e4 s))) ∧ Below w.heap.size w w' := by
 rw [yes_eq (r := s.f0 == 1 && (s.f2 == e0 && ((s.f3.f0 == e1 && s.f3.f1 == e2) && (s.f4.f0 == e3 && s.f4.f1 == e4)))) (by unfold CompP; simp [and_assoc])]
 have HX : Aside0 (∀ w1, Below w.heap.size w w1 → Calls Try.prog 119 #[stpV s A c] w1 fun e w' => e = .returned (.tuple #[exV s.f2 s.f3.f0 s.f3.f1 s.f4.f0 s.f4.f1, .bool (s.f0 == 1)]) ∧ Below w1.heap.size w1 w') :=
  ⟨fun w1 hb => impl_Step_expr.calls _ _ _ _ _ _ _ A c s.f5 _ _ _ _ _ _ w1 (Kd.C_below hr hb) hc rfl⟩
 have hu := Try.underlying77
 have hu2 := Try.underlying42
 have hu3 := Try.underlying40
 have HB := Aside0.mk (Fr.add1 hb)
 clear hr hb
 cases h1 : (s.f0 == 1) <;> (
  rw [h1] at HX
  go_enter Try.func118, Try.ntmps118
  go_wp2_with (first | ((with_reducible refine gate_dst (N := 2) rfl ?_); refine fr_box HB (N := 2) rfl rfl (cs := #[.int .i64 s.f0, .int .i64 s.f1, .int .i64 s.f2, .int .i64 s.f3.f0, .int .i64 s.f3.f1, .int .i64 s.f4.f0, .int .i64 s.f4.f1, .slice A s.f5.length c]) (t := 77) ?hr ?_; (case hr => first | (go_simp; done) | (go_simp; rfl)); intro gb w1 _ HB; have y0 := HB.out.c0; have y1 := HB.out.c1) | ((with_reducible refine gate_callee (f := 119) rfl ?_); refine goesM (some 8) rfl rfl Try.func119 #[stpV s A c] rfl ?_; refine (HX.out _ HB.out.below).mono ?_; rintro e w2 ⟨rfl, hb⟩; refine ⟨_, rfl, ?_⟩; have HB := Aside0.mk (HB.out.step hb); have y1 := HB.out.c1; have y1a := fun (o : Obj) => (HB.out.alloc o).c1; clear hb))
  go_ret
  exact ⟨rfl, (HB.out.alloc _).below⟩)
theorem keeps1_calls (s : Stp) (A : Option Addr) (c : Nat) (hc : s.f5.length ≤ c) (hr : Kd.C (Kd.int .i64) w A s.f5.length s.f5) {h : Nat} (hb : w.heap[h]? = some (.cells #[.int .i64 e0, .int .i64 e1, .int .i64 e2, .int .i64 e3, .int .i64 e4] 42 (0, 0))) :
  Calls Try.prog 120 #[stpV s A c, .pointer (some ⟨h, 0, none⟩)] w fun e w' => e = .returned (.bool (yes (KeepsP e1 e3 s))) ∧ Below w.heap.size w w' := by
 obtain ⟨rh, eh, qh⟩ : ∃ rh, impl_Expr_has.f e0 e1 e2 e3 e4 s.f1 = some rh ∧ (rh = true ↔ e1 = s.f1 ∨ e3 = s.f1) := by
  unfold impl_Expr_has.f
  by_cases h : e1 = s.f1
  ·exact ⟨true, by rw [if_pos h], by simp [h]⟩
  ·exact ⟨e3 == s.f1, by rw [if_neg h], by simp [h]⟩
 rw [yes_eq (r := !chB s.f0 || !rh) (by unfold KeepsP; rw [← qh]; cases chB s.f0 <;> simp)]
 have HX : Aside0 (∀ w1, Below w.heap.size w w1 → Calls Try.prog 121 #[stpV s A c] w1 fun e w' => e = .returned (.bool (chB s.f0)) ∧ Below w1.heap.size w1 w') :=
  ⟨fun w1 hb => Step_any_ch s A c w1 (Kd.C_below hr hb) hc⟩
 have HY : Aside0 (∀ w1, Calls Try.prog 122 #[exV e0 e1 e2 e3 e4, .int .i64 s.f1] w1 fun e w' => e = .returned (.bool rh) ∧ Below w1.heap.size w1 w') := ⟨fun w1 => impl_Expr_has.calls _ _ _ _ _ _ _ w1 eh⟩
 have hu := Try.underlying77
 have hu2 := Try.underlying42
 have hu3 := Try.underlying40
 have HB := Aside0.mk (Fr.add1 hb)
 clear hr hb eh qh
 generalize chB s.f0 = rc at HX
 cases rc <;> (
  go_enter Try.func120, Try.ntmps120
  go_wp2_with (first | ((with_reducible refine gate_dst (N := 2) rfl ?_); refine fr_box HB (N := 2) rfl rfl (cs := #[.int .i64 s.f0, .int .i64 s.f1, .int .i64 s.f2, .int .i64 s.f3.f0, .int .i64 s.f3.f1, .int .i64 s.f4.f0, .int .i64 s.f4.f1, .slice A s.f5.length c]) (t := 77) ?hr ?_; (case hr => first | (go_simp; done) | (go_simp; rfl)); intro gb w1 _ HB; have y0 := HB.out.c0; have y1 := HB.out.c1) | ((with_reducible refine gate_callee (f := 121) rfl ?_); refine goesM (some 5) rfl rfl Try.func121 #[stpV s A c] rfl ?_; refine (HX.out _ HB.out.below).mono ?_; rintro e w2 ⟨rfl, hb⟩; refine ⟨_, rfl, ?_⟩; have HB := Aside0.mk (HB.out.step hb); have y0 := HB.out.c0; have y1 := HB.out.c1; clear hb) | ((with_reducible refine gate_callee (f := 122) rfl ?_); (try (refine gate_guard (by rfl) ?_; dsimp only)); refine goesM (some 11) rfl rfl Try.func122 #[exV e0 e1 e2 e3 e4, .int .i64 s.f1] rfl ?_; refine (HY.out _).mono ?_; rintro e w2 ⟨rfl, hb⟩; refine ⟨_, rfl, ?_⟩; have HB := Aside0.mk (HB.out.step hb); clear hb))
  go_ret
  exact ⟨rfl, HB.out.below⟩)
theorem comp_calls (A0 : Option Addr) (c0 : Nat) (l : List Stp) (hr : Kd.C k77 w A0 l.length l) (hn : l.length ≤ 60) :
  Calls Try.prog 86 #[.agg #[.slice A0 l.length c0], exV e0 e1 e2 e3 e4] w fun e w' => ∃ v : Value, e = .returned v ∧ Kd.R Kd.bool 4 w' w.heap.size (fun _ => True) v (l.map fun s => yes (CompP e0 e1 e2 e3 e4 s)) ∧ Below w.heap.size w w' := by
 have HE : Aside0 (∀ h w1, Below w.heap.size w w1 → w1.heap[h]? = some (.cells #[.int .i64 e0, .int .i64 e1, .int .i64 e2, .int .i64 e3, .int .i64 e4] 42 (0, 0)) → Calls Try.prog 117 #[.agg #[.slice A0 l.length c0], .func (.func 118) #[] #[.pointer (some ⟨h, 0, none⟩)]] w1 fun e w' => ∃ v : Value, e = .returned v ∧ Kd.R Kd.bool 4 w' w1.heap.size (fun _ => True) v (l.map fun s => yes (CompP e0 e1 e2 e3 e4 s)) ∧ Below w1.heap.size w1 w') :=
  ⟨fun h w1 hb hh => each_calls _ _ _ A0 c0 l w1 (Kd.C_below hr hb) hn fun w2 hb2 s _ A c hc hC => ⟨_, _, _, rfl, Try.func118, by kernel_rfl, rfl, comp1_calls s A c hc hC (blk_below hh hb2)⟩⟩
 have hmf : ∀ (fn : Fn) (first cap : Array Value) (w : World), (Instr.makeFunc fn first cap).run Try.prog w = .ok (.func fn first cap) w := fun _ _ _ _ => rfl
 have hu := Try.underlying38
 have hu2 := Try.underlying42
 have hu3 := Try.underlying40
 have HB := Aside0.mk (Fr.new w)
 clear hr hn
 go_enter Try.func86, Try.ntmps86
 go_wp2_with (first | ((with_reducible refine gate_dst (N := 2) rfl ?_); refine fr_box HB (N := 2) rfl rfl (cs := #[.slice A0 l.length c0]) (t := 38) ?hr ?_; (case hr => first | (go_simp; done) | (go_simp; rfl)); intro gb w1 _ HB; have y0 := HB.out.c0) | ((with_reducible refine gate_dst (N := 3) rfl ?_); refine fr_box HB (N := 3) rfl rfl (cs := #[.int .i64 e0, .int .i64 e1, .int .i64 e2, .int .i64 e3, .int .i64 e4]) (t := 42) ?hr ?_; (case hr => first | (go_simp; done) | (go_simp; rfl)); intro h w1 _ HB; have y0 := HB.out.c1; have y1 := HB.out.c0) | ((with_reducible refine gate_callee (f := 117) rfl ?_); refine goesM (some 7) rfl rfl Try.func117 #[.agg #[.slice A0 l.length c0], .func (.func 118) #[] #[.pointer (some ⟨h, 0, none⟩)]] rfl ?_; refine (HE.out h _ HB.out.below (HB.out.blk 0 rfl)).mono ?_; rintro e w2 ⟨v, rfl, hr, hb⟩; refine ⟨_, rfl, ?_⟩; have HM := Aside0.mk (Kd.R_lower hr HB.out.below.size); have HB2 := Aside0.mk (HB.out.step hb); clear hr hb))
 go_ret
 exact ⟨_, rfl, HM.out, HB2.out.below⟩
theorem keeps_calls (A0 : Option Addr) (c0 : Nat) (l : List Stp) (hr : Kd.C k77 w A0 l.length l) (hn : l.length ≤ 60) :
  Calls Try.prog 87 #[.agg #[.slice A0 l.length c0], exV e0 e1 e2 e3 e4] w fun e w' => ∃ v : Value, e = .returned v ∧ Kd.R Kd.bool 4 w' w.heap.size (fun _ => True) v (l.map fun s => yes (KeepsP e1 e3 s)) ∧ Below w.heap.size w w' := by
 have HE : Aside0 (∀ h w1, Below w.heap.size w w1 → w1.heap[h]? = some (.cells #[.int .i64 e0, .int .i64 e1, .int .i64 e2, .int .i64 e3, .int .i64 e4] 42 (0, 0)) → Calls Try.prog 117 #[.agg #[.slice A0 l.length c0], .func (.func 120) #[] #[.pointer (some ⟨h, 0, none⟩)]] w1 fun e w' => ∃ v : Value, e = .returned v ∧ Kd.R Kd.bool 4 w' w1.heap.size (fun _ => True) v (l.map fun s => yes (KeepsP e1 e3 s)) ∧ Below w1.heap.size w1 w') :=
  ⟨fun h w1 hb hh => each_calls _ _ _ A0 c0 l w1 (Kd.C_below hr hb) hn fun w2 hb2 s _ A c hc hC => ⟨_, _, _, rfl, Try.func120, by kernel_rfl, rfl, keeps1_calls s A c hc hC (blk_below hh hb2)⟩⟩
 have hmf : ∀ (fn : Fn) (first cap : Array Value) (w : World), (Instr.makeFunc fn first cap).run Try.prog w = .ok (.func fn first cap) w := fun _ _ _ _ => rfl
 have hu := Try.underlying38
 have hu2 := Try.underlying42
 have hu3 := Try.underlying40
 have HB := Aside0.mk (Fr.new w)
 clear hr hn
 go_enter Try.func87, Try.ntmps87
 go_wp2_with (first | ((with_reducible refine gate_dst (N := 2) rfl ?_); refine fr_box HB (N := 2) rfl rfl (cs := #[.slice A0 l.length c0]) (t := 38) ?hr ?_; (case hr => first | (go_simp; done) | (go_simp; rfl)); intro gb w1 _ HB; have y0 := HB.out.c0) | ((with_reducible refine gate_dst (N := 3) rfl ?_); refine fr_box HB (N := 3) rfl rfl (cs := #[.int .i64 e0, .int .i64 e1, .int .i64 e2, .int .i64 e3, .int .i64 e4]) (t := 42) ?hr ?_; (case hr => first | (go_simp; done) | (go_simp; rfl)); intro h w1 _ HB; have y0 := HB.out.c1; have y1 := HB.out.c0) | ((with_reducible refine gate_callee (f := 117) rfl ?_); refine goesM (some 7) rfl rfl Try.func117 #[.agg #[.slice A0 l.length c0], .func (.func 120) #[] #[.pointer (some ⟨h, 0, none⟩)]] rfl ?_; refine (HE.out h _ HB.out.below (HB.out.blk 0 rfl)).mono ?_; rintro e w2 ⟨v, rfl, hr, hb⟩; refine ⟨_, rfl, ?_⟩; have HM := Aside0.mk (Kd.R_lower hr HB.out.below.size); have HB2 := Aside0.mk (HB.out.step hb); clear hr hb))
 go_ret
 exact ⟨_, rfl, HM.out, HB2.out.below⟩
end
end Go.Proofs.Ytcgbbhkjkkpfoaa.P
namespace Go.Proofs.Ytcgbbhkjkkpfoaa.P
open Go.RowKit Go.Proofs.YtcgbbhkjkkpfoaaW.PrintWords Go.Proofs.YtcgbbhkjkkpfoaaW.PrintLast Go.Proofs.YtcgbbhkjkkpfoaaW.PrintMore
attribute [local go_sem] max2_int min2_int max_two min_two max_three min_three max_four min_four
mutual
def impl_Prog_reach.l0 : Nat → List Bool → List Int → List (S77) → Option (List Bool)
 | 0, _, _, _ => none
 | k + 1, x3, x4, x265000 => if (x4.length : Int) > 0 then (if 0 ≤ (wrap64 ((x4.length : Int) - 1)) then (if (wrap64 ((x4.length : Int) - 1)) < (x4.length : Int) then (if (wrap64 ((x4.length : Int) - 1)) ≤ (x4.length : Int) then (if 0 ≤ (rd x4 (wrap64 ((x4.length : Int) - 1))) then (if (rd x4 (wrap64 ((x4.length : Int) - 1))) < (x265000.length : Int) then (impl_Prog_reach.l1 k x3 (x4.take ((wrap64 ((x4.length : Int) - 1)) : Int).toNat) ((rd_T77 x265000 (rd x4 (wrap64 ((x4.length : Int) - 1)))).f5) (((rd_T77 x265000 (rd x4 (wrap64 ((x4.length : Int) - 1)))).f5).length : Int) 0 x265000) else (none)) else (none)) else (none)) else (none)) else (none)) else (some x3)
def impl_Prog_reach.l1 : Nat → List Bool → List Int → List Int → Int → Int → List (S77) → Option (List Bool)
 | 0, _, _, _, _, _, _ => none
 | k + 1, x3, x4, x34, x35, x36, x265000 => if x36 < x35 then (if 0 ≤ x36 then (if x36 < (x34.length : Int) then (if 0 ≤ (rd x34 x36) then (if (rd x34 x36) < (x3.length : Int) then (if (rdOf false x3 (rd x34 x36) = true) then (impl_Prog_reach.l1 k x3 x4 x34 x35 (wrap64 (x36 + 1)) x265000) else (if x4.length < 17592186044416 then (impl_Prog_reach.l1 k (x3.set ((rd x34 x36) : Int).toNat true) (x4 ++ [rd x34 x36]) x34 x35 (wrap64 (x36 + 1)) x265000) else (none))) else (none)) else (none)) else (none)) else (none)) else (impl_Prog_reach.l0 k x3 x4 x265000)
end
def impl_Prog_reach.f (k : Nat) (l0_0 : List (S77)) : Option (List Bool) := if 0 ≤ (l0_0.length : Int) then (if ((l0_0.length : Int) : Int).toNat ≤ 281474976710656 then ((some (List.replicate ((l0_0.length : Int) : Int).toNat false : List Bool)).bind fun y265 => (if 0 < (y265.length : Int) then (impl_Prog_reach.l0 k (y265.set (0 : Int).toNat true) (([0] : List Int)) l0_0) else (none))) else (none)) else (none)
theorem impl_Prog_reach.calls (k : Nat) (A0_0 : Option Addr) (c0_0 : Nat) (l0_0 : List (S77)) (r : List Bool) (w : World) (hr0_0 : Kd.C k77 w A0_0 l0_0.length l0_0) (hc0_0 : l0_0.length ≤ c0_0) (h : impl_Prog_reach.f k l0_0 = some r) :
  Calls Try.prog 84 #[.agg #[.slice A0_0 l0_0.length c0_0]] w fun e w' => ∃ v0_ : Value, e = .returned (v0_) ∧ Kd.R Kd.bool 4 w' w.heap.size (fun _ => True) v0_ r ∧ Below w.heap.size w w' := by
 have hu38 := Try.underlying38
 have HR0_0 := Aside0.mk hr0_0
 have HC0_0 := Aside0.mk hc0_0
 clear hr0_0 hc0_0
 have HB := Aside0.mk (Below.refl w.heap.size w)
 have H : (if 0 ≤ (l0_0.length : Int) then (if ((l0_0.length : Int) : Int).toNat ≤ 281474976710656 then ((some (List.replicate ((l0_0.length : Int) : Int).toNat false : List Bool)).bind fun y265 => (if 0 < (y265.length : Int) then (impl_Prog_reach.l0 k (y265.set (0 : Int).toNat true) (([0] : List Int)) l0_0) else (none))) else (none)) else (none)) = some r := h
 clear h
 by_cases c2 : 0 ≤ (l0_0.length : Int)
 ·rw [if_pos c2] at H
  have c2b0 := eq_true c2
  have c2b1 : decide (0 ≤ (l0_0.length : Int)) = true := decide_eq_true c2
  clear c2
  by_cases c3 : ((l0_0.length : Int) : Int).toNat ≤ 281474976710656
  ·rw [if_pos c3] at H
   have c3b0 := eq_true c3
   have c3b1 : decide (((l0_0.length : Int) : Int).toNat ≤ 281474976710656) = true := decide_eq_true c3
   clear c3
   obtain ⟨y265, hy265⟩ : ∃ y_ : List Bool, y_ = (List.replicate ((l0_0.length : Int) : Int).toNat false) := ⟨_, rfl⟩
   replace H : (if 0 < (y265.length : Int) then (impl_Prog_reach.l0 k (y265.set (0 : Int).toNat true) (([0] : List Int)) l0_0) else (none)) = some r := by first | (rw [hy265]; with_reducible exact H) | (have H2_ := (Option.bind_some _ _).symm.trans H; rw [hy265]; with_reducible exact H2_) | (have H2_ := (Option.bind_some _ _).symm.trans H; with_reducible exact H2_) | with_reducible exact H | (rw [hy265]; exact H) | exact H
   have Ny265 := Aside0.mk hy265
   clear hy265
   by_cases c4 : 0 < (y265.length : Int)
   ·rw [if_pos c4] at H
    have c4b0 : decide (0 < (y265.length : Int)) = true := decide_eq_true c4
    have c4b1 : decide (0 < y265.length) = true := decide_eq_true (by omega)
    clear c4
    obtain ⟨y268, hy268⟩ : ∃ y_ : List Bool, y_ = (y265.set (0 : Int).toNat true) := ⟨_, rfl⟩
    replace H : (impl_Prog_reach.l0 k y268 (([0] : List Int)) l0_0) = some r := by first | (rw [hy268]; with_reducible exact H) | (have H2_ := (Option.bind_some _ _).symm.trans H; rw [hy268]; with_reducible exact H2_) | (have H2_ := (Option.bind_some _ _).symm.trans H; with_reducible exact H2_) | with_reducible exact H | (rw [hy268]; exact H) | exact H
    have Ny268 := Aside0.mk hy268
    clear hy268
    obtain ⟨y269, hy269⟩ : ∃ y_ : List Int, y_ = (([0] : List Int)) := ⟨_, rfl⟩
    replace H : (impl_Prog_reach.l0 k y268 y269 l0_0) = some r := by first | (rw [hy269]; with_reducible exact H) | (have H2_ := (Option.bind_some _ _).symm.trans H; rw [hy269]; with_reducible exact H2_) | (have H2_ := (Option.bind_some _ _).symm.trans H; with_reducible exact H2_) | with_reducible exact H | (rw [hy269]; exact H) | exact H
    have Ny269 := Aside0.mk hy269
    clear hy269
    have H' := Aside0.mk H
    clear H
    go_enter Try.func84, Try.ntmps84
    go_wp2_with (first | ((with_reducible refine gate_dst (N := 1) rfl ?_); refine bxe (cs := #[.slice A0_0 l0_0.length c0_0]) (t := 38) ?_; intro gb264 hg w6 hbox hb; have BK264 := Aside0.mk (hbox); have GW264 := bwz HB hg; have GE264 := bwz HB hg; replace HB := bwb HB hb; clear hb hbox hg; obtain ⟨hcz7, hfz7⟩ := bcf BK264) | ((with_reducible refine gate_dst (N := 11) rfl ?_); refine Kd.R_make Kd.bool _ 4 rfl (N := 11) rfl 29 _ _ rfl (l0_0.length : Int) rfl rfl Try.underlying29 (.bool false) 1 info4 rfl (by decide) (by omega) false (ok := fun _ => True) (okp := fun _ => True) rfl (fun _ hk => hk) trivial (oda) (Nat.le_trans (Nat.mul_le_mul_right _ (oda : (l0_0.length : Int).toNat ≤ 281474976710656)) (by omega)) (Below.refl _ _) (Nat.le_refl _) ?_; intro v266 w8 ho9 hb hg_ hnew_; clear hg_ hnew_; (first | rw [← Ny265.out] at ho9 | (simp only [Int.reduceToNat] at ho9; rw [← Ny265.out] at ho9)); have HO267 := Aside0.mk (Kd.R_lower ho9 (below_size (bwq HB))); replace BK264 := bkb BK264 hb; replace HB := bwb HB hb; clear hb ho9; have p5 : 0 ≤ (0 : Int) := (by omega); have q5 : (0 : Int) < ((y265.length : Int) : Int) := oda; have qi5 : (0 < y265.length) = True := eq_true (by omega); obtain ⟨go5, co5, eo5, gb5, gl5, cl5, HG5⟩ := Kd.R_form HO267.out (by omega); (first | cases eo5 | (injection eo5 with ea_ en_ ec_; (first | subst ea_ | (injection ea_ with ea_; subst ea_)); subst ec_; clear en_)); have GB5 := Aside0.mk gb5; have GG5 := Aside0.mk HG5; clear gb5 gl5 HG5; obtain ⟨hx5_0, hf5_0⟩ := Kd.R_celln false HO267.out (0 : Int) p5 q5; (try rw [show ((0 : Int)).toNat = 0 from rfl] at hx5_0); (try simp only [Nat.reduceMul, Nat.zero_mul, Nat.zero_add, Nat.reduceAdd] at hx5_0); (try rw [show ((0 : Int)).toNat = 0 from rfl] at hf5_0); (try simp only [Nat.reduceMul, Nat.zero_mul, Nat.zero_add, Nat.reduceAdd] at hf5_0); replace p5 := eq_true p5; replace q5 := eq_true q5; obtain ⟨hy10_, hz10_⟩ := Kd.R_celln false HO267.out (0 : Int) (by omega) (oda); (try simp only [Int.reduceToNat, Int.toNat_zero, Int.toNat_ofNat, Nat.reduceMul, Nat.zero_mul, Nat.zero_add] at hy10_ hz10_); (try rw [show ((0 : Int)).toNat = 0 from rfl] at hy10_); (try rw [show ((0 : Int)).toNat = 0 from rfl] at hz10_); have HP10 := Kd.R_putg HO267.out (0 : Int) true) | ((with_reducible refine gate_store (t := 4) (p := 13) rfl ?_); refine store_event (t := 4) (p := 13) (v := ?vo_w11) (w1 := (w8.setCell ⟨go5, (0 : Int).toNat, none⟩ (.bool true))) ?hg ?ho ?hn ?hr ?_; (case ho => rfl); (case hg => rfl); (case hn => rfl); (case hr => first | (go_simp; done) | (go_simp; rfl) | (go_simp; rfl)); intro w11 hw; have hg : w8.grownBy w11 (some go5) := (by rw [hw]; exact HP10.2); have hp_ : Kd.R Kd.bool 4 w11 w.heap.size (fun _ => True) (.slice (some ⟨go5, 0, none⟩) y265.length co5) y268 := (by rw [hw, Ny268.out]; exact HP10.1); clear HP10; replace BK264 := Aside0.mk (blk_grown (g := gb264) (o := .cells #[.slice A0_0 l0_0.length c0_0] 38 (0, 0)) (bkq BK264) hg (Kd.R_ne HO267.out BK264.out (by decide))); replace HO267 := Aside0.mk (hp_); replace HB := Aside0.mk ((by rw [hw]; exact below_set (HB.out) GB5.out : Below w.heap.size w w11)); clear hg hw hp_) | ((with_reducible refine gate_dst (N := 14) rfl ?_); refine Kd.R_lit (Kd.int .i64) _ 3 ?hg (N := 14) ?hd (xs := ([0] : List Int)) (inner := [.int .i64 0]) (ok := fun _ => True) (okp := fun _ => True) ?hr ?hp (fun _ hk => hk) trivial (Below.refl _ _) (Nat.le_refl _) (by simp) ?_; (case hd => rfl); (case hg => rfl); (case hr => first | (go_simp; done) | (go_simp; rfl) | (go_simp; rfl)); (case hp => exact (Reps.one (show Kd.M (Kd.int .i64) _ _ _ 0 [.int .i64 0] from rfl) (Reps.none _ _))); intro v270 w12 ho13 hb hg_ hnew_; clear hg_ hnew_; (first | rw [← Ny269.out] at ho13 | (simp only [Int.reduceToNat] at ho13; rw [← Ny269.out] at ho13)); replace HO267 := Aside0.mk (Kd.R_below (Rq HO267.out) hb); have HO271 := Aside0.mk (Kd.R_lower ho13 (below_size (bwq HB))); replace BK264 := bkb BK264 hb; replace HB := bwb HB hb; clear hb ho13))
    go_loopg [4] k (fun kq v4 w' => ∃ (x3_1 : List Bool) (x4_1 : List Int), Aside0 (impl_Prog_reach.l0 kq x3_1 x4_1 l0_0 = some r) ∧ Aside0 (kq ≤ k) ∧ Aside0 (Kd.R Kd.bool 4 w' w.heap.size (fun _ => True) (.slice (some ⟨go5, 0, none⟩) y265.length co5) x3_1) ∧ Aside0 (Kd.R (Kd.int .i64) 3 w' w.heap.size (fun _ => True) v4 x4_1) ∧ Aside0 (w'.heap[gb264]? = some (.cells #[(.slice A0_0 l0_0.length c0_0)] 38 (0, 0))) ∧ Aside0 (Below w.heap.size w w'))
    case atStart => exact ⟨(y268), (y269), H', ⟨Nat.le_refl _⟩, ⟨Rq HO267.out⟩, ⟨Rq HO271.out⟩, ⟨bkq BK264⟩, ⟨bwq HB⟩⟩
    case round =>
     clear H'
     try clear c2
     try clear c2b0
     try clear c2b1
     try clear p2
     try clear c3
     try clear c3b0
     try clear c3b1
     try clear c4
     try clear c4b0
     try clear c4b1
     try clear p5
     try clear q5
     try clear hx5
     try clear qi5
     try clear hf5
     try clear c8
     try clear hcz7
     try clear hfz7
     try clear hx5_0
     try clear p5
     try clear q5
     obtain ⟨x3_1, x4_1, HA, HK1, HO_3, HO_4, BK264, HB⟩ := hrel
     have hl3_1 := (Kd.R_reads' HO_3.out).1
     rw [hl3_1] at HO_3
     (try simp only [hl3_1])
     (try simp only [hl3_1] at BK264)
     (try simp only [hl3_1] at HO_4)
     cases gk with
     | zero => exact absurd HA.out (by intro h_; first | (cases h_; done) | (simp [impl_Prog_reach.l0] at h_))
     | succ k1 =>
      have H := HA.out
      clear HA
      simp only [impl_Prog_reach.l0] at H
      by_cases c14 : (x4_1.length : Int) > 0
      ·rw [if_pos c14] at H
       have c14b0 : decide (0 < (x4_1.length : Int)) = true := decide_eq_true c14
       have c14b1 : decide (0 < x4_1.length) = true := decide_eq_true (by omega)
       clear c14
       obtain ⟨ji15, hji15⟩ : ∃ j_ : Int, (wrap64 ((x4_1.length : Int) - 1)) = j_ := ⟨_, rfl⟩
       replace H : (if 0 ≤ (ji15) then (if (ji15) < (x4_1.length : Int) then (if (ji15) ≤ (x4_1.length : Int) then (if 0 ≤ (rd x4_1 (ji15)) then (if (rd x4_1 (ji15)) < (l0_0.length : Int) then (impl_Prog_reach.l1 k1 x3_1 (x4_1.take ((ji15) : Int).toNat) ((rd_T77 l0_0 (rd x4_1 (ji15))).f5) (((rd_T77 l0_0 (rd x4_1 (ji15))).f5).length : Int) 0 l0_0) else (none)) else (none)) else (none)) else (none)) else (none)) = some r := by first | (rw [hji15] at H; exact H) | (simp only [hji15] at H ⊢; exact H)
       have hji15w : (IntKind.i64.wrap ((x4_1.length : Int) - 1)) = ji15 := (i64_w _).trans hji15
       by_cases c16 : 0 ≤ (ji15)
       ·rw [if_pos c16] at H
        have c16b0 : decide (0 ≤ (ji15)) = true := decide_eq_true c16
        clear c16
        by_cases c17 : (ji15) < (x4_1.length : Int)
        ·rw [if_pos c17] at H
         have c17b0 : decide ((ji15) < (x4_1.length : Int)) = true := decide_eq_true c17
         clear c17
         by_cases c18 : (ji15) ≤ (x4_1.length : Int)
         ·rw [if_pos c18] at H
          have c18b0 := eq_true c18
          have c18b1 : decide ((ji15) ≤ (x4_1.length : Int)) = true := decide_eq_true c18
          clear c18
          obtain ⟨y273, hy273⟩ : ∃ y_ : List Int, y_ = (x4_1.take ((ji15) : Int).toNat) := ⟨_, rfl⟩
          replace H : (if 0 ≤ (rd x4_1 (ji15)) then (if (rd x4_1 (ji15)) < (l0_0.length : Int) then (impl_Prog_reach.l1 k1 x3_1 y273 ((rd_T77 l0_0 (rd x4_1 (ji15))).f5) (((rd_T77 l0_0 (rd x4_1 (ji15))).f5).length : Int) 0 l0_0) else (none)) else (none)) = some r := by first | (rw [hy273]; with_reducible exact H) | (have H2_ := (Option.bind_some _ _).symm.trans H; rw [hy273]; with_reducible exact H2_) | (have H2_ := (Option.bind_some _ _).symm.trans H; with_reducible exact H2_) | with_reducible exact H | (rw [hy273]; exact H) | exact H
          have Ny273 := Aside0.mk hy273
          clear hy273
          by_cases c19 : 0 ≤ (rd x4_1 (ji15))
          ·rw [if_pos c19] at H
           have c19b0 : decide (0 ≤ (rd x4_1 (ji15))) = true := decide_eq_true c19
           clear c19
           by_cases c20 : (rd x4_1 (ji15)) < (l0_0.length : Int)
           ·rw [if_pos c20] at H
            have c20b0 : decide ((rd x4_1 (ji15)) < (l0_0.length : Int)) = true := decide_eq_true c20
            clear c20
            have H' := Aside0.mk H
            clear H
            obtain ⟨Ao21, co21, eo21⟩ := Kd.R_slice HO_4.out
            subst eo21
            have p272 : 0 ≤ ((ji15) : Int) := oda
            have q272 : (ji15) < (x4_1.length : Int) := oda
            obtain ⟨ad272, e272, hx272_0⟩ := Kd.at_int (Kd.R_reads' HO_4.out).2.2 (ji15) p272 q272
            cases e272
            replace p272 := eq_true p272
            replace q272 := eq_true q272
            have q22 : ((ji15) : Int) ≤ ((x4_1.length : Int) : Int) := oda
            obtain ⟨i022, hi022, _, hsz22, _⟩ := info_parts info3
            have hcut22 := cut_to (P := Try.prog) 32 3 .i64 Try.underlying32 hi022 (some ad272) x4_1.length co21 (ji15) (oda) q22 (Kd.R_reads' HO_4.out).2.1
            have hr22 := Kd.R_take (m := ((ji15) : Int).toNat) HO_4.out (by omega)
            have hy22 : y273.length = ((ji15) : Int).toNat := (by rw [Ny273.out, List.length_take]; omega)
            rw [← Ny273.out] at hr22
            rw [← hy22] at hr22 hcut22
            clear hy22 hi022 hsz22 HO_4
            have HO275 := Aside0.mk hr22
            clear hr22
            replace q22 := eq_true q22
            obtain ⟨hcz23, hfz23⟩ := bcf BK264
            have p276 : 0 ≤ ((rd x4_1 (ji15)) : Int) := oda
            have q276 : (rd x4_1 (ji15)) < (l0_0.length : Int) := oda
            obtain ⟨ad276, A276_7, c276_7, e276, hx276_0, hx276_1, hx276_2, hx276_3, hx276_4, hx276_5, hx276_6, hx276_7, hl276_7, hi276_7⟩ := at_T77 HR0_0.out (rd x4_1 (ji15)) p276 q276
            cases e276
            replace hx276_0 := hxb HB hx276_0
            replace hx276_1 := hxb HB hx276_1
            replace hx276_2 := hxb HB hx276_2
            replace hx276_3 := hxb HB hx276_3
            replace hx276_4 := hxb HB hx276_4
            replace hx276_5 := hxb HB hx276_5
            replace hx276_6 := hxb HB hx276_6
            replace hx276_7 := hxb HB hx276_7
            have HR276_7 := Aside0.mk hi276_7
            have HC276_7 := Aside0.mk hl276_7
            clear hi276_7 hl276_7
            replace p276 := eq_true p276
            replace q276 := eq_true q276
            go_wp2
            go_loopg [4, 36] k1 (fun kq v4 v36 w' => ∃ (x3_2 : List Bool) (x4_2 : List Int) (x36_2 : Int), v36 = .int .i64 x36_2 ∧ Aside0 (impl_Prog_reach.l1 kq x3_2 x4_2 ((rd_T77 l0_0 (rd x4_1 (ji15))).f5) (((rd_T77 l0_0 (rd x4_1 (ji15))).f5).length : Int) x36_2 l0_0 = some r) ∧ Aside0 (kq ≤ k1) ∧ Aside0 (Kd.R Kd.bool 4 w' w.heap.size (fun _ => True) (.slice (some ⟨go5, 0, none⟩) x3_1.length co5) x3_2) ∧ Aside0 (Kd.R (Kd.int .i64) 3 w' w.heap.size (fun _ => True) v4 x4_2) ∧ Aside0 (w'.heap[gb264]? = some (.cells #[(.slice (some ad276) l0_0.length c0_0)] 38 (0, 0))) ∧ Aside0 (Below w.heap.size w w'))
            case atStart => exact ⟨(x3_1), (y273), (0), (by first | rfl | (simp; done) | (simp [*]; done)), H', ⟨Nat.le_refl _⟩, ⟨by (try simp only [hl3_1]); exact Rq HO_3.out⟩, ⟨by (try simp only [hl3_1]); exact Rq HO275.out⟩, ⟨by (try simp only [hl3_1]); exact bkq BK264⟩, ⟨bwq HB⟩⟩
            case round =>
             clear H'
             try clear c1
             try clear c2
             try clear c2b0
             try clear c2b1
             try clear p2
             try clear q2
             try clear hx2
             try clear c3
             try clear c3b0
             try clear c3b1
             try clear c4
             try clear c4b0
             try clear c4b1
             try clear p5
             try clear q5
             try clear hx5
             try clear qi5
             try clear hf5
             try clear p6
             try clear c8
             try clear c14
             try clear c14b0
             try clear c14b1
             try clear c16
             try clear c16b0
             try clear c17
             try clear c17b0
             try clear c18
             try clear c18b0
             try clear c18b1
             try clear c19
             try clear c19b0
             try clear c20
             try clear c20b0
             try clear q22
             try clear hcz23
             try clear hcz7
             try clear hfz23
             try clear hfz7
             try clear hx272_0
             try clear hx276_0
             try clear hx276_1
             try clear hx276_2
             try clear hx276_3
             try clear hx276_4
             try clear hx276_5
             try clear hx276_6
             try clear hx276_7
             try clear hx5_0
             try clear p2
             try clear p272
             try clear p276
             try clear p5
             try clear q22
             try clear q272
             try clear q276
             try clear q5
             obtain ⟨x3_2, x4_2, x36_2, rfl, HA, HK2, HO_3, HO_4, BK264, HB⟩ := hrel
             have hl3_2 := (Kd.R_reads' HO_3.out).1
             rw [hl3_2] at HO_3
             (try simp only [hl3_2])
             (try simp only [hl3_2] at BK264)
             (try simp only [hl3_2] at HO_4)
             cases gk with
             | zero => exact absurd HA.out (by intro h_; first | (cases h_; done) | (simp [impl_Prog_reach.l1] at h_))
             | succ k2 =>
              have H := HA.out
              clear HA
              simp only [impl_Prog_reach.l1] at H
              by_cases c24 : x36_2 < (((rd_T77 l0_0 (rd x4_1 (ji15))).f5).length : Int)
              ·rw [if_pos c24] at H
               have c24b0 : decide (x36_2 < (((rd_T77 l0_0 (rd x4_1 (ji15))).f5).length : Int)) = true := decide_eq_true c24
               clear c24
               by_cases c25 : 0 ≤ x36_2
               ·rw [if_pos c25] at H
                have c25b0 : decide (0 ≤ x36_2) = true := decide_eq_true c25
                clear c25
                by_cases c26 : x36_2 < (((rd_T77 l0_0 (rd x4_1 (ji15))).f5).length : Int)
                ·rw [if_pos c26] at H
                 have c26b0 : decide (x36_2 < (((rd_T77 l0_0 (rd x4_1 (ji15))).f5).length : Int)) = true := decide_eq_true c26
                 clear c26
                 by_cases c27 : 0 ≤ (rd ((rd_T77 l0_0 (rd x4_1 (ji15))).f5) x36_2)
                 ·rw [if_pos c27] at H
                  have c27b0 : decide (0 ≤ (rd ((rd_T77 l0_0 (rd x4_1 (ji15))).f5) x36_2)) = true := decide_eq_true c27
                  clear c27
                  by_cases c28 : (rd ((rd_T77 l0_0 (rd x4_1 (ji15))).f5) x36_2) < (x3_2.length : Int)
                  ·rw [if_pos c28] at H
                   have c28b0 : decide ((rd ((rd_T77 l0_0 (rd x4_1 (ji15))).f5) x36_2) < (x3_2.length : Int)) = true := decide_eq_true c28
                   clear c28
                   obtain ⟨bq29, hbq29⟩ : ∃ b_ : Bool, b_ = (rdOf false x3_2 (rd ((rd_T77 l0_0 (rd x4_1 (ji15))).f5) x36_2)) := ⟨_, rfl⟩
                   replace H : (if (bq29 = true) then (impl_Prog_reach.l1 k2 x3_2 x4_2 ((rd_T77 l0_0 (rd x4_1 (ji15))).f5) (((rd_T77 l0_0 (rd x4_1 (ji15))).f5).length : Int) (wrap64 (x36_2 + 1)) l0_0) else (if x4_2.length < 17592186044416 then (impl_Prog_reach.l1 k2 (x3_2.set ((rd ((rd_T77 l0_0 (rd x4_1 (ji15))).f5) x36_2) : Int).toNat true) (x4_2 ++ [rd ((rd_T77 l0_0 (rd x4_1 (ji15))).f5) x36_2]) ((rd_T77 l0_0 (rd x4_1 (ji15))).f5) (((rd_T77 l0_0 (rd x4_1 (ji15))).f5).length : Int) (wrap64 (x36_2 + 1)) l0_0) else (none))) = some r := by rw [← hbq29] at H; exact H
                   have Nbq29 := Aside0.mk hbq29
                   clear hbq29
                   by_cases c30 : (bq29 = true)
                   ·subst c30
                    rw [if_pos rfl] at H
                    have H' := Aside0.mk H
                    clear H
                    have p277 : 0 ≤ (x36_2 : Int) := oda
                    have q277 : x36_2 < (((rd_T77 l0_0 (rd x4_1 (ji15))).f5).length : Int) := oda
                    obtain ⟨ad277, e277, hx277_0⟩ := Kd.at_int HR276_7.out x36_2 p277 q277
                    cases e277
                    replace hx277_0 := hxb HB hx277_0
                    replace p277 := eq_true p277
                    replace q277 := eq_true q277
                    have p278 : 0 ≤ ((rd ((rd_T77 l0_0 (rd x4_1 (ji15))).f5) x36_2) : Int) := oda
                    have q278 : (rd ((rd_T77 l0_0 (rd x4_1 (ji15))).f5) x36_2) < (x3_2.length : Int) := oda
                    obtain ⟨ad278, e278, hx278_0⟩ := Kd.at_bool (Kd.R_reads' HO_3.out).2.2 (rd ((rd_T77 l0_0 (rd x4_1 (ji15))).f5) x36_2) p278 q278
                    (try rw [← Nbq29.out] at hx278_0)
                    obtain rfl : (⟨go5, 0, none⟩ : Addr) = ad278 := (by injection e278)
                    (first | simp only [add_plain] at hx278_0 | simp only [add_at] at hx278_0 | simp only [Addr.add, Nat.zero_add] at hx278_0 | skip)
                    replace p278 := eq_true p278
                    replace q278 := eq_true q278
                    go_wp2
                    (try simp only [← hl3_2])
                    go_roundg k2
                    case measure => have := HK1.out; have := HK2.out; omega
                    case rel => exact ⟨(x3_2), (x4_2), (wrap64 (x36_2 + 1)), (by first | rfl | (simp; done) | (simp [*]; done)), H', ⟨by have := HK1.out; have := HK2.out; omega⟩, ⟨by (try simp only [hl3_1]); (try simp only [hl3_2]); exact Rq HO_3.out⟩, ⟨by (try simp only [hl3_1]); (try simp only [hl3_2]); exact Rq HO_4.out⟩, ⟨by (try simp only [hl3_1]); (try simp only [hl3_2]); exact bkq BK264⟩, ⟨bwq HB⟩⟩
                   ·replace c30 := Bool.eq_false_iff.mpr c30
                    subst c30
                    have H1 : (if x4_2.length < 17592186044416 then (impl_Prog_reach.l1 k2 (x3_2.set ((rd ((rd_T77 l0_0 (rd x4_1 (ji15))).f5) x36_2) : Int).toNat true) (x4_2 ++ [rd ((rd_T77 l0_0 (rd x4_1 (ji15))).f5) x36_2]) ((rd_T77 l0_0 (rd x4_1 (ji15))).f5) (((rd_T77 l0_0 (rd x4_1 (ji15))).f5).length : Int) (wrap64 (x36_2 + 1)) l0_0) else (none)) = some r := by rw [if_neg (show ¬ (false = true) by decide)] at H; exact H
                    clear H
                    have H := H1
                    clear H1
                    obtain ⟨y279, hy279⟩ : ∃ y_ : List Bool, y_ = (x3_2.set ((rd ((rd_T77 l0_0 (rd x4_1 (ji15))).f5) x36_2) : Int).toNat true) := ⟨_, rfl⟩
                    replace H : (if x4_2.length < 17592186044416 then (impl_Prog_reach.l1 k2 y279 (x4_2 ++ [rd ((rd_T77 l0_0 (rd x4_1 (ji15))).f5) x36_2]) ((rd_T77 l0_0 (rd x4_1 (ji15))).f5) (((rd_T77 l0_0 (rd x4_1 (ji15))).f5).length : Int) (wrap64 (x36_2 + 1)) l0_0) else (none)) = some r := by first | (rw [hy279]; with_reducible exact H) | (have H2_ := (Option.bind_some _ _).symm.trans H; rw [hy279]; with_reducible exact H2_) | (have H2_ := (Option.bind_some _ _).symm.trans H; with_reducible exact H2_) | with_reducible exact H | (rw [hy279]; exact H) | exact H
                    have Ny279 := Aside0.mk hy279
                    clear hy279
                    by_cases c32 : x4_2.length < 17592186044416
                    ·rw [if_pos c32] at H
                     have LMc32 := Aside0.mk c32
                     clear c32
                     obtain ⟨y280, hy280⟩ : ∃ y_ : List Int, y_ = (x4_2 ++ [rd ((rd_T77 l0_0 (rd x4_1 (ji15))).f5) x36_2]) := ⟨_, rfl⟩
                     replace H : (impl_Prog_reach.l1 k2 y279 y280 ((rd_T77 l0_0 (rd x4_1 (ji15))).f5) (((rd_T77 l0_0 (rd x4_1 (ji15))).f5).length : Int) (wrap64 (x36_2 + 1)) l0_0) = some r := by first | (rw [hy280]; with_reducible exact H) | (have H2_ := (Option.bind_some _ _).symm.trans H; rw [hy280]; with_reducible exact H2_) | (have H2_ := (Option.bind_some _ _).symm.trans H; with_reducible exact H2_) | with_reducible exact H | (rw [hy280]; exact H) | exact H
                     have Ny280 := Aside0.mk hy280
                     clear hy280
                     have H' := Aside0.mk H
                     clear H
                     have p277 : 0 ≤ (x36_2 : Int) := oda
                     have q277 : x36_2 < (((rd_T77 l0_0 (rd x4_1 (ji15))).f5).length : Int) := oda
                     obtain ⟨ad277, e277, hx277_0⟩ := Kd.at_int HR276_7.out x36_2 p277 q277
                     cases e277
                     replace hx277_0 := hxb HB hx277_0
                     replace p277 := eq_true p277
                     replace q277 := eq_true q277
                     have p278 : 0 ≤ ((rd ((rd_T77 l0_0 (rd x4_1 (ji15))).f5) x36_2) : Int) := oda
                     have q278 : (rd ((rd_T77 l0_0 (rd x4_1 (ji15))).f5) x36_2) < (x3_2.length : Int) := oda
                     obtain ⟨ad278, e278, hx278_0⟩ := Kd.at_bool (Kd.R_reads' HO_3.out).2.2 (rd ((rd_T77 l0_0 (rd x4_1 (ji15))).f5) x36_2) p278 q278
                     (try rw [← Nbq29.out] at hx278_0)
                     obtain rfl : (⟨go5, 0, none⟩ : Addr) = ad278 := (by injection e278)
                     (first | simp only [add_plain] at hx278_0 | simp only [add_at] at hx278_0 | simp only [Addr.add, Nat.zero_add] at hx278_0 | skip)
                     replace p278 := eq_true p278
                     replace q278 := eq_true q278
                     have p31 : 0 ≤ ((rd ((rd_T77 l0_0 (rd x4_1 (ji15))).f5) x36_2) : Int) := oda
                     have q31 : ((rd ((rd_T77 l0_0 (rd x4_1 (ji15))).f5) x36_2) : Int) < ((x3_2.length : Int) : Int) := oda
                     obtain ⟨hx31_0, hf31_0⟩ := Kd.R_celln false HO_3.out ((rd ((rd_T77 l0_0 (rd x4_1 (ji15))).f5) x36_2) : Int) p31 q31
                     replace p31 := eq_true p31
                     replace q31 := eq_true q31
                     have HP33 := Kd.R_putg HO_3.out ((rd ((rd_T77 l0_0 (rd x4_1 (ji15))).f5) x36_2) : Int) true
                     go_wp2_with (first | ((with_reducible refine gate_store (t := 4) (p := 47) rfl ?_); refine store_event (t := 4) (p := 47) (v := ?vo_w34) (w1 := (wr.setCell ⟨go5, ((rd ((rd_T77 l0_0 (rd x4_1 (ji15))).f5) x36_2) : Int).toNat, none⟩ (.bool true))) ?hg ?ho ?hn ?hr ?_; (case ho => rfl); (case hg => rfl); (case hn => rfl); (case hr => first | (go_simp; done) | (go_simp; rfl) | (go_simp; rfl)); intro w34 hw; have hg : wr.grownBy w34 (some go5) := (by rw [hw]; exact HP33.2); have hp_ : Kd.R Kd.bool 4 w34 w.heap.size (fun _ => True) (.slice (some ⟨go5, 0, none⟩) x3_2.length co5) y279 := (by rw [hw, Ny279.out]; exact HP33.1); clear HP33; replace HO_4 := Aside0.mk (Kd.R_over' (v := (.slice (some ⟨go5, 0, none⟩) x3_2.length co5)) (Rq HO_4.out) (Kd.R_typed HO_3.out) (by decide) hg); replace BK264 := Aside0.mk (blk_grown (g := gb264) (o := .cells #[.slice (some ad276) l0_0.length c0_0] 38 (0, 0)) (bkq BK264) hg (Kd.R_ne HO_3.out BK264.out (by decide))); replace HO_3 := Aside0.mk (hp_); replace HB := Aside0.mk ((by rw [hw]; exact below_set (HB.out) GB5.out : Below w.heap.size w w34)); clear hg hw hp_) | ((with_reducible refine gate_builtin (b := .append) (xs := #[.tmp 48, .tmp 50]) rfl ?_); at_builtin; refine Kd.R_append (Kd.int .i64) (w0 := w) w.heap.size rfl (.tmp 48) (.tmp 50) 32 3 (.int .i64 0) 8 rfl Try.underlying32 info3 rfl (by decide) (by omega) u4 x4_2 (rd ((rd_T77 l0_0 (rd x4_1 (ji15))).f5) x36_2) [.int .i64 (rd ((rd_T77 l0_0 (rd x4_1 (ji15))).f5) x36_2)] (fun _ => True) (fun _ => False) rfl rfl ?aP (fun _ hk => hk.elim) ?aF ?aO ?aB ?aS ?aL ?_; (case aP => exact rfl); (case aB => exact (bwq HB)); (case aF => exact (fun _ _ => trivial)); (case aO => exact (Rq HO_4.out)); (case aS => exact (below_size (bwq HB))); (case aL => have := LMc32.out; omega); intro v281 w35 ho hb hg hat; rw [← Ny280.out] at ho; have n0_ := Aside0.mk (Kd.R_over' (Rq HO_3.out) (Kd.R_typed (Rq HO_4.out)) (by decide) hg); have n1_ := Aside0.mk (blk_grown (g := gb264) (o := .cells #[.slice (some ad276) l0_0.length c0_0] 38 (0, 0)) (bkq BK264) hg (Kd.R_ne HO_4.out BK264.out (by decide))); have n2_ := Aside0.mk (hb); have n3_ := Aside0.mk (ho); clear HO_3; clear BK264; clear HB; clear HO_4; have HO_3 := n0_; have BK264 := n1_; have HB := n2_; have HO282 := n3_; clear n0_ n1_ n2_ n3_; clear ho hb hg hat))
                     (try simp only [← hl3_2])
                     go_roundg k2
                     case measure => have := HK1.out; have := HK2.out; omega
                     case rel => exact ⟨(y279), (y280), (wrap64 (x36_2 + 1)), (by first | rfl | (simp; done) | (simp [*]; done)), H', ⟨by have := HK1.out; have := HK2.out; omega⟩, ⟨by (try simp only [hl3_1]); (try simp only [hl3_2]); exact Rq HO_3.out⟩, ⟨by (try simp only [hl3_1]); (try simp only [hl3_2]); exact Rq HO282.out⟩, ⟨by (try simp only [hl3_1]); (try simp only [hl3_2]); exact bkq BK264⟩, ⟨bwq HB⟩⟩
                    ·rw [if_neg c32] at H
                     exact absurd H (by simp)
                  ·rw [if_neg c28] at H
                   exact absurd H (by simp)
                 ·rw [if_neg c27] at H
                  exact absurd H (by simp)
                ·rw [if_neg c26] at H
                 exact absurd H (by simp)
               ·rw [if_neg c25] at H
                exact absurd H (by simp)
              ·rw [if_neg c24] at H
               have c24b0 : decide (x36_2 < (((rd_T77 l0_0 (rd x4_1 (ji15))).f5).length : Int)) = false := decide_eq_false c24
               clear c24
               have H' := Aside0.mk H
               clear H
               go_wp2
               (try simp only [← hl3_1, ← hl3_2])
               go_roundg k2
               case measure => have := HK1.out; have := HK2.out; omega
               case rel => exact ⟨(x3_2), (x4_2), H', ⟨by have := HK1.out; have := HK2.out; omega⟩, ⟨by (try simp only [hl3_1]); (try simp only [hl3_2]); exact Rq HO_3.out⟩, ⟨by (try simp only [hl3_1]); (try simp only [hl3_2]); exact Rq HO_4.out⟩, ⟨by (try simp only [hl3_1]); (try simp only [hl3_2]); exact bkq BK264⟩, ⟨bwq HB⟩⟩
           ·rw [if_neg c20] at H
            exact absurd H (by simp)
          ·rw [if_neg c19] at H
           exact absurd H (by simp)
         ·rw [if_neg c18] at H
          exact absurd H (by simp)
        ·rw [if_neg c17] at H
         exact absurd H (by simp)
       ·rw [if_neg c16] at H
        exact absurd H (by simp)
      ·rw [if_neg c14] at H
       have c14b0 : decide (0 < (x4_1.length : Int)) = false := decide_eq_false c14
       have c14b1 : decide (0 < x4_1.length) = false := decide_eq_false (by omega)
       clear c14
       obtain rfl := Option.some.inj H
       obtain ⟨Ao36, co36, eo36⟩ := Kd.R_slice HO_4.out
       subst eo36
       go_wp2
       go_ret
       exact ⟨_, by first | rfl | (simp [errW_none, errW_some] <;> rfl) | (simp [*, errW_none, errW_some] <;> rfl), Rq HO_3.out, bwq HB⟩
   ·rw [if_neg c4] at H
    exact absurd H (by simp)
  ·rw [if_neg c3] at H
   exact absurd H (by simp)
 ·rw [if_neg c2] at H
  exact absurd H (by simp)
end Go.Proofs.Ytcgbbhkjkkpfoaa.P
namespace Go.Proofs.Ytcgbbhkjkkpfoaa.P
open Go.RowKit Go.Proofs.YtcgbbhkjkkpfoaaW.PrintWords Go.Proofs.YtcgbbhkjkkpfoaaW.PrintLast Go.Proofs.YtcgbbhkjkkpfoaaW.PrintMore Lcm Lcm.G
theorem getS {p : List Stp} {i : Nat} (hi : i < p.length) : p.getD i z77 = p[i] := by rw [List.getD_eq_getElem?_getD, List.getElem?_eq_getElem hi, Option.getD_some]
theorem fit_of {p : List Stp} (hp : progOkB p = true) (e0 e1 e2 e3 e4 : Int) : Fit (gOf p e0 e1 e2 e3 e4) p := by
 have hl := progOk_len hp
 have hx : ∀ i (h : i < p.length), ∀ x, x ∈ p[i].f5 → 0 ≤ x ∧ x < p.length := fun i h x hx => stepOk_next (progOk_step hp (List.getElem_mem h)) hx
 refine ⟨by omega, hl.2, fun i h => ?_, fun i h => ?_, fun i h k hk => ?_⟩
 ·show p[i].f5 = ints ((p.getD i z77).f5.map Int.toNat)
  rw [getS h]
  unfold ints
  rw [List.map_map]
  conv => lhs; rw [← List.map_id p[i].f5]
  apply List.map_congr_left
  intro x hm
  have := hx i h x hm
  simp; omega
 ·show ((p.getD i z77).f5.map Int.toNat).length ≤ 2
  rw [getS h, List.length_map]
  have h1 := stepOk_many (progOk_step hp (List.getElem_mem h))
  have hz : nextsZ p[i].f0 ≤ 2 := by unfold nextsZ; split <;> (try split) <;> omega
  omega
 ·have hk' : k ∈ (p.getD i z77).f5.map Int.toNat := hk
  rw [getS h, List.mem_map] at hk'
  obtain ⟨x, hm, rfl⟩ := hk'
  have := hx i h x hm
  omega
theorem map_bl {p : List Stp} {f : Stp → Prop} {P : Nat → Prop} (h : ∀ i (hi : i < p.length), P i ↔ f p[i]) : (p.map fun s => yes (f s)) = bl p.length P :=
 eq_bl (List.length_map _) fun i hi => by
  unfold on
  rw [List.getElem?_map, List.getElem?_eq_getElem hi, h i hi]
  simp [yes_iff]
theorem map_comp (p : List Stp) (e0 e1 e2 e3 e4 : Int) : (p.map fun s => yes (CompP e0 e1 e2 e3 e4 s)) = bl p.length (gOf p e0 e1 e2 e3 e4).comp := map_bl fun i hi => by
 show CompP e0 e1 e2 e3 e4 (p.getD i z77) ↔ _
 rw [getS hi]
theorem map_keeps (p : List Stp) (e0 e1 e2 e3 e4 : Int) : (p.map fun s => yes (KeepsP e1 e3 s)) = bl p.length (gOf p e0 e1 e2 e3 e4).keeps := map_bl fun i hi => by
 show KeepsP e1 e3 (p.getD i z77) ↔ _
 rw [getS hi]
theorem rd_ints {l : List Nat} {j : Nat} (h : j < l.length) : rd (ints l) (j : Int) = (l[j] : Int) := by
 rw [rdN (by rw [ints_len]; exact h)]; unfold ints; rw [List.getElem_map]
section
variable {g : G} {p : List Stp}
structure RInv (g : G) (n : Nat) (out : List Bool) (st : List Int) (b : Nat → Prop) : Prop where
 len : out.length = n
 sub : ∀ i, on out i → g.Reach i
 zero : on out 0
 stk : ∀ x, x ∈ st → ∃ i : Nat, x = (i : Int) ∧ on out i
 cl : ∀ i, on out i → b i ∨ (i : Int) ∈ st ∨ ∀ k, k ∈ g.next i → on out k
theorem RInv.done {n : Nat} {out : List Bool} (h : RInv g n out [] fun _ => False) (hn : ∀ i, g.Reach i → i < n) : out = bl n g.Reach :=
 eq_bl h.len fun i _ => ⟨h.sub i, fun hr => by
  induction hr with
  | zero => exact h.zero
  | step hu hi ih => exact ((h.cl _ (ih (hn _ hu))).resolve_left id).elim (fun c => by cases c) fun c => c _ hi⟩
theorem reach_in (hf : Fit g p) (r : List Bool) (a : Nat) (ha : a < p.length) : ∀ (d j : Nat) (out : List Bool) (st : List Int), j + d = (g.next a).length → RInv g p.length out st (· = a) → on out a → (∀ k, k ∈ (g.next a).take j → on out k) → st.length ≤ 10000 - 2 * (p.length - many out) →
  (∀ out' st', RInv g p.length out' st' (fun _ => False) → 2 * (p.length - many out') + st'.length ≤ 2 * (p.length - many out) + st.length → st'.length ≤ 10000 - 2 * (p.length - many out') → Ev (fun k => impl_Prog_reach.l0 k out' st' p) r) →
  Ev (fun k => impl_Prog_reach.l1 k out st (ints (g.next a)) ((ints (g.next a)).length : Int) (j : Int) p) r
 | 0, j, out, st, hd, hI, ho, ht, hm, hK => by
  refine Ev.step (fun k => by rw [impl_Prog_reach.l1]) (Ev.neg (by rw [ints_len]; omega) (hK out st ⟨hI.len, hI.sub, hI.zero, hI.stk, fun i hi => ?_⟩ (Nat.le_refl _) hm))
  refine .inr ((hI.cl i hi).elim (fun e => ?_) id)
  subst e
  rw [List.take_of_length_le (by omega)] at ht
  exact .inr ht
 | d + 1, j, out, st, hd, hI, ho, ht, hm, hK => by
  have hj : j < (g.next a).length := by omega
  have htwo := hf.two a ha
  have hfew := hf.few
  have hlt := hf.lt a ha _ (List.getElem_mem hj)
  have ht2 : ∀ out', on out' (g.next a)[j] → (∀ k, on out k → on out' k) → ∀ k, k ∈ (g.next a).take (j + 1) → on out' k := fun out' h1 h2 k hk => by
   rw [List.take_add_one, List.getElem?_eq_getElem hj, List.mem_append] at hk
   rcases hk with hk | hk
   ·exact h2 k (ht k hk)
   ·have : k = (g.next a)[j] := by simpa using hk
    subst this; exact h1
  refine Ev.step (fun k => by rw [impl_Prog_reach.l1]) (Ev.pos (by rw [ints_len]; omega) (Ev.pos (by omega) (Ev.pos (by rw [ints_len]; omega) ?_)))
  rw [rd_ints hj, rdB (by rw [hI.len]; exact hlt), wrapN (by omega)]
  refine Ev.pos (by omega) (Ev.pos (by rw [hI.len]; omega) (Ev.cases (fun h => ?_) (fun h => ?_)))
  ·exact reach_in hf r a ha d (j + 1) out st (by omega) hI ho (ht2 out ((on_get _).2 h) fun _ h => h) hm hK
  ·have hoff : ¬ on out (g.next a)[j] := fun c => h ((on_get _).1 c)
   have hc := many_on (by rw [hI.len]; exact hlt) hoff
   have hcl := many_le (out.set (g.next a)[j] true)
   rw [List.length_set, hI.len] at hcl
   have hup : ∀ k, on out k → on (out.set (g.next a)[j] true) k := fun k hk => (on_on (by rw [hI.len]; exact hlt)).2 (.inl hk)
   have hnew : on (out.set (g.next a)[j] true) (g.next a)[j] := (on_on (by rw [hI.len]; exact hlt)).2 (.inr rfl)
   rw [Int.toNat_natCast]
   refine Ev.pos (by omega) (reach_in hf r a ha d (j + 1) _ _ (by omega) ⟨by rw [List.length_set, hI.len], fun i hi => ?_, hup _ hI.zero, fun x hx => ?_, fun i hi => ?_⟩ (hup _ ho) (ht2 _ hnew hup) (by rw [List.length_append, List.length_singleton]; omega) fun out' st' h1 h2 h3 => hK out' st' h1 (by rw [List.length_append, List.length_singleton] at h2; omega) h3)
   ·rcases (on_on (by rw [hI.len]; exact hlt)).1 hi with hi | rfl
    ·exact hI.sub i hi
    ·exact .step (hI.sub a ho) (List.getElem_mem hj)
   ·rcases List.mem_append.1 hx with hx | hx
    ·obtain ⟨i, e, h⟩ := hI.stk x hx; exact ⟨i, e, hup i h⟩
    ·exact ⟨(g.next a)[j], by simpa using hx, hnew⟩
   ·rcases (on_on (by rw [hI.len]; exact hlt)).1 hi with hi | rfl
    ·exact (hI.cl i hi).imp id fun c => c.imp (fun c => List.mem_append_left _ c) fun c k hk => hup k (c k hk)
    ·exact .inr (.inl (by simp))
theorem reach_out (hf : Fit g p) : ∀ (c : Nat) (out : List Bool) (st : List Int), 2 * (p.length - many out) + st.length = c → RInv g p.length out st (fun _ => False) → st.length ≤ 10000 - 2 * (p.length - many out) → Ev (fun k => impl_Prog_reach.l0 k out st p) (bl p.length g.Reach) := by
 intro c
 induction c using Nat.strongRecOn with
 | ind c ih =>
  intro out st hc hI hm
  refine Ev.step (fun k => by rw [impl_Prog_reach.l0]) (Ev.cases (fun h => ?_) (fun h => ?_))
  ·obtain ⟨s, x, rfl⟩ : ∃ s x, st = s ++ [x] := ⟨st.dropLast, st.getLast (fun e => by rw [e] at h; simp at h), (List.dropLast_concat_getLast _).symm⟩
   rw [List.length_append, List.length_singleton] at h hc hm ⊢
   obtain ⟨a, rfl, ha⟩ := hI.stk x (by simp)
   have hal : a < p.length := by rw [← hI.len]; exact on_lt ha
   have e1 : wrap64 (((s.length + 1 : Nat) : Int) - 1) = (s.length : Int) := by rw [wrapI (by omega) (by omega)]; omega
   have e2 : rd (s ++ [(a : Int)]) (s.length : Int) = (a : Int) := by rw [rdN (by simp)]; simp
   have e3 : (s ++ [(a : Int)]).take s.length = s := by simp
   rw [e1, e2, Int.toNat_natCast, e3, rdS hal, hf.next a hal]
   refine Ev.pos (by omega) (Ev.pos (by omega) (Ev.pos (by omega) (Ev.pos (by omega) (Ev.pos (by omega) ?_))))
   refine reach_in hf _ a hal _ 0 out s (Nat.zero_add _) ⟨hI.len, hI.sub, hI.zero, fun x hx => hI.stk x (List.mem_append_left _ hx), fun i hi => ?_⟩ ha (fun k hk => by simp at hk) (by omega) fun out' st' h1 h2 h3 => ih _ (by omega) out' st' rfl h1 h3
   rcases (hI.cl i hi).resolve_left id with h | h
   ·rcases List.mem_append.1 h with h | h
    ·exact .inr (.inl h)
    ·left; have : (i : Int) = (a : Int) := by simpa using h
     omega
   ·exact .inr (.inr h)
  ·obtain rfl : st = [] := List.eq_nil_of_length_eq_zero (by omega)
   rw [← hI.done hf.reach]; exact Ev.now _
theorem reach_ev (hf : Fit g p) : Ev (fun k => impl_Prog_reach.f k p) (bl p.length g.Reach) := by
 have hl := hf.few
 have h0 := hf.pos
 have hs : 0 < (List.replicate p.length false).length := by rw [List.length_replicate]; exact h0
 unfold impl_Prog_reach.f
 rw [Int.toNat_natCast]
 refine Ev.pos (by omega) (Ev.pos (by omega) (Ev.put (Ev.pos (by rw [List.length_replicate]; omega) ?_)))
 have hz : ∀ i, on ((List.replicate p.length false).set 0 true) i ↔ i = 0 := fun i => by
  rw [on_on hs]
  exact ⟨fun h => h.resolve_left fun c => by have := (LInv.start (fun _ => False) p.length).sub i c; exact this, .inr⟩
 refine reach_out hf _ _ [0] rfl ⟨by rw [Int.toNat_zero, List.length_set, List.length_replicate], fun i hi => ?_, (hz 0).2 rfl, fun x hx => ⟨0, by simpa using hx, (hz 0).2 rfl⟩, fun i hi => ?_⟩ (by simp; omega)
 ·rw [(hz i).1 hi]; exact .zero
 ·rw [(hz i).1 hi]; exact .inr (.inl (by simp))
end
end Go.Proofs.Ytcgbbhkjkkpfoaa.P
namespace Go.Proofs.Ytcgbbhkjkkpfoaa.P
open Go.RowKit Go.Proofs.YtcgbbhkjkkpfoaaW.PrintWords Go.Proofs.YtcgbbhkjkkpfoaaW.PrintLast Go.Proofs.YtcgbbhkjkkpfoaaW.PrintMore
def TestsS (q : S77 → Bool) (g : FuncId) (cap : Array Value) (l : List S77) (w0 : World) : Prop :=
 ∀ w1, Below w0.heap.size w0 w1 → ∀ x, x ∈ l → ∀ (A : Option Addr) (c : Nat), x.f5.length ≤ c → Kd.C (Kd.int .i64) w1 A x.f5.length x.f5 →
  CallsV Try.prog (.func (.func g) #[] cap) #[.agg #[.int .i64 x.f0, .int .i64 x.f1, .int .i64 x.f2, .int .i64 x.f3.f0, .int .i64 x.f3.f1, .int .i64 x.f4.f0, .int .i64 x.f4.f1, .slice A x.f5.length c]] w1 fun e w2 => e = .returned (.bool (q x)) ∧ Below w1.heap.size w1 w2
def idxStep (q : S77 → Bool) : Nat → List S77 → Int → Option Int
 | 0, _, _ => none
 | k + 1, l, i => if i < (l.length : Int) then (if 0 ≤ i then (if q (rd_T77 l i) = true then some i else idxStep q k l (wrap64 (i + 1))) else none) else some (-1)
theorem indexFunc_step (q : S77 → Bool) (g : FuncId) (cap : Array Value) (k : Nat) (A0 : Option Addr) (c0 : Nat) (l0 : List S77) (r : Int) (w : World) (hr0 : Kd.C k77 w A0 l0.length l0)
  (hf : TestsS q g cap l0 w) (h : idxStep q k l0 0 = some r) :
  Calls Try.prog 130 #[.slice A0 l0.length c0, .func (.func g) #[] cap] w fun e w' => e = .returned (.int .i64 r) ∧ Below w.heap.size w w' := by
 have HR0 := Aside0.mk hr0
 have HF := Aside0.mk hf
 clear hr0 hf
 have H' := Aside0.mk h
 clear h
 go_enter Try.func130, Try.ntmps130
 go_wp2
 go_loopg [8] k (fun kq v8 w' => ∃ (x8 : Int), v8 = .int .i64 x8 ∧ Aside0 (idxStep q kq l0 x8 = some r) ∧ Aside0 (Below w.heap.size w w'))
 case atStart => exact ⟨0, rfl, H', ⟨Below.refl _ _⟩⟩
 case round =>
  clear H'
  obtain ⟨x8, rfl, HA, HB⟩ := hrel
  cases gk with
  | zero => exact absurd HA.out (by simp [idxStep])
  | succ k1 =>
   have H := HA.out
   clear HA
   simp only [idxStep] at H
   by_cases c3 : x8 < (l0.length : Int)
   ·rw [if_pos c3] at H
    have c3b0 : decide (x8 < (l0.length : Int)) = true := decide_eq_true c3
    by_cases c4 : 0 ≤ x8
    ·rw [if_pos c4] at H
     have c4b0 : decide (0 ≤ x8) = true := decide_eq_true c4
     obtain ⟨ad, A, c, e0, h0, h1, h2, h3, h4, h5, h6, h7, hl, hi⟩ := at_T77 HR0.out x8 c4 c3
     cases e0
     replace h0 := (HB.out.cell (World.block_lt_of_cell? w _ h0)).trans h0
     replace h1 := (HB.out.cell (World.block_lt_of_cell? w _ h1)).trans h1
     replace h2 := (HB.out.cell (World.block_lt_of_cell? w _ h2)).trans h2
     replace h3 := (HB.out.cell (World.block_lt_of_cell? w _ h3)).trans h3
     replace h4 := (HB.out.cell (World.block_lt_of_cell? w _ h4)).trans h4
     replace h5 := (HB.out.cell (World.block_lt_of_cell? w _ h5)).trans h5
     replace h6 := (HB.out.cell (World.block_lt_of_cell? w _ h6)).trans h6
     replace h7 := (HB.out.cell (World.block_lt_of_cell? w _ h7)).trans h7
     have HM : Aside0 (rd_T77 l0 x8 ∈ l0) := ⟨by unfold rd_T77; rw [List.getD_eq_getElem?_getD, List.getElem?_eq_getElem (show x8.toNat < l0.length by omega)]; exact List.getElem_mem _⟩
     replace c3 := eq_true c3
     replace c4 := eq_true c4
     have HC := Aside0.mk (HF.out _ HB.out _ HM.out A c hl (Kd.C_below hi HB.out))
     clear hl hi
     by_cases c5 : q (rd_T77 l0 x8) = true
     ·rw [if_pos c5] at H
      rw [c5] at HC
      clear c5
      obtain rfl := Option.some.inj H
      go_wp2_with (first | ((with_reducible refine gate_value (x := 11) rfl ?_); refine goesV_ (some 16) rfl rfl (.func (.func g) #[] cap) #[.agg #[.int .i64 (rd_T77 l0 x8).f0, .int .i64 (rd_T77 l0 x8).f1, .int .i64 (rd_T77 l0 x8).f2, .int .i64 (rd_T77 l0 x8).f3.f0, .int .i64 (rd_T77 l0 x8).f3.f1, .int .i64 (rd_T77 l0 x8).f4.f0, .int .i64 (rd_T77 l0 x8).f4.f1, .slice A (rd_T77 l0 x8).f5.length c]] rfl rfl (by simp only [List.map_toArray, List.map_cons, List.map_nil]; rfl) ?_; refine HC.out.mono ?_; rintro e w1 ⟨rfl, hb⟩; refine ⟨_, rfl, ?_⟩; have HB1 := Aside0.mk (below_step HB.out hb); clear hb))
      go_ret
      exact ⟨rfl, HB1.out⟩
     ·rw [if_neg c5] at H
      rw [show q (rd_T77 l0 x8) = false by simpa using c5] at HC
      have H' := Aside0.mk H
      clear H c5
      go_wp2_with (first | ((with_reducible refine gate_value (x := 11) rfl ?_); refine goesV_ (some 16) rfl rfl (.func (.func g) #[] cap) #[.agg #[.int .i64 (rd_T77 l0 x8).f0, .int .i64 (rd_T77 l0 x8).f1, .int .i64 (rd_T77 l0 x8).f2, .int .i64 (rd_T77 l0 x8).f3.f0, .int .i64 (rd_T77 l0 x8).f3.f1, .int .i64 (rd_T77 l0 x8).f4.f0, .int .i64 (rd_T77 l0 x8).f4.f1, .slice A (rd_T77 l0 x8).f5.length c]] rfl rfl (by simp only [List.map_toArray, List.map_cons, List.map_nil]; rfl) ?_; refine HC.out.mono ?_; rintro e w1 ⟨rfl, hb⟩; refine ⟨_, rfl, ?_⟩; have HB1 := Aside0.mk (below_step HB.out hb); clear hb))
      go_roundg k1
      case measure => omega
      case rel => exact ⟨wrap64 (x8 + 1), (by first | rfl | (simp; done) | (simp [*]; done)), H', HB1⟩
    ·rw [if_neg c4] at H
     exact absurd H (by simp)
   ·rw [if_neg c3] at H
    have c3b0 : decide (x8 < (l0.length : Int)) = false := decide_eq_false c3
    clear c3
    obtain rfl := Option.some.inj H
    go_wp2
    go_ret
    exact ⟨rfl, HB.out⟩
def idxS (q : S77 → Bool) : List S77 → Int → Int
 | [], _ => -1
 | x :: l, i => if q x = true then i else idxS q l (i + 1)
theorem idxStep_eq (q : S77 → Bool) (l : List S77) (hl : l.length ≤ 140737488355328) : ∀ (s : List S77) (i : Nat), l.drop i = s → i ≤ l.length → idxStep q (s.length + 1) l (i : Int) = some (idxS q s (i : Int))
 | [], i, hs, hi => by
  have : l.length ≤ i := by simpa [List.drop_eq_nil_iff] using hs
  simp only [idxStep]
  rw [if_neg (by omega)]
  rfl
 | x :: s, i, hs, hi => by
  have hlt : i < l.length := Nat.lt_of_not_le fun c => by rw [List.drop_eq_nil_of_le c] at hs; cases hs
  have hx : l[i] = x := by
   have := List.drop_eq_getElem_cons hlt
   rw [hs] at this
   injection this with h1 _
   exact h1.symm
  have hr : rd_T77 l (i : Int) = x := by unfold rd_T77; rw [List.getD_eq_getElem?_getD, Int.toNat_natCast, List.getElem?_eq_getElem hlt, Option.getD_some, hx]
  have ht : l.drop (i + 1) = s := by rw [← List.drop_drop, hs]; rfl
  rw [show (x :: s).length + 1 = (s.length + 1) + 1 from rfl]
  simp only [idxStep, idxS]
  rw [if_pos (by omega), if_pos (by omega), hr]
  by_cases hq : q x = true
  ·rw [if_pos hq, if_pos hq]
  ·rw [if_neg hq, if_neg hq, wrap64_id (by omega) (by omega), show (i : Int) + 1 = ((i + 1 : Nat) : Int) by omega]
   exact idxStep_eq q l hl s (i + 1) ht (by omega)
theorem idxS_any (q : S77 → Bool) : ∀ (l : List S77) (i : Int), 0 ≤ i → decide (idxS q l i ≥ 0) = l.any q
 | [], i, _ => rfl
 | x :: l, i, h => by
  unfold idxS
  by_cases hq : q x = true
  ·simp [hq, h]
  ·rw [if_neg hq, idxS_any q l (i + 1) (by omega)]; simp [hq]
theorem containsFunc_step (q : S77 → Bool) (g : FuncId) (cap : Array Value) (A0 : Option Addr) (c0 : Nat) (l0 : List S77) (w : World) (hr0 : Kd.C k77 w A0 l0.length l0) (hl : l0.length ≤ 140737488355328)
  (hf : TestsS q g cap l0 w) :
  Calls Try.prog 112 #[.slice A0 l0.length c0, .func (.func g) #[] cap] w fun e w' => e = .returned (.bool (l0.any q)) ∧ Below w.heap.size w w' := by
 have HC := Aside0.mk (indexFunc_step q g cap _ A0 c0 l0 _ w hr0 hf (idxStep_eq q l0 hl l0 0 (List.drop_zero) (Nat.zero_le _)))
 have e1 := idxS_any q l0 0 (Int.le_refl 0)
 rw [← e1]
 clear e1 hf hr0 hl
 go_enter Try.func112, Try.ntmps112
 go_wp2_with (first | ((with_reducible refine gate_callee (f := 130) rfl ?_); refine goesM (some 7) rfl rfl Try.func130 #[.slice A0 l0.length c0, .func (.func g) #[] cap] rfl ?_; refine HC.out.mono ?_; rintro e w1 ⟨rfl, hb⟩; refine ⟨_, rfl, ?_⟩; have HB1 := Aside0.mk hb; clear hb))
 go_ret
 exact ⟨by simp, HB1.out⟩
theorem progOk1_calls (s : S77) (A : Option Addr) (c : Nat) (gp : Nat) (A0 : Option Addr) (n c0 : Nat) (w : World) (hr : Kd.C (Kd.int .i64) w A s.f5.length s.f5) (hc : s.f5.length ≤ c)
  (hp : w.heap[gp]? = some (.cells #[.slice A0 n c0] 38 (0, 0))) (hn : n ≤ 140737488355328) :
  Calls Try.prog 113 #[.agg #[.int .i64 s.f0, .int .i64 s.f1, .int .i64 s.f2, .int .i64 s.f3.f0, .int .i64 s.f3.f1, .int .i64 s.f4.f0, .int .i64 s.f4.f1, .slice A s.f5.length c], .pointer (some ⟨gp, 0, none⟩)] w fun e w' => e = .returned (.bool (!stepOkB n s)) ∧ Below w.heap.size w w' := by
 have hu1 := Try.underlying77
 have hu2 := Try.underlying38
 have HR := Aside0.mk hr
 have HC := Aside0.mk hc
 have HN := Aside0.mk hn
 have BKp := Aside0.mk hp
 clear hr hc hp hn
 have HB := Aside0.mk (Below.refl w.heap.size w)
 go_enter Try.func113, Try.ntmps113
 have zp_0 := blkC1 BKp.out
 go_wp2_with (first | ((with_reducible refine gate_dst (N := 2) rfl ?_); refine box_event ?hg (N := 2) ?hd (cs := #[.int .i64 s.f0, .int .i64 s.f1, .int .i64 s.f2, .int .i64 s.f3.f0, .int .i64 s.f3.f1, .int .i64 s.f4.f0, .int .i64 s.f4.f1, .slice A s.f5.length c]) (t := 77) ?hr ?_; (case hd => rfl); (case hg => rfl); (case hr => first | (go_simp; done) | (go_simp; rfl)); intro g hg w_ hbox hb; have n1_ := Aside0.mk (below_step HB.out hb); have GWg := Aside0.mk (by rw [hg]; exact below_size HB.out : w.heap.size ≤ g); have n_ := Aside0.mk (blk_below BKp.out hb); clear BKp; have BKp := n_; clear n_; clear HB; have HB := n1_; have BKg := Aside0.mk hbox; clear n1_ hb hbox hg; have zp_0 := blkC1 BKp.out; obtain ⟨zg_0, zg_1, zg_2, zg_3, zg_4, zg_5, zg_6, zg_7⟩ := blkC8 BKg.out) | ((with_reducible refine gate_callee (f := 114) rfl ?_); refine goesL_ (some 8) rfl rfl Try.func114 (by kernel_rfl) rfl #[.agg #[.int .i64 s.f0, .int .i64 s.f1, .int .i64 s.f2, .int .i64 s.f3.f0, .int .i64 s.f3.f1, .int .i64 s.f4.f0, .int .i64 s.f4.f1, .slice A s.f5.length c], .int .i64 (n : Int)] rfl (by (try simp only [List.map_toArray, List.map_cons, List.map_nil]); first | done | rfl) ?_; refine (stepOk_calls s A c n _ (Kd.C_below HR.out HB.out) HC.out (by have := HN.out; omega) (by have := HN.out; omega)).mono ?_; rintro e w_ ⟨rfl, hb⟩; refine ⟨_, rfl, ?_⟩; have n_ := Aside0.mk (blk_below BKp.out hb); clear BKp; have BKp := n_; clear n_; have n_ := Aside0.mk (blk_below BKg.out hb); clear BKg; have BKg := n_; clear n_; have n_ := Aside0.mk (below_step HB.out hb); clear HB; have HB := n_; clear n_ hb; have zp_0 := blkC1 BKp.out; obtain ⟨zg_0, zg_1, zg_2, zg_3, zg_4, zg_5, zg_6, zg_7⟩ := blkC8 BKg.out))
 go_ret
 exact ⟨rfl, HB.out⟩
def impl_ProgOk.f (l0_0 : List (S77)) : Option (Bool) := some (progOkB l0_0)
theorem any_not (l : List S77) (n : Int) : l.any (fun s => !stepOkB n s) = !l.all (stepOkB n) := by
 induction l with
 | nil => rfl
 | cons x l ih => simp [ih]
theorem impl_ProgOk.calls (A0_0 : Option Addr) (c0_0 : Nat) (l0_0 : List (S77)) (r : Bool) (w : World) (hr0_0 : Kd.C k77 w A0_0 l0_0.length l0_0) (hc0_0 : l0_0.length ≤ c0_0) (h : impl_ProgOk.f l0_0 = some r) :
  Calls Try.prog 82 #[.agg #[.slice A0_0 l0_0.length c0_0]] w fun e w' => e = .returned (.bool r) ∧ Below w.heap.size w w' := by
 generalize l0_0 = l0 at *
 generalize A0_0 = A0 at *
 generalize c0_0 = c0 at *
 have hmf : ∀ (fn : Fn) (first cap : Array Value) (w : World), (Instr.makeFunc fn first cap).run Try.prog w = .ok (.func fn first cap) w := fun _ _ _ _ => rfl
 have hu2 := Try.underlying38
 unfold impl_ProgOk.f at h
 have HR := Aside0.mk hr0_0
 clear hr0_0 hc0_0
 have HB := Aside0.mk (Below.refl w.heap.size w)
 by_cases c1 : inB (l0.length : Int) 1 60 = true
 ·have HI := Aside0.mk (show impl_in.f (l0.length : Int) 1 60 = some true by rw [impl_in_eq, c1])
  have hlen : l0.length ≤ 60 := by unfold inB at c1; simp at c1; omega
  have hpos : 1 ≤ l0.length := by unfold inB at c1; simp at c1; omega
  ·obtain rfl := Option.some.inj h
   have HF : Aside0 (∀ g W, Below w.heap.size w W → W.heap[g]? = some (.cells #[.slice A0 l0.length c0] 38 (0, 0)) → Calls Try.prog 112 #[.slice A0 l0.length c0, .func (.func 113) #[] #[.pointer (some ⟨g, 0, none⟩)]] W fun e w' => e = .returned (.bool (l0.any fun s => !stepOkB (l0.length : Int) s)) ∧ Below W.heap.size W w') := by
    refine ⟨fun g W hb hp => containsFunc_step _ _ _ A0 c0 l0 _ (Kd.C_below HR.out hb) (by omega) fun w1 hb1 x hx A c hc hr => ⟨_, _, _, rfl, Try.func113, by kernel_rfl, rfl, ?_⟩⟩
    exact progOk1_calls x A c g A0 l0.length c0 w1 hr hc (blk_below hp hb1) (by omega)
   have E : Aside0 (progOkB l0 = !(l0.any fun s => !stepOkB (l0.length : Int) s)) := ⟨by rw [any_not]; unfold progOkB; simp [hlen, hpos]⟩
   clear c1 hlen hpos h
   go_enter Try.func82, Try.ntmps82
   go_wp2_with (first | ((with_reducible refine gate_dst (N := 1) rfl ?_); refine box_event ?hg (N := 1) ?hd (cs := #[.slice A0 l0.length c0]) (t := 38) ?hr ?_; (case hd => rfl); (case hg => rfl); (case hr => first | (go_simp; done) | (go_simp; rfl)); intro g hg w_ hbox hb; have n1_ := Aside0.mk (below_step HB.out hb); have GWg := Aside0.mk (by rw [hg]; exact below_size HB.out : w.heap.size ≤ g); clear HB; have HB := n1_; have BKg := Aside0.mk hbox; clear n1_ hb hbox hg; have zg_0 := blkC1 BKg.out) | ((with_reducible refine gate_callee (f := 88) rfl ?_); refine goesL_ (some 6) rfl rfl Try.func88 (by kernel_rfl) rfl #[.int .i64 (l0.length : Int), .int .i64 1, .int .i64 60] rfl (by (try simp only [List.map_toArray, List.map_cons, List.map_nil]); first | done | rfl) ?_; refine (impl_in.calls _ _ _ true _ HI.out).mono ?_; rintro e w_ ⟨rfl, ⟨m_, rfl⟩⟩; refine ⟨_, rfl, ?_⟩; have n_ := Aside0.mk (pw_below_drewN HB.out m_); clear HB; have HB := n_; clear n_; have n_ := Aside0.mk (blk_drewN BKg.out m_); clear BKg; have BKg := n_; clear n_; have zg_0 := blkC1 BKg.out) | ((with_reducible refine gate_callee (f := 112) rfl ?_); (try (refine gate_guard (by rfl) ?_; dsimp only)); refine goesL_ (some 11) rfl rfl Try.func112 (by kernel_rfl) rfl #[.slice A0 l0.length c0, .func (.func 113) #[] #[.pointer (some ⟨g, 0, none⟩)]] rfl (by (try simp only [List.map_toArray, List.map_cons, List.map_nil]); first | done | rfl) ?_; refine (HF.out g _ HB.out BKg.out).mono ?_; rintro e w_ ⟨rfl, hb⟩; refine ⟨_, rfl, ?_⟩; have n_ := Aside0.mk (blk_below BKg.out hb); clear BKg; have BKg := n_; clear n_; have n_ := Aside0.mk (below_step HB.out hb); clear HB; have HB := n_; clear n_ hb; have zg_0 := blkC1 BKg.out))
   go_ret
   exact ⟨ret_bool (by rw [E.out]), HB.out⟩
 ·have HI := Aside0.mk (show impl_in.f (l0.length : Int) 1 60 = some false by rw [impl_in_eq]; simpa using c1)
  have h2 : progOkB l0 = r := Option.some.inj h
  obtain rfl : false = r := by
   rw [← h2]; unfold progOkB; unfold inB at c1; simp at c1 ⊢
   intro a b; exact absurd (c1 (by omega)) (by omega)
  clear c1 h h2
  go_enter Try.func82, Try.ntmps82
  go_wp2_with (first | ((with_reducible refine gate_dst (N := 1) rfl ?_); refine box_event ?hg (N := 1) ?hd (cs := #[.slice A0 l0.length c0]) (t := 38) ?hr ?_; (case hd => rfl); (case hg => rfl); (case hr => first | (go_simp; done) | (go_simp; rfl)); intro g hg w_ hbox hb; have n1_ := Aside0.mk (below_step HB.out hb); have GWg := Aside0.mk (by rw [hg]; exact below_size HB.out : w.heap.size ≤ g); clear HB; have HB := n1_; have BKg := Aside0.mk hbox; clear n1_ hb hbox hg; have zg_0 := blkC1 BKg.out) | ((with_reducible refine gate_callee (f := 88) rfl ?_); refine goesL_ (some 6) rfl rfl Try.func88 (by kernel_rfl) rfl #[.int .i64 (l0.length : Int), .int .i64 1, .int .i64 60] rfl (by (try simp only [List.map_toArray, List.map_cons, List.map_nil]); first | done | rfl) ?_; refine (impl_in.calls _ _ _ false _ HI.out).mono ?_; rintro e w_ ⟨rfl, ⟨m_, rfl⟩⟩; refine ⟨_, rfl, ?_⟩; have n_ := Aside0.mk (pw_below_drewN HB.out m_); clear HB; have HB := n_; clear n_; have n_ := Aside0.mk (blk_drewN BKg.out m_); clear BKg; have BKg := n_; clear n_; have zg_0 := blkC1 BKg.out))
  go_ret
  exact ⟨rfl, HB.out⟩
end Go.Proofs.Ytcgbbhkjkkpfoaa.P
namespace Go.Proofs.Ytcgbbhkjkkpfoaa.P
open Go.RowKit Go.Proofs.YtcgbbhkjkkpfoaaW.PrintWords Go.Proofs.YtcgbbhkjkkpfoaaW.PrintLast Go.Proofs.YtcgbbhkjkkpfoaaW.PrintMore
attribute [local go_sem] max2_int min2_int max_two min_two max_three min_three max_four min_four
def spec_l2Goes.l0 : Nat → Int → Int → Int → Int → Int → Int → Int → Int → Int → List Int → Option (Bool)
 | 0, _, _, _, _, _, _, _, _, _, _ => none
 | k + 1, x1, x5, x141000, x141001, x141002, x141003, x141004, x141005, x141006, x141007 => if x5 < (x141007.length : Int) then (if 0 ≤ x5 then (if (rd x141007 x5) = x1 then (some true) else (spec_l2Goes.l0 k x1 (wrap64 (x5 + 1)) x141000 x141001 x141002 x141003 x141004 x141005 x141006 x141007)) else (none)) else (some false)
def spec_l2Goes.f (k : Nat) (a0_0 : Int) (a0_1 : Int) (a0_2 : Int) (a0_3 : Int) (a0_4 : Int) (a0_5 : Int) (a0_6 : Int) (l0_7 : List Int) (a1 : Int) : Option (Bool) := spec_l2Goes.l0 k a1 0 a0_0 a0_1 a0_2 a0_3 a0_4 a0_5 a0_6 l0_7
theorem spec_l2Goes.calls (k : Nat) (a0_0 : Int) (a0_1 : Int) (a0_2 : Int) (a0_3 : Int) (a0_4 : Int) (a0_5 : Int) (a0_6 : Int) (A0_7 : Option Addr) (c0_7 : Nat) (l0_7 : List Int) (a1 : Int) (r : Bool) (w : World) (hr0_7 : Kd.C (Kd.int .i64) w A0_7 l0_7.length l0_7) (hc0_7 : l0_7.length ≤ c0_7) (h : spec_l2Goes.f k a0_0 a0_1 a0_2 a0_3 a0_4 a0_5 a0_6 l0_7 a1 = some r) :
  Calls Try.prog 78 #[.agg #[.int .i64 a0_0, .int .i64 a0_1, .int .i64 a0_2, .int .i64 a0_3, .int .i64 a0_4, .int .i64 a0_5, .int .i64 a0_6, .slice A0_7 l0_7.length c0_7], .int .i64 a1] w fun e w' => e = .returned (.bool r) ∧ Below w.heap.size w w' := by
 have hu77 := Try.underlying77
 have HR0_7 := Aside0.mk hr0_7
 have HC0_7 := Aside0.mk hc0_7
 clear hr0_7 hc0_7
 have HB := Aside0.mk (Below.refl w.heap.size w)
 have H : (spec_l2Goes.l0 k a1 0 a0_0 a0_1 a0_2 a0_3 a0_4 a0_5 a0_6 l0_7) = some r := h
 clear h
 have H' := Aside0.mk H
 clear H
 go_enter Try.func78, Try.ntmps78
 go_wp2_with (first | ((with_reducible refine gate_dst (N := 2) rfl ?_); refine bxe (cs := #[.int .i64 a0_0, .int .i64 a0_1, .int .i64 a0_2, .int .i64 a0_3, .int .i64 a0_4, .int .i64 a0_5, .int .i64 a0_6, .slice A0_7 l0_7.length c0_7]) (t := 77) ?_; intro gb140 hg w3 hbox hb; have BK140 := Aside0.mk (hbox); have GW140 := bwz HB hg; have GE140 := bwz HB hg; replace HB := bwb HB hb; clear hb hbox hg))
 go_loopg [5] k (fun kq v5 w' => ∃ (x5_1 : Int), v5 = .int .i64 x5_1 ∧ Aside0 (spec_l2Goes.l0 kq a1 x5_1 a0_0 a0_1 a0_2 a0_3 a0_4 a0_5 a0_6 l0_7 = some r) ∧ Aside0 (kq ≤ k) ∧ Aside0 (w'.heap[gb140]? = some (.cells #[.int .i64 a0_0, .int .i64 a0_1, .int .i64 a0_2, .int .i64 a0_3, .int .i64 a0_4, .int .i64 a0_5, .int .i64 a0_6, (.slice A0_7 l0_7.length c0_7)] 77 (0, 0))) ∧ Aside0 (Below w.heap.size w w'))
 case atStart => exact ⟨(0), (by first | rfl | (simp; done) | (simp [*]; done)), H', ⟨Nat.le_refl _⟩, ⟨bkq BK140⟩, ⟨bwq HB⟩⟩
 case round =>
  clear H'
  try clear p2
  obtain ⟨x5_1, rfl, HA, HK1, BK140, HB⟩ := hrel
  cases gk with
  | zero => exact absurd HA.out (by intro h_; first | (cases h_; done) | (simp [spec_l2Goes.l0] at h_))
  | succ k1 =>
   have H := HA.out
   clear HA
   simp only [spec_l2Goes.l0] at H
   by_cases c4 : x5_1 < (l0_7.length : Int)
   ·rw [if_pos c4] at H
    have c4b0 : decide (x5_1 < (l0_7.length : Int)) = true := decide_eq_true c4
    clear c4
    by_cases c5 : 0 ≤ x5_1
    ·rw [if_pos c5] at H
     have c5b0 : decide (0 ≤ x5_1) = true := decide_eq_true c5
     clear c5
     by_cases c6 : (rd l0_7 x5_1) = a1
     ·rw [if_pos c6] at H
      have c6b0 : ((rd l0_7 x5_1) == a1) = true := beq_iff_eq.mpr c6
      have c6b1 : ((rd l0_7 x5_1) != a1) = false := bne_eq_false_iff_eq.mpr c6
      clear c6
      obtain rfl := Option.some.inj H
      obtain ⟨hcz7, hfz7⟩ := bcf BK140
      have p141 : 0 ≤ (x5_1 : Int) := oda
      have q141 : x5_1 < (l0_7.length : Int) := oda
      obtain ⟨ad141, e141, hx141_0⟩ := Kd.at_int HR0_7.out x5_1 p141 q141
      cases e141
      replace hx141_0 := hxb HB hx141_0
      replace p141 := eq_true p141
      replace q141 := eq_true q141
      go_wp2
      go_ret
      exact ⟨by first | rfl | (simp [errW_none, errW_some] <;> rfl) | (simp [*, errW_none, errW_some] <;> rfl), bwq HB⟩
     ·rw [if_neg c6] at H
      have c6b0 : ((rd l0_7 x5_1) == a1) = false := beq_eq_false_iff_ne.mpr c6
      have c6b1 : ((rd l0_7 x5_1) != a1) = true := bne_iff_ne.mpr c6
      have H' := Aside0.mk H
      clear H
      obtain ⟨hcz8, hfz8⟩ := bcf BK140
      have p141 : 0 ≤ (x5_1 : Int) := oda
      have q141 : x5_1 < (l0_7.length : Int) := oda
      obtain ⟨ad141, e141, hx141_0⟩ := Kd.at_int HR0_7.out x5_1 p141 q141
      cases e141
      replace hx141_0 := hxb HB hx141_0
      replace p141 := eq_true p141
      replace q141 := eq_true q141
      go_wp2
      go_roundg k1
      case measure => have := HK1.out; omega
      case rel => exact ⟨(wrap64 (x5_1 + 1)), (by first | rfl | (simp; done) | (simp [*]; done)), H', ⟨by have := HK1.out; omega⟩, ⟨bkq BK140⟩, ⟨bwq HB⟩⟩
    ·rw [if_neg c5] at H
     exact absurd H (by simp)
   ·rw [if_neg c4] at H
    have c4b0 : decide (x5_1 < (l0_7.length : Int)) = false := decide_eq_false c4
    clear c4
    obtain rfl := Option.some.inj H
    obtain ⟨hcz9, hfz9⟩ := bcf BK140
    go_wp2
    go_ret
    exact ⟨by first | rfl | (simp [errW_none, errW_some] <;> rfl) | (simp [*, errW_none, errW_some] <;> rfl), bwq HB⟩
def spec_PathOk.T6 : Bool × List (List Nat × List Nat) := (true, [([], []), ([], []), ([0, 1], [0, 1]), ([2], [2]), ([], []), ([4], [4]), ([5], [5]), ([6], [6]), ([3, 7], [3, 7]), ([8], [8]), ([9, 8], [9]), ([10], [10]), ([11, 10], [10, 11]), ([10], [10]), ([10], [10]), ([14, 10], [10, 14]), ([13, 15, 10], [10, 13, 15]), ([16, 10], [10, 16]), ([12, 17, 10], [10, 12, 17]), ([18, 10], [10, 18]), ([10], [10]), ([10], [10]), ([20, 21, 10], [10, 20, 21]), ([22, 10], [10, 22]), ([19, 23, 10, 10], [10, 19, 23]), ([24, 10], [10, 24]), ([10, 25], [10, 25])])
def spec_PathOk.B6 : List Nat := [0, 0, 3, 7, 0, 16, 48, 112, 255, 511, 1023, 2047, 4095, 2047, 2047, 18431, 59391, 124927, 262143, 524287, 2047, 2047, 3147775, 7342079, 16777215, 33554431, 67108863]
theorem spec_PathOk.tab6 : rtab .any (opsOf Try.f45 6) = spec_PathOk.T6 := by kernel_rfl
theorem spec_PathOk.bits6 : waitsOk spec_PathOk.T6.2 spec_PathOk.B6 = true := by kernel_rfl
def spec_PathOk.T8 : Bool × List (List Nat × List Nat) := (true, [([], []), ([0], [0]), ([], []), ([], []), ([3], [3]), ([4], [4]), ([2, 5], [2, 5]), ([6], [6]), ([1, 7], [1, 7]), ([8], [8]), ([9], [9]), ([10], [10]), ([11, 0, 1, 2, 3, 4, 5, 6, 7, 8, 9, 10, 11], [11])])
def spec_PathOk.B8 : List Nat := [0, 1, 0, 0, 8, 24, 60, 124, 255, 511, 1023, 2047, 4095]
theorem spec_PathOk.tab8 : rtab .any (opsOf Try.f45 8) = spec_PathOk.T8 := by kernel_rfl
theorem spec_PathOk.bits8 : waitsOk spec_PathOk.T8.2 spec_PathOk.B8 = true := by kernel_rfl
end Go.Proofs.Ytcgbbhkjkkpfoaa.P
namespace Go.Proofs.Ytcgbbhkjkkpfoaa.P
open Go.RowKit Go.Proofs.YtcgbbhkjkkpfoaaW.PrintWords Go.Proofs.YtcgbbhkjkkpfoaaW.PrintLast Go.Proofs.YtcgbbhkjkkpfoaaW.PrintMore
theorem implProgOk_eq (l : List Stp) : impl_ProgOk.f l = some (progOkB l) := rfl
theorem goes_loop (s : Stp) (x : Int) (hs : s.f5.length ≤ 1048576) : ∀ (d i : Nat), i + d = s.f5.length →
  Ev (fun k => spec_l2Goes.l0 k x (i : Int) s.f0 s.f1 s.f2 s.f3.f0 s.f3.f1 s.f4.f0 s.f4.f1 s.f5) (decide (x ∈ s.f5.drop i))
 | 0, i, hd => by
  refine Ev.step (fun k => by rw [spec_l2Goes.l0]) ?_
  rw [List.drop_eq_nil_of_le (by omega)]
  exact Ev.neg (by omega) (Ev.now _)
 | d + 1, i, hd => by
  have hi : i < s.f5.length := by omega
  refine Ev.step (fun k => by rw [spec_l2Goes.l0]) ?_
  refine Ev.pos (by omega) (Ev.pos (by omega) ?_)
  rw [rdN hi, wrapN (by omega), drop_at hi]
  refine Ev.cases (fun h => Ev.eq (Ev.now _) ?_) (fun h => Ev.eq (goes_loop s x hs d (i + 1) (by omega)) ?_)
  ·rw [decide_eq_true (by rw [h]; exact List.mem_cons_self)]
  ·exact decide_eq_decide.2 ⟨List.mem_cons_of_mem _, fun c => (List.mem_cons.1 c).resolve_left fun c => h c.symm⟩
theorem goes_ev (s : Stp) (x : Int) (hs : s.f5.length ≤ 1048576) : Ev (fun k => spec_l2Goes.f k s.f0 s.f1 s.f2 s.f3.f0 s.f3.f1 s.f4.f0 s.f4.f1 s.f5 x) (decide (x ∈ s.f5)) := by
 unfold spec_l2Goes.f
 exact Ev.eq (goes_loop s x hs s.f5.length 0 (by omega)) (by rw [List.drop_zero])
end Go.Proofs.Ytcgbbhkjkkpfoaa.P
namespace Go.Proofs.Ytcgbbhkjkkpfoaa.P
open Go.RowKit Go.Proofs.YtcgbbhkjkkpfoaaW.PrintWords Go.Proofs.YtcgbbhkjkkpfoaaW.PrintLast Go.Proofs.YtcgbbhkjkkpfoaaW.PrintMore
attribute [local go_sem] max2_int min2_int max_two min_two max_three min_three max_four min_four
def slices_Index_int_int.l0 : Nat → List Int → Int → Int → Int → Option (Int)
 | 0, _, _, _, _ => none
 | k + 1, x0, x1, x7, x8 => if x8 < x7 then (if 0 ≤ x8 then (if x8 < (x0.length : Int) then (if x1 = (rd x0 x8) then (some x8) else (slices_Index_int_int.l0 k x0 x1 x7 (wrap64 (x8 + 1)))) else (none)) else (none)) else (some (-1))
def slices_Index_int_int.f (k : Nat) (l0 : List Int) (a1 : Int) : Option (Int) := slices_Index_int_int.l0 k l0 a1 (l0.length : Int) 0
theorem slices_Index_int_int.calls (k : Nat) (A0 : Option Addr) (c0 : Nat) (l0 : List Int) (a1 : Int) (r : Int) (w : World) (hr0 : Kd.C (Kd.int .i64) w A0 l0.length l0) (hc0 : l0.length ≤ c0) (h : slices_Index_int_int.f k l0 a1 = some r) :
  Calls Try.prog 123 #[.slice A0 l0.length c0, .int .i64 a1] w fun e w' => e = .returned (.int .i64 r) ∧ Drawn0 w w' := by
 have HR0 := Aside0.mk hr0
 have HC0 := Aside0.mk hc0
 clear hr0 hc0
 have H : (slices_Index_int_int.l0 k l0 a1 (l0.length : Int) 0) = some r := h
 clear h
 have H' := Aside0.mk H
 clear H
 go_enter Try.func123, Try.ntmps123
 go_wp2
 go_loopg [8] k (fun kq v8 w' => ∃ (x8_1 : Int), v8 = .int .i64 x8_1 ∧ Aside0 (slices_Index_int_int.l0 kq l0 a1 (l0.length : Int) x8_1 = some r) ∧ Aside0 (kq ≤ k) ∧ Drawn0 w w')
 case atStart => exact ⟨(0), (by first | rfl | (simp; done) | (simp [*]; done)), H', ⟨Nat.le_refl _⟩, by repeat (first | exact Drawn0.refl _ | apply Drawn0.step)⟩
 case round =>
  clear H'
  try clear c1
  try clear p2
  obtain ⟨x8_1, rfl, HA, HK1, ⟨m1, rfl⟩⟩ := hrel
  cases gk with
  | zero => exact absurd HA.out (by intro h_; first | (cases h_; done) | (simp [slices_Index_int_int.l0] at h_))
  | succ k1 =>
   have H := HA.out
   clear HA
   simp only [slices_Index_int_int.l0] at H
   by_cases c3 : x8_1 < (l0.length : Int)
   ·rw [if_pos c3] at H
    have c3b0 : decide (x8_1 < (l0.length : Int)) = true := decide_eq_true c3
    clear c3
    by_cases c4 : 0 ≤ x8_1
    ·rw [if_pos c4] at H
     have c4b0 : decide (0 ≤ x8_1) = true := decide_eq_true c4
     clear c4
     by_cases c5 : x8_1 < (l0.length : Int)
     ·rw [if_pos c5] at H
      have c5b0 : decide (x8_1 < (l0.length : Int)) = true := decide_eq_true c5
      clear c5
      by_cases c6 : a1 = (rd l0 x8_1)
      ·rw [if_pos c6] at H
       have c6b0 : (a1 == (rd l0 x8_1)) = true := beq_iff_eq.mpr c6
       have c6b1 : (a1 != (rd l0 x8_1)) = false := bne_eq_false_iff_eq.mpr c6
       clear c6
       obtain rfl := Option.some.inj H
       have p283 : 0 ≤ (x8_1 : Int) := oda
       have q283 : x8_1 < (l0.length : Int) := oda
       obtain ⟨ad283, e283, hx283_0⟩ := Kd.at_int HR0.out x8_1 p283 q283
       cases e283
       replace p283 := eq_true p283
       replace q283 := eq_true q283
       go_wp2
       go_ret
       exact ⟨by first | rfl | (simp; done) | (simp [*]; done), by repeat (first | exact Drawn0.refl _ | apply Drawn0.step)⟩
      ·rw [if_neg c6] at H
       have c6b0 : (a1 == (rd l0 x8_1)) = false := beq_eq_false_iff_ne.mpr c6
       have c6b1 : (a1 != (rd l0 x8_1)) = true := bne_iff_ne.mpr c6
       have H' := Aside0.mk H
       clear H
       have p283 : 0 ≤ (x8_1 : Int) := oda
       have q283 : x8_1 < (l0.length : Int) := oda
       obtain ⟨ad283, e283, hx283_0⟩ := Kd.at_int HR0.out x8_1 p283 q283
       cases e283
       replace p283 := eq_true p283
       replace q283 := eq_true q283
       go_wp2
       go_roundg k1
       case measure => have := HK1.out; omega
       case rel => exact ⟨(wrap64 (x8_1 + 1)), (by first | rfl | (simp; done) | (simp [*]; done)), H', ⟨by have := HK1.out; omega⟩, by repeat (first | exact Drawn0.refl _ | apply Drawn0.step)⟩
     ·rw [if_neg c5] at H
      exact absurd H (by simp)
    ·rw [if_neg c4] at H
     exact absurd H (by simp)
   ·rw [if_neg c3] at H
    have c3b0 : decide (x8_1 < (l0.length : Int)) = false := decide_eq_false c3
    clear c3
    obtain rfl := Option.some.inj H
    go_wp2
    go_ret
    exact ⟨by first | rfl | (simp; done) | (simp [*]; done), by repeat (first | exact Drawn0.refl _ | apply Drawn0.step)⟩
def slices_Contains_int_int.f (k : Nat) (l0 : List Int) (a1 : Int) : Option (Bool) := (slices_Index_int_int.f k l0 a1).bind fun t284 => (some (decide (t284 ≥ 0)))
theorem slices_Contains_int_int.calls (k : Nat) (A0 : Option Addr) (c0 : Nat) (l0 : List Int) (a1 : Int) (r : Bool) (w : World) (hr0 : Kd.C (Kd.int .i64) w A0 l0.length l0) (hc0 : l0.length ≤ c0) (h : slices_Contains_int_int.f k l0 a1 = some r) :
  Calls Try.prog 89 #[.slice A0 l0.length c0, .int .i64 a1] w fun e w' => e = .returned (.bool r) ∧ Drawn0 w w' := by
 have HR0 := Aside0.mk hr0
 have HC0 := Aside0.mk hc0
 clear hr0 hc0
 have H : ((slices_Index_int_int.f k l0 a1).bind fun t284 => (some (decide (t284 ≥ 0)))) = some r := h
 clear h
 replace H := Option.bind_eq_some_iff.mp H
 obtain ⟨t284, A30, H⟩ := H
 have A3 := Aside0.mk A30
 clear A30
 obtain rfl := Option.some.inj H
 go_enter Try.func89, Try.ntmps89
 go_wp2_with (first | ((with_reducible refine gate_callee (f := 123) rfl ?_); refine goesM (some 7) rfl rfl Try.func123 #[.slice A0 l0.length c0, .int .i64 a1] rfl ?_; (with_reducible refine (slices_Index_int_int.calls k _ _ l0 a1 t284 _ ?side1 ?side2 A3.out).mono ?_); (case side1 => repeat (first | exact HR0.out | (with_reducible refine Kd.C_alloc ?_ _) | (with_reducible refine Kd.C_drewN ?_ _) | (with_reducible refine Kd.C_drew ?_))); (case side2 => exact HC0.out); rintro e w' ⟨rfl, ⟨nd, rfl⟩⟩; refine ⟨_, rfl, ?_⟩))
 go_ret
 exact ⟨by first | rfl | (simp; done) | (simp [*]; done), by repeat (first | exact Drawn0.refl _ | apply Drawn0.step)⟩
end Go.Proofs.Ytcgbbhkjkkpfoaa.P
namespace Go.Proofs.Ytcgbbhkjkkpfoaa.P
open Go.RowKit Go.Proofs.YtcgbbhkjkkpfoaaW.PrintWords Go.Proofs.YtcgbbhkjkkpfoaaW.PrintLast Go.Proofs.YtcgbbhkjkkpfoaaW.PrintMore
theorem index_loop (l : List Int) (x : Int) (hs : l.length ≤ 1048576) : ∀ (d i : Nat), i + d = l.length →
  ∃ r, Ev (fun k => slices_Index_int_int.l0 k l x (l.length : Int) (i : Int)) r ∧ decide (r ≥ 0) = decide (x ∈ l.drop i)
 | 0, i, hd => by
  refine ⟨-1, Ev.step (fun k => by rw [slices_Index_int_int.l0]) (Ev.neg (by omega) (Ev.now _)), ?_⟩
  rw [List.drop_eq_nil_of_le (by omega)]
  simp
 | d + 1, i, hd => by
  have hi : i < l.length := by omega
  by_cases h : x = l[i]
  ·refine ⟨i, Ev.step (fun k => by rw [slices_Index_int_int.l0]) (Ev.pos (by omega) (Ev.pos (by omega) (Ev.pos (by omega) ?_))), ?_⟩
   ·rw [rdN hi]; exact Ev.pos h (Ev.now _)
   ·rw [decide_eq_true (show (i : Int) ≥ 0 by omega), drop_at hi, decide_eq_true (by rw [h]; exact List.mem_cons_self)]
  ·obtain ⟨r, h1, h2⟩ := index_loop l x hs d (i + 1) (by omega)
   refine ⟨r, Ev.step (fun k => by rw [slices_Index_int_int.l0]) (Ev.pos (by omega) (Ev.pos (by omega) (Ev.pos (by omega) ?_))), ?_⟩
   ·rw [rdN hi, wrapN (by omega)]; exact Ev.neg h h1
   ·rw [h2, drop_at hi]; exact decide_eq_decide.2 ⟨List.mem_cons_of_mem _, fun c => (List.mem_cons.1 c).resolve_left h⟩
theorem contains_ev (l : List Int) (x : Int) (hs : l.length ≤ 1048576) : Ev (fun k => slices_Contains_int_int.f k l x) (decide (x ∈ l)) := by
 obtain ⟨r, h1, h2⟩ := index_loop l x hs l.length 0 (by omega)
 unfold slices_Contains_int_int.f slices_Index_int_int.f
 exact Ev.bind h1 (Ev.eq (Ev.now _) (by rw [h2, List.drop_zero]))
end Go.Proofs.Ytcgbbhkjkkpfoaa.P
namespace Go.Proofs.Ytcgbbhkjkkpfoaa.P
open Go.RowKit Go.Proofs.YtcgbbhkjkkpfoaaW.PrintWords Go.Proofs.YtcgbbhkjkkpfoaaW.PrintLast Go.Proofs.YtcgbbhkjkkpfoaaW.PrintMore
attribute [local go_sem] max2_int min2_int max_two min_two max_three min_three max_four min_four
mutual
def impl_Prog_preds.l0 : Nat → List (List Int) → List Bool → Int → Int → List (S77) → Option ((List (List Int)))
 | 0, _, _, _, _, _ => none
 | k + 1, x3, x13, x14, x15, x286000 => if x15 < x14 then (if 0 ≤ x15 then (if x15 < (x13.length : Int) then (if rdOf false x13 x15 = true then (if x15 < (x286000.length : Int) then (impl_Prog_preds.l1 k x3 x15 x13 x14 x15 ((rd_T77 x286000 x15).f5) (((rd_T77 x286000 x15).f5).length : Int) 0 x286000) else (none)) else (impl_Prog_preds.l0 k x3 x13 x14 (wrap64 (x15 + 1)) x286000)) else (none)) else (none)) else (some x3)
def impl_Prog_preds.l1 : Nat → List (List Int) → Int → List Bool → Int → Int → List Int → Int → Int → List (S77) → Option ((List (List Int)))
 | 0, _, _, _, _, _, _, _, _, _ => none
 | k + 1, x3, x4, x13, x14, x15, x27, x28, x29, x286000 => if x29 < x28 then (if 0 ≤ x29 then (if x29 < (x27.length : Int) then (if 0 ≤ (rd x27 x29) then (if (rd x27 x29) < (x3.length : Int) then ((slices_Contains_int_int.f k (rd_L2 x3 (rd x27 x29)) x4).bind fun t296 => (if t296 = true then (impl_Prog_preds.l1 k x3 x4 x13 x14 x15 x27 x28 (wrap64 (x29 + 1)) x286000) else (if (rd_L2 x3 (rd x27 x29)).length < 17592186044416 then (impl_Prog_preds.l1 k (x3.set ((rd x27 x29) : Int).toNat ((rd_L2 x3 (rd x27 x29)) ++ [x4])) x4 x13 x14 x15 x27 x28 (wrap64 (x29 + 1)) x286000) else (none)))) else (none)) else (none)) else (none)) else (none)) else (impl_Prog_preds.l0 k x3 x13 x14 (wrap64 (x15 + 1)) x286000)
end
def impl_Prog_preds.f (k : Nat) (l0_0 : List (S77)) : Option ((List (List Int))) := if 0 ≤ (l0_0.length : Int) then (if ((l0_0.length : Int) : Int).toNat ≤ 11728124029610 then ((impl_Prog_reach.f k l0_0).bind fun t289 => (impl_Prog_preds.l0 k (List.replicate ((l0_0.length : Int) : Int).toNat []) t289 (t289.length : Int) 0 l0_0)) else (none)) else (none)
theorem impl_Prog_preds.calls (k : Nat) (A0_0 : Option Addr) (c0_0 : Nat) (l0_0 : List (S77)) (r : List (List Int)) (w : World) (hr0_0 : Kd.C k77 w A0_0 l0_0.length l0_0) (hc0_0 : l0_0.length ≤ c0_0) (h : impl_Prog_preds.f k l0_0 = some r) :
  Calls Try.prog 85 #[.agg #[.slice A0_0 l0_0.length c0_0]] w fun e w' => ∃ v0_ : Value, e = .returned (v0_) ∧ Kd.S (Kd.slice 3 (Kd.int .i64)) 32 w' w.heap.size (fun _ => True) v0_ r ∧ Below w.heap.size w w' := by
 have hu38 := Try.underlying38
 have HR0_0 := Aside0.mk hr0_0
 have HC0_0 := Aside0.mk hc0_0
 clear hr0_0 hc0_0
 have HB := Aside0.mk (Below.refl w.heap.size w)
 have H : (if 0 ≤ (l0_0.length : Int) then (if ((l0_0.length : Int) : Int).toNat ≤ 11728124029610 then ((impl_Prog_reach.f k l0_0).bind fun t289 => (impl_Prog_preds.l0 k (List.replicate ((l0_0.length : Int) : Int).toNat []) t289 (t289.length : Int) 0 l0_0)) else (none)) else (none)) = some r := h
 clear h
 by_cases c2 : 0 ≤ (l0_0.length : Int)
 ·rw [if_pos c2] at H
  have c2b0 := eq_true c2
  have c2b1 : decide (0 ≤ (l0_0.length : Int)) = true := decide_eq_true c2
  clear c2
  by_cases c3 : ((l0_0.length : Int) : Int).toNat ≤ 11728124029610
  ·rw [if_pos c3] at H
   have c3b0 := eq_true c3
   have c3b1 : decide (((l0_0.length : Int) : Int).toNat ≤ 11728124029610) = true := decide_eq_true c3
   clear c3
   obtain ⟨y286, hy286⟩ : ∃ y_ : List (List Int), y_ = (List.replicate ((l0_0.length : Int) : Int).toNat []) := ⟨_, rfl⟩
   replace H : ((impl_Prog_reach.f k l0_0).bind fun t289 => (impl_Prog_preds.l0 k y286 t289 (t289.length : Int) 0 l0_0)) = some r := by first | (rw [hy286]; with_reducible exact H) | (have H2_ := (Option.bind_some _ _).symm.trans H; rw [hy286]; with_reducible exact H2_) | (have H2_ := (Option.bind_some _ _).symm.trans H; with_reducible exact H2_) | with_reducible exact H | (rw [hy286]; exact H) | exact H
   have Ny286 := Aside0.mk hy286
   clear hy286
   replace H := Option.bind_eq_some_iff.mp H
   obtain ⟨t289, A40, H⟩ := H
   have A4 := Aside0.mk A40
   clear A40
   have H' := Aside0.mk H
   clear H
   go_enter Try.func85, Try.ntmps85
   go_wp2_with (first | ((with_reducible refine gate_dst (N := 1) rfl ?_); refine bxe (cs := #[.slice A0_0 l0_0.length c0_0]) (t := 38) ?_; intro gb285 hg w5 hbox hb; have BK285 := Aside0.mk (hbox); have GW285 := bwz HB hg; have GE285 := bwz HB hg; replace HB := bwb HB hb; clear hb hbox hg; obtain ⟨hcz6, hfz6⟩ := bcf BK285) | ((with_reducible refine gate_dst (N := 11) rfl ?_); refine Kd.S_make (Kd.slice 3 (Kd.int .i64)) _ 32 rfl (N := 11) rfl 72 _ _ rfl (l0_0.length : Int) rfl rfl Try.underlying72 (.slice none 0 0) 24 info32 rfl (by decide) (by omega) [] (ok := fun _ => True) (okp := fun _ => True) ⟨_, rfl, Kd.R_nil _ _ _ _ _⟩ (fun _ hk => hk) trivial (oda) (Nat.le_trans (Nat.mul_le_mul_right _ (oda : (l0_0.length : Int).toNat ≤ 11728124029610)) (by omega)) (Below.refl _ _) (Nat.le_refl _) ?_; intro v287 w7 ho8 hb hg_ hnew_; clear hg_ hnew_; (first | rw [← Ny286.out] at ho8 | (simp only [Int.reduceToNat] at ho8; rw [← Ny286.out] at ho8)); have HO288 := Aside0.mk (Kd.S_lower ho8 (below_size (bwq HB))); replace BK285 := bkb BK285 hb; replace HB := bwb HB hb; clear hb ho8; obtain ⟨hcz9, hfz9⟩ := bcf BK285) | ((with_reducible refine gate_callee (f := 84) rfl ?_); refine goesM (some 13) rfl rfl Try.func84 #[.agg #[.slice A0_0 l0_0.length c0_0]] rfl ?_; (with_reducible refine (impl_Prog_reach.calls k _ _ l0_0 t289 _ ?side1 ?side2 A4.out).mono ?_); (case side1 => exact Cq (Kd.C_below HR0_0.out HB.out)); (case side2 => exact HC0_0.out); rintro e w10 ⟨v290, rfl, ho0, hb⟩; refine ⟨_, rfl, ?_⟩; replace HO288 := Aside0.mk (Kd.S_below (Sq HO288.out) hb); have HO291 := Aside0.mk (Kd.R_lower ho0 (below_size (bwq HB))); replace BK285 := bkb BK285 hb; replace HB := bwb HB hb; (try clear hb); (try clear hb2); (try clear hk); (try clear hi); (try clear ho0); obtain ⟨Ao11, co11, eo11⟩ := Kd.R_slice HO291.out; subst eo11))
   go_loopg [15] k (fun kq v15 w' => ∃ (x3_1 : List (List Int)) (x15_1 : Int), v15 = .int .i64 x15_1 ∧ Aside0 (impl_Prog_preds.l0 kq x3_1 t289 (t289.length : Int) x15_1 l0_0 = some r) ∧ Aside0 (kq ≤ k) ∧ Aside0 (Kd.S (Kd.slice 3 (Kd.int .i64)) 32 w' w.heap.size (fun _ => True) v287 x3_1) ∧ Aside0 (Kd.R Kd.bool 4 w' w.heap.size (fun _ => True) (.slice Ao11 t289.length co11) t289) ∧ Aside0 (w'.heap[gb285]? = some (.cells #[(.slice A0_0 l0_0.length c0_0)] 38 (0, 0))) ∧ Aside0 (Below w.heap.size w w'))
   case atStart => exact ⟨(y286), (0), (by first | rfl | (simp; done) | (simp [*]; done)), H', ⟨Nat.le_refl _⟩, ⟨Sq HO288.out⟩, ⟨Rq HO291.out⟩, ⟨bkq BK285⟩, ⟨bwq HB⟩⟩
   case round =>
    clear H'
    try clear c2
    try clear c2b0
    try clear c2b1
    try clear p2
    try clear c3
    try clear c3b0
    try clear c3b1
    try clear c8
    try clear hcz6
    try clear hcz9
    try clear hfz6
    try clear hfz9
    obtain ⟨x3_1, x15_1, rfl, HA, HK1, HO_3, HO_13, BK285, HB⟩ := hrel
    cases gk with
    | zero => exact absurd HA.out (by intro h_; first | (cases h_; done) | (simp [impl_Prog_preds.l0] at h_))
    | succ k1 =>
     have H := HA.out
     clear HA
     simp only [impl_Prog_preds.l0] at H
     by_cases c12 : x15_1 < (t289.length : Int)
     ·rw [if_pos c12] at H
      have c12b0 : decide (x15_1 < (t289.length : Int)) = true := decide_eq_true c12
      clear c12
      by_cases c13 : 0 ≤ x15_1
      ·rw [if_pos c13] at H
       have c13b0 : decide (0 ≤ x15_1) = true := decide_eq_true c13
       clear c13
       by_cases c14 : x15_1 < (t289.length : Int)
       ·rw [if_pos c14] at H
        have c14b0 : decide (x15_1 < (t289.length : Int)) = true := decide_eq_true c14
        clear c14
        obtain ⟨bq15, hbq15⟩ : ∃ b_ : Bool, b_ = (rdOf false t289 x15_1) := ⟨_, rfl⟩
        replace H : (if bq15 = true then (if x15_1 < (l0_0.length : Int) then (impl_Prog_preds.l1 k1 x3_1 x15_1 t289 (t289.length : Int) x15_1 ((rd_T77 l0_0 x15_1).f5) (((rd_T77 l0_0 x15_1).f5).length : Int) 0 l0_0) else (none)) else (impl_Prog_preds.l0 k1 x3_1 t289 (t289.length : Int) (wrap64 (x15_1 + 1)) l0_0)) = some r := by rw [← hbq15] at H; exact H
        have Nbq15 := Aside0.mk hbq15
        clear hbq15
        by_cases c16 : bq15 = true
        ·subst c16
         rw [if_pos rfl] at H
         by_cases c17 : x15_1 < (l0_0.length : Int)
         ·rw [if_pos c17] at H
          have c17b0 : decide (x15_1 < (l0_0.length : Int)) = true := decide_eq_true c17
          clear c17
          have H' := Aside0.mk H
          clear H
          have p292 : 0 ≤ (x15_1 : Int) := oda
          have q292 : x15_1 < (t289.length : Int) := oda
          obtain ⟨ad292, e292, hx292_0⟩ := Kd.at_bool (Kd.R_reads' HO_13.out).2.2 x15_1 p292 q292
          (try rw [← Nbq15.out] at hx292_0)
          cases e292
          replace p292 := eq_true p292
          replace q292 := eq_true q292
          obtain ⟨hcz18, hfz18⟩ := bcf BK285
          have p293 : 0 ≤ (x15_1 : Int) := oda
          have q293 : x15_1 < (l0_0.length : Int) := oda
          obtain ⟨ad293, A293_7, c293_7, e293, hx293_0, hx293_1, hx293_2, hx293_3, hx293_4, hx293_5, hx293_6, hx293_7, hl293_7, hi293_7⟩ := at_T77 HR0_0.out x15_1 p293 q293
          cases e293
          replace hx293_0 := hxb HB hx293_0
          replace hx293_1 := hxb HB hx293_1
          replace hx293_2 := hxb HB hx293_2
          replace hx293_3 := hxb HB hx293_3
          replace hx293_4 := hxb HB hx293_4
          replace hx293_5 := hxb HB hx293_5
          replace hx293_6 := hxb HB hx293_6
          replace hx293_7 := hxb HB hx293_7
          have HR293_7 := Aside0.mk hi293_7
          have HC293_7 := Aside0.mk hl293_7
          clear hi293_7 hl293_7
          replace p293 := eq_true p293
          replace q293 := eq_true q293
          go_wp2
          go_loopg [29] k1 (fun kq v29 w' => ∃ (x3_2 : List (List Int)) (x29_2 : Int), v29 = .int .i64 x29_2 ∧ Aside0 (impl_Prog_preds.l1 kq x3_2 x15_1 t289 (t289.length : Int) x15_1 ((rd_T77 l0_0 x15_1).f5) (((rd_T77 l0_0 x15_1).f5).length : Int) x29_2 l0_0 = some r) ∧ Aside0 (kq ≤ k1) ∧ Aside0 (Kd.S (Kd.slice 3 (Kd.int .i64)) 32 w' w.heap.size (fun _ => True) v287 x3_2) ∧ Aside0 (Kd.R Kd.bool 4 w' w.heap.size (fun _ => True) (.slice (some ad292) t289.length co11) t289) ∧ Aside0 (w'.heap[gb285]? = some (.cells #[(.slice (some ad293) l0_0.length c0_0)] 38 (0, 0))) ∧ Aside0 (Below w.heap.size w w'))
          case atStart => exact ⟨(x3_1), (0), (by first | rfl | (simp; done) | (simp [*]; done)), H', ⟨Nat.le_refl _⟩, ⟨Sq HO_3.out⟩, ⟨Rq HO_13.out⟩, ⟨bkq BK285⟩, ⟨bwq HB⟩⟩
          case round =>
           clear H'
           try clear c1
           try clear q1
           try clear c2
           try clear c2b0
           try clear c2b1
           try clear p2
           try clear q2
           try clear hx2
           try clear c3
           try clear c3b0
           try clear c3b1
           try clear p6
           try clear c8
           try clear c12
           try clear c12b0
           try clear c13
           try clear c13b0
           try clear c14
           try clear c14b0
           try clear q15
           try clear c16
           try clear c17
           try clear c17b0
           try clear hcz18
           try clear hcz6
           try clear hcz9
           try clear hfz18
           try clear hfz6
           try clear hfz9
           try clear hx292_0
           try clear hx293_0
           try clear hx293_1
           try clear hx293_2
           try clear hx293_3
           try clear hx293_4
           try clear hx293_5
           try clear hx293_6
           try clear hx293_7
           try clear p2
           try clear p292
           try clear p293
           try clear q292
           try clear q293
           obtain ⟨x3_2, x29_2, rfl, HA, HK2, HO_3, HO_13, BK285, HB⟩ := hrel
           cases gk with
           | zero => exact absurd HA.out (by intro h_; first | (cases h_; done) | (simp [impl_Prog_preds.l1] at h_))
           | succ k2 =>
            have H := HA.out
            clear HA
            simp only [impl_Prog_preds.l1] at H
            by_cases c19 : x29_2 < (((rd_T77 l0_0 x15_1).f5).length : Int)
            ·rw [if_pos c19] at H
             have c19b0 : decide (x29_2 < (((rd_T77 l0_0 x15_1).f5).length : Int)) = true := decide_eq_true c19
             clear c19
             by_cases c20 : 0 ≤ x29_2
             ·rw [if_pos c20] at H
              have c20b0 : decide (0 ≤ x29_2) = true := decide_eq_true c20
              clear c20
              by_cases c21 : x29_2 < (((rd_T77 l0_0 x15_1).f5).length : Int)
              ·rw [if_pos c21] at H
               have c21b0 : decide (x29_2 < (((rd_T77 l0_0 x15_1).f5).length : Int)) = true := decide_eq_true c21
               clear c21
               by_cases c22 : 0 ≤ (rd ((rd_T77 l0_0 x15_1).f5) x29_2)
               ·rw [if_pos c22] at H
                have c22b0 : decide (0 ≤ (rd ((rd_T77 l0_0 x15_1).f5) x29_2)) = true := decide_eq_true c22
                clear c22
                by_cases c23 : (rd ((rd_T77 l0_0 x15_1).f5) x29_2) < (x3_2.length : Int)
                ·rw [if_pos c23] at H
                 have c23b0 : decide ((rd ((rd_T77 l0_0 x15_1).f5) x29_2) < (x3_2.length : Int)) = true := decide_eq_true c23
                 clear c23
                 replace H := Option.bind_eq_some_iff.mp H
                 obtain ⟨t296, A240, H⟩ := H
                 have A24 := Aside0.mk A240
                 clear A240
                 by_cases c25 : t296 = true
                 ·subst c25
                  rw [if_pos rfl] at H
                  have H' := Aside0.mk H
                  clear H
                  have p294 : 0 ≤ (x29_2 : Int) := oda
                  have q294 : x29_2 < (((rd_T77 l0_0 x15_1).f5).length : Int) := oda
                  obtain ⟨ad294, e294, hx294_0⟩ := Kd.at_int HR293_7.out x29_2 p294 q294
                  cases e294
                  replace hx294_0 := hxb HB hx294_0
                  replace p294 := eq_true p294
                  replace q294 := eq_true q294
                  obtain ⟨Ao26, co26, eo26⟩ := Kd.S_slice HO_3.out
                  subst eo26
                  have p295 : 0 ≤ ((rd ((rd_T77 l0_0 x15_1).f5) x29_2) : Int) := oda
                  have q295 : (rd ((rd_T77 l0_0 x15_1).f5) x29_2) < (x3_2.length : Int) := oda
                  obtain ⟨ad295, A295_0, c295_0, e295, hx295_0, hl295_0, hi295_0⟩ := at_L2 (Kd.S_reads' HO_3.out).2.2 (rd ((rd_T77 l0_0 x15_1).f5) x29_2) p295 q295
                  cases e295
                  obtain ⟨ce295, hce295, hMe295, hcc295⟩ := Kd.S_get HO_3.out [] (rd ((rd_T77 l0_0 x15_1).f5) x29_2) p295 (by first | exact q295 | exact oda | (have e_ := (Kd.S_reads' HO_3.out).1; omega))
                  obtain ⟨ve295_0, rfl, ge295_0⟩ := hMe295
                  have hv295_0 := hcc295 0 _ rfl
                  rw [Nat.add_zero, show ((Kd.slice 3 (Kd.int .i64))).sz = 1 from rfl, Nat.mul_one] at hv295_0
                  replace hv295_0 := Option.some.inj (hv295_0.symm.trans hx295_0)
                  rw [hv295_0] at ge295_0
                  have HL295_0 := Aside0.mk (show Kd.R (Kd.int .i64) 3 _ _ _ _ (rd_L2 x3_2 (rd ((rd_T77 l0_0 x15_1).f5) x29_2)) from ge295_0)
                  clear hv295_0 ge295_0
                  have HX295_0 := Aside0.mk hx295_0
                  clear hcc295 hce295
                  have HR295_0 := Aside0.mk hi295_0
                  have HC295_0 := Aside0.mk hl295_0
                  clear hi295_0 hl295_0
                  replace p295 := eq_true p295
                  replace q295 := eq_true q295
                  go_wp2_with (first | ((with_reducible refine gate_callee (f := 89) rfl ?_); refine goesM (some 38) rfl rfl Try.func89 #[.slice A295_0 (rd_L2 x3_2 (rd ((rd_T77 l0_0 x15_1).f5) x29_2)).length c295_0, .int .i64 x15_1] rfl ?_; (with_reducible refine (slices_Contains_int_int.calls k2 _ _ (rd_L2 x3_2 (rd ((rd_T77 l0_0 x15_1).f5) x29_2)) x15_1 true _ ?side1 ?side2 A24.out).mono ?_); (case side1 => repeat (first | exact (by repeat (first | (with_reducible exact HR295_0.out) | (with_reducible refine Kd.C_alloc ?_ _) | (with_reducible refine Kd.C_drewN ?_ _) | (with_reducible refine Kd.C_drew ?_) | exact HR295_0.out)) | (with_reducible refine Kd.C_alloc ?_ _) | (with_reducible refine Kd.C_drewN ?_ _) | (with_reducible refine Kd.C_drew ?_))); (case side2 => exact HC295_0.out); rintro e w' ⟨rfl, ⟨nd, rfl⟩⟩; refine ⟨_, rfl, ?_⟩))
                  go_roundg k2
                  case measure => have := HK1.out; have := HK2.out; omega
                  case rel => exact ⟨(x3_2), (wrap64 (x29_2 + 1)), (by first | rfl | (simp; done) | (simp [*]; done)), H', ⟨by have := HK1.out; have := HK2.out; omega⟩, ⟨Sq HO_3.out⟩, ⟨Rq HO_13.out⟩, ⟨bkq BK285⟩, ⟨bwq HB⟩⟩
                 ·replace c25 := Bool.eq_false_iff.mpr c25
                  subst c25
                  have H1 : (if (rd_L2 x3_2 (rd ((rd_T77 l0_0 x15_1).f5) x29_2)).length < 17592186044416 then (impl_Prog_preds.l1 k2 (x3_2.set ((rd ((rd_T77 l0_0 x15_1).f5) x29_2) : Int).toNat ((rd_L2 x3_2 (rd ((rd_T77 l0_0 x15_1).f5) x29_2)) ++ [x15_1])) x15_1 t289 (t289.length : Int) x15_1 ((rd_T77 l0_0 x15_1).f5) (((rd_T77 l0_0 x15_1).f5).length : Int) (wrap64 (x29_2 + 1)) l0_0) else (none)) = some r := by rw [if_neg (show ¬ (false = true) by decide)] at H; exact H
                  clear H
                  have H := H1
                  clear H1
                  by_cases c27 : (rd_L2 x3_2 (rd ((rd_T77 l0_0 x15_1).f5) x29_2)).length < 17592186044416
                  ·rw [if_pos c27] at H
                   have LMc27 := Aside0.mk c27
                   clear c27
                   obtain ⟨y298, hy298⟩ : ∃ y_ : List Int, y_ = ((rd_L2 x3_2 (rd ((rd_T77 l0_0 x15_1).f5) x29_2)) ++ [x15_1]) := ⟨_, rfl⟩
                   replace H : (impl_Prog_preds.l1 k2 (x3_2.set ((rd ((rd_T77 l0_0 x15_1).f5) x29_2) : Int).toNat y298) x15_1 t289 (t289.length : Int) x15_1 ((rd_T77 l0_0 x15_1).f5) (((rd_T77 l0_0 x15_1).f5).length : Int) (wrap64 (x29_2 + 1)) l0_0) = some r := by first | (rw [hy298]; with_reducible exact H) | (have H2_ := (Option.bind_some _ _).symm.trans H; rw [hy298]; with_reducible exact H2_) | (have H2_ := (Option.bind_some _ _).symm.trans H; with_reducible exact H2_) | with_reducible exact H | (rw [hy298]; exact H) | exact H
                   have Ny298 := Aside0.mk hy298
                   clear hy298
                   obtain ⟨y301, hy301⟩ : ∃ y_ : List (List Int), y_ = (x3_2.set ((rd ((rd_T77 l0_0 x15_1).f5) x29_2) : Int).toNat y298) := ⟨_, rfl⟩
                   replace H : (impl_Prog_preds.l1 k2 y301 x15_1 t289 (t289.length : Int) x15_1 ((rd_T77 l0_0 x15_1).f5) (((rd_T77 l0_0 x15_1).f5).length : Int) (wrap64 (x29_2 + 1)) l0_0) = some r := by first | (rw [hy301]; with_reducible exact H) | (have H2_ := (Option.bind_some _ _).symm.trans H; rw [hy301]; with_reducible exact H2_) | (have H2_ := (Option.bind_some _ _).symm.trans H; with_reducible exact H2_) | with_reducible exact H | (rw [hy301]; exact H) | exact H
                   have Ny301 := Aside0.mk hy301
                   clear hy301
                   have H' := Aside0.mk H
                   clear H
                   have p294 : 0 ≤ (x29_2 : Int) := oda
                   have q294 : x29_2 < (((rd_T77 l0_0 x15_1).f5).length : Int) := oda
                   obtain ⟨ad294, e294, hx294_0⟩ := Kd.at_int HR293_7.out x29_2 p294 q294
                   cases e294
                   replace hx294_0 := hxb HB hx294_0
                   replace p294 := eq_true p294
                   replace q294 := eq_true q294
                   obtain ⟨Ao29, co29, eo29⟩ := Kd.S_slice HO_3.out
                   subst eo29
                   have p295 : 0 ≤ ((rd ((rd_T77 l0_0 x15_1).f5) x29_2) : Int) := oda
                   have q295 : (rd ((rd_T77 l0_0 x15_1).f5) x29_2) < (x3_2.length : Int) := oda
                   obtain ⟨ad295, A295_0, c295_0, e295, hx295_0, hl295_0, hi295_0⟩ := at_L2 (Kd.S_reads' HO_3.out).2.2 (rd ((rd_T77 l0_0 x15_1).f5) x29_2) p295 q295
                   cases e295
                   obtain ⟨ce295, hce295, hMe295, hcc295⟩ := Kd.S_get HO_3.out [] (rd ((rd_T77 l0_0 x15_1).f5) x29_2) p295 (by first | exact q295 | exact oda | (have e_ := (Kd.S_reads' HO_3.out).1; omega))
                   obtain ⟨ve295_0, rfl, ge295_0⟩ := hMe295
                   have hv295_0 := hcc295 0 _ rfl
                   rw [Nat.add_zero, show ((Kd.slice 3 (Kd.int .i64))).sz = 1 from rfl, Nat.mul_one] at hv295_0
                   replace hv295_0 := Option.some.inj (hv295_0.symm.trans hx295_0)
                   rw [hv295_0] at ge295_0
                   have HL295_0 := Aside0.mk (show Kd.R (Kd.int .i64) 3 _ _ _ _ (rd_L2 x3_2 (rd ((rd_T77 l0_0 x15_1).f5) x29_2)) from ge295_0)
                   clear hv295_0 ge295_0
                   have HX295_0 := Aside0.mk hx295_0
                   clear hcc295 hce295
                   have HR295_0 := Aside0.mk hi295_0
                   have HC295_0 := Aside0.mk hl295_0
                   clear hi295_0 hl295_0
                   replace p295 := eq_true p295
                   replace q295 := eq_true q295
                   go_wp2_with (first | ((with_reducible refine gate_callee (f := 89) rfl ?_); refine goesM (some 38) rfl rfl Try.func89 #[.slice A295_0 (rd_L2 x3_2 (rd ((rd_T77 l0_0 x15_1).f5) x29_2)).length c295_0, .int .i64 x15_1] rfl ?_; (with_reducible refine (slices_Contains_int_int.calls k2 _ _ (rd_L2 x3_2 (rd ((rd_T77 l0_0 x15_1).f5) x29_2)) x15_1 false _ ?side1 ?side2 A24.out).mono ?_); (case side1 => repeat (first | exact (by repeat (first | (with_reducible exact HR295_0.out) | (with_reducible refine Kd.C_alloc ?_ _) | (with_reducible refine Kd.C_drewN ?_ _) | (with_reducible refine Kd.C_drew ?_) | exact HR295_0.out)) | (with_reducible refine Kd.C_alloc ?_ _) | (with_reducible refine Kd.C_drewN ?_ _) | (with_reducible refine Kd.C_drew ?_))); (case side2 => exact HC295_0.out); rintro e w' ⟨rfl, ⟨nd, rfl⟩⟩; refine ⟨_, rfl, ?_⟩; (try (rw [drewN_self wr]; generalize hq_ : World.drewN wr _ = wr; have n0_ : Aside0 (Kd.R (Kd.int .i64) 3 wr w.heap.size (fun k_ => some k_ ≠ (.slice (some ad295) x3_2.length co29 : Value).ownBlock) (.slice A295_0 (rd_L2 x3_2 (rd ((rd_T77 l0_0 x15_1).f5) x29_2)).length c295_0) (rd_L2 x3_2 (rd ((rd_T77 l0_0 x15_1).f5) x29_2))) := ⟨by rw [← hq_]; exact (by (with_reducible repeat (first | apply Kd.R_alloc | apply Kd.R_drewN | apply Kd.R_drew)); exact Kd.R_mono HL295_0.out (fun _ hk => hk.2))⟩; have n1_ : Aside0 (Kd.R Kd.bool 4 wr w.heap.size (fun _ => True) (.slice (some ad292) t289.length co11) t289) := ⟨by rw [← hq_]; exact (Rq HO_13.out)⟩; have n2_ : Aside0 (Kd.S (Kd.slice 3 (Kd.int .i64)) 32 wr w.heap.size (fun _ => True) (.slice (some ad295) x3_2.length co29) x3_2) := ⟨by rw [← hq_]; exact (Sq HO_3.out)⟩; have n3_ : Aside0 (wr.heap[gb285]? = some (.cells #[.slice (some ad293) l0_0.length c0_0] 38 (0, 0))) := ⟨by rw [← hq_]; exact (bkq BK285)⟩; have n4_ : Aside0 (Below w.heap.size w wr) := ⟨by rw [← hq_]; exact (bwq HB)⟩; have n5_ : Aside0 (Kd.C (Kd.int .i64) wr A295_0 (rd_L2 x3_2 (rd ((rd_T77 l0_0 x15_1).f5) x29_2)).length (rd_L2 x3_2 (rd ((rd_T77 l0_0 x15_1).f5) x29_2))) := ⟨by rw [← hq_]; exact (by repeat (first | (with_reducible exact HR295_0.out) | (with_reducible refine Kd.C_alloc ?_ _) | (with_reducible refine Kd.C_drewN ?_ _) | (with_reducible refine Kd.C_drew ?_) | exact HR295_0.out))⟩; have nx_ := (congrArg (fun z_ => World.cell? z_ _) hq_.symm).trans hx295_0; clear HL295_0 hx295_0 HO_13 HO_3 BK285 HB HR295_0 hq_; have hx295_0 := nx_; clear nx_; have HL295_0 := n0_; have HO_13 := n1_; have HO_3 := n2_; have BK285 := n3_; have HB := n4_; have HR295_0 := n5_; clear n0_ n1_ n2_ n3_ n4_ n5_)); have p297 : 0 ≤ ((rd ((rd_T77 l0_0 x15_1).f5) x29_2) : Int) := oda; have q297 : (rd ((rd_T77 l0_0 x15_1).f5) x29_2) < (x3_2.length : Int) := oda; obtain ⟨ad297, A297_0, c297_0, e297, hx297_0, hl297_0, hi297_0⟩ := at_L2 (Kd.S_reads' HO_3.out).2.2 (rd ((rd_T77 l0_0 x15_1).f5) x29_2) p297 q297; obtain rfl : ad295 = ad297 := (by injection e297); obtain ⟨ce297, hce297, hMe297, hcc297⟩ := Kd.S_get HO_3.out [] (rd ((rd_T77 l0_0 x15_1).f5) x29_2) p297 (by first | exact q297 | exact oda | (have e_ := (Kd.S_reads' HO_3.out).1; omega)); obtain ⟨ve297_0, rfl, ge297_0⟩ := hMe297; have hv297_0 := hcc297 0 _ rfl; rw [Nat.add_zero, show ((Kd.slice 3 (Kd.int .i64))).sz = 1 from rfl, Nat.mul_one] at hv297_0; replace hv297_0 := Option.some.inj (hv297_0.symm.trans hx297_0); rw [hv297_0] at ge297_0; have HL297_0 := Aside0.mk (show Kd.R (Kd.int .i64) 3 _ _ _ _ (rd_L2 x3_2 (rd ((rd_T77 l0_0 x15_1).f5) x29_2)) from ge297_0); clear hv297_0 ge297_0; have HX297_0 := Aside0.mk hx297_0; clear hcc297 hce297; have HR297_0 := Aside0.mk hi297_0; have HC297_0 := Aside0.mk hl297_0; clear hi297_0 hl297_0; replace p297 := eq_true p297; replace q297 := eq_true q297; have ea_ := Option.some.inj (hx295_0.symm.trans hx297_0); injection ea_ with ea_ en_ ec_; subst ea_; subst ec_; clear en_; obtain ⟨go30, co30, eo30, gb30, gl30, cl30, HG30⟩ := Kd.S_form HO_3.out (by have h_ : ((rd ((rd_T77 l0_0 x15_1).f5) x29_2) : Int) < ((x3_2.length : Int) : Int) := oda; have h2_ : 0 ≤ ((rd ((rd_T77 l0_0 x15_1).f5) x29_2) : Int) := (oda); omega); (first | cases eo30 | (injection eo30 with ea_ en_ ec_; (first | subst ea_ | (injection ea_ with ea_; subst ea_)); subst ec_; clear en_)); have GB30 := Aside0.mk gb30; have GG30 := Aside0.mk HG30; clear gb30 gl30 HG30; (first | simp only [add_plain] at hx295_0 | skip); (first | simp only [add_plain] at hx297_0 | skip); obtain ⟨oki30, ce30, hcl30, hM30, hcc30, _, _, hH30⟩ := Kd.S_elem HO_3.out [] ((rd ((rd_T77 l0_0 x15_1).f5) x29_2) : Int) (oda) (by have h_ : ((rd ((rd_T77 l0_0 x15_1).f5) x29_2) : Int) < ((x3_2.length : Int) : Int) := oda; first | exact h_ | (have e_ := (Kd.S_reads' HO_3.out).1; omega) | simpa using h_); obtain ⟨ve30_0, rfl, ge30_0⟩ := hM30; have hv30 := hcc30 0 _ rfl; have hX30 := HX297_0.out; (try simp only [add_plain] at hX30); (try simp only [Nat.add_zero] at hv30); (try rw [show ((Kd.slice 3 (Kd.int .i64))).sz = 1 from rfl, Nat.mul_one] at hv30); replace hv30 := Option.some.inj (hv30.symm.trans hX30); subst hv30; clear hX30 hcc30 hcl30; have UU30 := Aside0.mk (show Kd.R (Kd.int .i64) 3 _ w.heap.size oki30 (.slice A295_0 (rd_L2 x3_2 (rd ((rd_T77 l0_0 x15_1).f5) x29_2)).length c295_0) (rd_L2 x3_2 (rd ((rd_T77 l0_0 x15_1).f5) x29_2)) from ge30_0); have HH30 := Aside0.mk hH30; have HN30 := Aside0.mk (Kd.S_reads' HO_3.out).1; clear hH30 ge30_0) | ((with_reducible refine gate_builtin (b := .append) (xs := #[.tmp 45, .tmp 47]) rfl ?_); at_builtin; refine Kd.R_append (Kd.int .i64) (w0 := w) w.heap.size rfl (.tmp 45) (.tmp 47) 32 3 (.int .i64 0) 8 rfl Try.underlying32 info3 rfl (by decide) (by omega) (.slice A295_0 (rd_L2 x3_2 (rd ((rd_T77 l0_0 x15_1).f5) x29_2)).length c295_0) (rd_L2 x3_2 (rd ((rd_T77 l0_0 x15_1).f5) x29_2)) x15_1 [.int .i64 x15_1] (fun k_ => oki30 k_ ∨ ((fun _ => True)) k_ ∧ wr.heap.size ≤ k_) (fun _ => False) rfl rfl ?aP (fun _ hk => hk.elim) ?aF ?aO ?aB ?aS ?aL ?_; (case aP => exact rfl); (case aB => exact (bwq HB)); (case aF => exact (fun k_ hk => .inr ⟨trivial, hk⟩)); (case aO => exact (by (with_reducible repeat (first | apply Kd.R_alloc | apply Kd.R_drewN | apply Kd.R_drew)); exact Kd.R_mono UU30.out (fun _ hk => .inl hk))); (case aS => exact (below_size (bwq HB))); (case aL => have := LMc27.out; omega); intro v299 w31 ho hb hg hat; rw [← Ny298.out] at ho; have n0_ := Aside0.mk (Kd.R_over' (v := (.slice A295_0 (rd_L2 x3_2 (rd ((rd_T77 l0_0 x15_1).f5) x29_2)).length c295_0)) (Rq HO_13.out) (Kd.R_typed HL297_0.out) (by decide) hg); have n1_ := Aside0.mk (blk_grown (g := gb285) (o := .cells #[.slice (some ad293) l0_0.length c0_0] 38 (0, 0)) (bkq BK285) hg (Kd.R_ne HL297_0.out BK285.out (by decide))); have n2_ := Aside0.mk (hb); have n3_ := Aside0.mk (Kd.H_grown (Kd.H_widen (by repeat (first | exact HH30.out | refine Kd.H_alloc ?_ _ | refine Kd.H_drewN ?_ _ | refine Kd.H_drew ?_))) hg (fun k_ e_ => .inl (UU30.out.1 k_ e_))); have n4_ := Aside0.mk (ho); clear HO_13; clear BK285; clear HB; clear HH30; clear HO_3; clear UU30; clear HL295_0; clear HL297_0; have HO_13 := n0_; have BK285 := n1_; have HB := n2_; have HH30 := n3_; have HO300 := n4_; clear n0_ n1_ n2_ n3_ n4_; clear ho hb hg hat; have p28 : 0 ≤ ((rd ((rd_T77 l0_0 x15_1).f5) x29_2) : Int) := oda; have q28 : ((rd ((rd_T77 l0_0 x15_1).f5) x29_2) : Int) < ((x3_2.length : Int) : Int) := oda; replace p28 := eq_true p28; replace q28 := eq_true q28; obtain ⟨Ao34, co34, eo34⟩ := Kd.R_slice HO300.out; subst eo34; obtain ⟨_, _, hraw32, _, _, hcc32, _⟩ := Kd.H_raw HH30.out (oda) (by have h_ : ((rd ((rd_T77 l0_0 x15_1).f5) x29_2) : Int) < ((x3_2.length : Int) : Int) := oda; first | exact h_ | (have e_ := (HN30.out); omega) | simpa using h_); obtain ⟨_, hfr32⟩ := Kd.H_at HH30.out (oda) (by have h_ : ((rd ((rd_T77 l0_0 x15_1).f5) x29_2) : Int) < ((x3_2.length : Int) : Int) := oda; first | exact h_ | (have e_ := (HN30.out); omega) | simpa using h_); have hx32_0 := hcc32 0 _ rfl; have hf32_0 := hfr32 0; (try simp only [Nat.add_zero] at hx32_0 hf32_0); (try rw [show ((Kd.slice 3 (Kd.int .i64))).sz = 1 from rfl, Nat.mul_one] at hx32_0); (try rw [show ((Kd.slice 3 (Kd.int .i64))).sz = 1 from rfl, Nat.mul_one] at hf32_0); have HP32 := Kd.S_seg0 HH30.out (oda) (by have h_ : ((rd ((rd_T77 l0_0 x15_1).f5) x29_2) : Int) < ((x3_2.length : Int) : Int) := oda; first | exact h_ | (have e_ := (HN30.out); omega) | simpa using h_) (seg := [.slice Ao34 y298.length co34]) (j := 0) (show 1 ≤ 1 from by decide) (x' := y298) (Kd.M_row HO300.out) (fun _ hk => hk); (try simp only [show ((Kd.slice 3 (Kd.int .i64))).sz = 1 from rfl, Nat.mul_one, Nat.add_zero] at HP32); clear hcc32 hfr32) | ((with_reducible refine gate_store (t := 32) (p := 49) rfl ?_); refine store_event (t := 32) (p := 49) (v := ?vo_w33) (w1 := (w31.setCell ⟨go30, ((rd ((rd_T77 l0_0 x15_1).f5) x29_2) : Int).toNat, none⟩ (.slice Ao34 y298.length co34))) ?hg ?ho ?hn ?hr ?_; (case ho => rfl); (case hg => rfl); (case hn => rfl); (case hr => first | (go_simp; done) | (go_simp; rfl) | (go_simp; rfl)); intro w33 hw; have hg : w31.grownBy w33 (some go30) := (by rw [hw]; exact HP32.2); have hp_ : Kd.S (Kd.slice 3 (Kd.int .i64)) 32 w33 w.heap.size (fun _ => True) (.slice (some ⟨go30, 0, none⟩) x3_2.length co29) y301 := (by rw [hw, Ny301.out]; exact HP32.1); clear HP32; have n0_ := Aside0.mk (Kd.R_over' (v := (.slice (some ⟨go30, 0, none⟩) x3_2.length co29)) (Rq HO_13.out) (Kd.R_typed hraw32) (by decide) hg); have n1_ := Aside0.mk (blk_grown (g := gb285) (o := .cells #[.slice (some ad293) l0_0.length c0_0] 38 (0, 0)) (bkq BK285) hg (Kd.R_ne hraw32 BK285.out (by decide))); have n2_ := Aside0.mk ((by rw [hw]; exact below_set HB.out GB30.out : Below w.heap.size w w33)); have n3_ := Aside0.mk (hp_); clear HO_13; clear BK285; clear HB; clear HO300; clear HH30; have HO_13 := n0_; have BK285 := n1_; have HB := n2_; have HO_3 := n3_; clear n0_ n1_ n2_ n3_; clear hg hw hp_ hraw32))
                   go_roundg k2
                   case measure => have := HK1.out; have := HK2.out; omega
                   case rel => exact ⟨(y301), (wrap64 (x29_2 + 1)), (by first | rfl | (simp; done) | (simp [*]; done)), H', ⟨by have := HK1.out; have := HK2.out; omega⟩, ⟨Sq HO_3.out⟩, ⟨Rq HO_13.out⟩, ⟨bkq BK285⟩, ⟨bwq HB⟩⟩
                  ·rw [if_neg c27] at H
                   exact absurd H (by simp)
                ·rw [if_neg c23] at H
                 exact absurd H (by simp)
               ·rw [if_neg c22] at H
                exact absurd H (by simp)
              ·rw [if_neg c21] at H
               exact absurd H (by simp)
             ·rw [if_neg c20] at H
              exact absurd H (by simp)
            ·rw [if_neg c19] at H
             have c19b0 : decide (x29_2 < (((rd_T77 l0_0 x15_1).f5).length : Int)) = false := decide_eq_false c19
             clear c19
             have H' := Aside0.mk H
             clear H
             go_wp2
             go_roundg k2
             case measure => have := HK1.out; have := HK2.out; omega
             case rel => exact ⟨(x3_2), (wrap64 (x15_1 + 1)), (by first | rfl | (simp; done) | (simp [*]; done)), H', ⟨by have := HK1.out; have := HK2.out; omega⟩, ⟨Sq HO_3.out⟩, ⟨Rq HO_13.out⟩, ⟨bkq BK285⟩, ⟨bwq HB⟩⟩
         ·rw [if_neg c17] at H
          exact absurd H (by simp)
        ·replace c16 := Bool.eq_false_iff.mpr c16
         subst c16
         have H1 : (impl_Prog_preds.l0 k1 x3_1 t289 (t289.length : Int) (wrap64 (x15_1 + 1)) l0_0) = some r := by rw [if_neg (show ¬ (false = true) by decide)] at H; exact H
         clear H
         have H := H1
         clear H1
         have H' := Aside0.mk H
         clear H
         have p292 : 0 ≤ (x15_1 : Int) := oda
         have q292 : x15_1 < (t289.length : Int) := oda
         obtain ⟨ad292, e292, hx292_0⟩ := Kd.at_bool (Kd.R_reads' HO_13.out).2.2 x15_1 p292 q292
         (try rw [← Nbq15.out] at hx292_0)
         cases e292
         replace p292 := eq_true p292
         replace q292 := eq_true q292
         go_wp2
         go_roundg k1
         case measure => have := HK1.out; omega
         case rel => exact ⟨(x3_1), (wrap64 (x15_1 + 1)), (by first | rfl | (simp; done) | (simp [*]; done)), H', ⟨by have := HK1.out; omega⟩, ⟨Sq HO_3.out⟩, ⟨Rq HO_13.out⟩, ⟨bkq BK285⟩, ⟨bwq HB⟩⟩
       ·rw [if_neg c14] at H
        exact absurd H (by simp)
      ·rw [if_neg c13] at H
       exact absurd H (by simp)
     ·rw [if_neg c12] at H
      have c12b0 : decide (x15_1 < (t289.length : Int)) = false := decide_eq_false c12
      clear c12
      obtain rfl := Option.some.inj H
      go_wp2
      go_ret
      exact ⟨_, by first | rfl | (simp [errW_none, errW_some] <;> rfl) | (simp [*, errW_none, errW_some] <;> rfl), Sq HO_3.out, bwq HB⟩
  ·rw [if_neg c3] at H
   exact absurd H (by simp)
 ·rw [if_neg c2] at H
  exact absurd H (by simp)
end Go.Proofs.Ytcgbbhkjkkpfoaa.P
namespace Go.Proofs.Ytcgbbhkjkkpfoaa.P
open Go.RowKit Go.Proofs.YtcgbbhkjkkpfoaaW.PrintWords Go.Proofs.YtcgbbhkjkkpfoaaW.PrintLast Go.Proofs.YtcgbbhkjkkpfoaaW.PrintMore Lcm Lcm.G
theorem rdRow {l : List (List Int)} {i : Nat} (h : i < l.length) : rd_L2 l (i : Int) = l[i] := by
 unfold rd_L2; rw [List.getD_eq_getElem?_getD, Int.toNat_natCast, List.getElem?_eq_getElem h, Option.getD_some]
section
variable {g : G} {p : List Stp}
noncomputable def prow (g : G) (i : Nat) (E : Nat → Prop) (j : Nat) : List Nat := (List.range i).filter (fun u => yes (g.Pred u j)) ++ if yes (E j) = true then [i] else []
noncomputable def prows (g : G) (n i : Nat) (E : Nat → Prop) : List (List Int) := (List.range n).map fun j => ints (prow g i E j)
theorem prows_len (g : G) (n i : Nat) (E : Nat → Prop) : (prows g n i E).length = n := by unfold prows; simp
theorem prows_get {n i j : Nat} {E : Nat → Prop} (h : j < n) : (prows g n i E)[j]'(by rw [prows_len]; exact h) = ints (prow g i E j) := by unfold prows; simp
theorem mem_prow {i j : Nat} {E : Nat → Prop} : i ∈ prow g i E j ↔ E j := by
 unfold prow
 rw [List.mem_append, List.mem_filter, List.mem_range]
 constructor
 ·rintro (⟨h, _⟩ | h)
  ·exact absurd h (by omega)
  ·split at h
   ·rename_i h2; exact yes_iff.1 h2
   ·cases h
 ·intro h; right; rw [if_pos (yes_iff.2 h)]; simp
theorem prow_len (i : Nat) (E : Nat → Prop) (j : Nat) : (prow g i E j).length ≤ i + 1 := by
 unfold prow
 have := List.length_filter_le (fun u => yes (g.Pred u j)) (List.range i)
 rw [List.length_range] at this
 rw [List.length_append]
 split <;> simp <;> omega
theorem prow_add {i j : Nat} {E : Nat → Prop} (h : ¬ E j) (E' : Nat → Prop) (h2 : E' j) : prow g i E' j = prow g i E j ++ [i] := by
 unfold prow
 rw [yes_neg h, yes_iff.2 h2]; simp
theorem prow_congr {i j : Nat} {E E' : Nat → Prop} (h : E j ↔ E' j) : prow g i E j = prow g i E' j := by unfold prow; rw [yes_congr h]
theorem prows_set {n i k : Nat} {E : Nat → Prop} (hk : k < n) (h : ¬ E k) : (prows g n i E).set k (ints (prow g i E k) ++ [(i : Int)]) = prows g n i (fun j => E j ∨ j = k) := by
 apply List.ext_getElem
 ·rw [List.length_set, prows_len, prows_len]
 ·intro j h1 h2
  rw [List.length_set, prows_len] at h1
  rw [List.getElem_set, prows_get h1, prows_get h1]
  by_cases e : k = j
  ·subst e
   rw [if_pos rfl, prow_add h (fun j => E j ∨ j = k) (Or.inr rfl)]
   unfold ints; rw [List.map_append]; rfl
  ·rw [if_neg e, prow_congr]
   exact ⟨.inl, fun h => h.resolve_right fun c => e c.symm⟩
theorem prows_next {n i : Nat} {E : Nat → Prop} (h : ∀ j, j < n → (E j ↔ g.Pred i j)) : prows g n i E = prows g n (i + 1) (fun _ => False) := by
 unfold prows
 apply List.map_congr_left
 intro j hj
 unfold prow
 rw [yes_congr (h j (by simpa using hj)), List.range_succ, List.filter_append, yes_neg (id : ¬ False)]
 cases hy : yes (g.Pred i j) <;> simp [List.filter_cons, hy]
theorem preds_in (hf : Fit g p) (r : List (List Int)) (re : List Bool) (i : Nat) (hi : i < p.length) (K : ∀ E, (∀ j, j < p.length → (E j ↔ j ∈ g.next i)) → Ev (fun k => impl_Prog_preds.l0 k (prows g p.length i E) re (re.length : Int) (wrap64 ((i : Int) + 1)) p) r) :
    ∀ (d t : Nat) (E : Nat → Prop), t + d = (g.next i).length → (∀ j, j < p.length → (E j ↔ j ∈ (g.next i).take t)) → Ev (fun k => impl_Prog_preds.l1 k (prows g p.length i E) (i : Int) re (re.length : Int) (i : Int) (ints (g.next i)) ((ints (g.next i)).length : Int) (t : Int) p) r
  | 0, t, E, hd, hE => by
    refine Ev.step (fun k => by rw [impl_Prog_preds.l1]) (Ev.neg (by rw [ints_len]; omega) (K E fun j hj => ?_))
    rw [hE j hj, List.take_of_length_le (by omega)]
  | d + 1, t, E, hd, hE => by
    have ht : t < (g.next i).length := by omega
    have htwo := hf.two i hi
    have hfew := hf.few
    have hlt := hf.lt i hi _ (List.getElem_mem ht)
    have hpl := prow_len (g := g) i E (g.next i)[t]
    have htk : ∀ j, j ∈ (g.next i).take (t + 1) ↔ j ∈ (g.next i).take t ∨ j = (g.next i)[t] := fun j => by
      rw [List.take_add_one, List.getElem?_eq_getElem ht, List.mem_append]; simp
    refine Ev.step (fun k => by rw [impl_Prog_preds.l1]) (Ev.pos (by rw [ints_len]; omega) (Ev.pos (by omega) (Ev.pos (by rw [ints_len]; omega) ?_)))
    rw [rd_ints ht, rdRow (by rw [prows_len]; exact hlt), prows_get hlt, wrapN (by omega), Int.toNat_natCast]
    have hm : ((i : Int) ∈ ints (prow g i E (g.next i)[t])) ↔ E (g.next i)[t] := by
      rw [← mem_prow (g := g) (i := i) (E := E)]
      unfold ints
      rw [List.mem_map]
      exact ⟨fun ⟨a, h1, h2⟩ => by have : a = i := by omega
                                   rwa [this] at h1, fun h => ⟨i, h, rfl⟩⟩
    refine Ev.pos (by omega) (Ev.pos (by rw [prows_len]; omega) (Ev.bind (contains_ev _ (i : Int) (by rw [ints_len]; omega)) (Ev.cases (fun h => ?_) (fun h => ?_))))
    · have hEk := hm.1 (by simpa using h)
      refine preds_in hf r re i hi K d (t + 1) E (by omega) fun j hj => ?_
      rw [htk, ← hE j hj]
      exact ⟨.inl, fun h => h.elim id fun e => e ▸ hEk⟩
    · have hEk : ¬ E (g.next i)[t] := fun c => h (by simpa using hm.2 c)
      rw [prows_set hlt hEk]
      refine Ev.pos (by rw [ints_len]; omega) (preds_in hf r re i hi K d (t + 1) _ (by omega) fun j hj => ?_)
      rw [htk, hE j hj]
theorem preds_loop (hf : Fit g p) : ∀ (d i : Nat), i + d = p.length → Ev (fun k => impl_Prog_preds.l0 k (prows g p.length i (fun _ => False)) (bl p.length g.Reach) ((bl p.length g.Reach).length : Int) (i : Int) p) (prl g p.length)
 | 0, i, hd => by
  refine Ev.step (fun k => by rw [impl_Prog_preds.l0]) (Ev.neg (by rw [bl_len]; omega) (Ev.eq (Ev.now _) ?_))
  obtain rfl : i = p.length := by omega
  unfold prows prl
  apply List.map_congr_left
  intro j hj
  unfold prow preds
  rw [yes_neg (id : ¬ False)]; simp
 | d + 1, i, hd => by
  have hi : i < p.length := by omega
  have hfew := hf.few
  refine Ev.step (fun k => by rw [impl_Prog_preds.l0]) (Ev.pos (by rw [bl_len]; omega) (Ev.pos (by omega) (Ev.pos (by rw [bl_len]; omega) ?_)))
  rw [rdB (by rw [bl_len]; exact hi), rdS hi, hf.next i hi]
  refine Ev.cases (fun h => ?_) (fun h => ?_)
  ·have hr : g.Reach i := (on_bl.1 ((on_get (by rw [bl_len]; exact hi)).2 h)).2
   refine Ev.pos (by omega) (preds_in hf _ _ i hi (fun E hE => ?_) _ 0 _ (Nat.zero_add _) fun j hj => by simp)
   rw [prows_next (fun j hj => (hE j hj).trans ⟨fun h => ⟨hr, h⟩, fun h => h.2⟩), wrapN (by omega)]
   exact preds_loop hf d (i + 1) (by omega)
  ·have hr : ¬ g.Reach i := fun c => h ((on_get (by rw [bl_len]; exact hi)).1 (on_bl.2 ⟨hi, c⟩))
   rw [prows_next (E := fun _ => False) (fun j hj => ⟨False.elim, fun h => hr h.1⟩), wrapN (by omega)]
   exact preds_loop hf d (i + 1) (by omega)
theorem preds_ev (hf : Fit g p) : Ev (fun k => impl_Prog_preds.f k p) (prl g p.length) := by
 have hfew := hf.few
 unfold impl_Prog_preds.f
 rw [Int.toNat_natCast]
 refine Ev.pos (by omega) (Ev.pos (by omega) (Ev.bind (reach_ev hf) ?_))
 have e : List.replicate p.length ([] : List Int) = prows g p.length 0 (fun _ => False) := by
  apply List.ext_getElem
  ·rw [List.length_replicate, prows_len]
  ·intro j h1 h2
   rw [List.length_replicate] at h1
   rw [List.getElem_replicate, prows_get h1]
   unfold prow
   rw [yes_neg (id : ¬ False)]; rfl
 rw [e]
 exact preds_loop hf p.length 0 (by omega)
end
end Go.Proofs.Ytcgbbhkjkkpfoaa.P
namespace Go.Proofs.Ytcgbbhkjkkpfoaa.P
open Go.RowKit Go.Proofs.YtcgbbhkjkkpfoaaW.PrintWords Go.Proofs.YtcgbbhkjkkpfoaaW.PrintLast Go.Proofs.YtcgbbhkjkkpfoaaW.PrintMore
attribute [local go_sem] max2_int min2_int max_two min_two max_three min_three max_four min_four
def impl_ExprOk.f (a0_0 : Int) (a0_1 : Int) (a0_2 : Int) (a0_3 : Int) (a0_4 : Int) : Option (Bool) := (impl_isOp.f a0_0).bind fun t261 => (if t261 = true then ((impl_Opnd_ok.f a0_1 a0_2).bind fun t262 => (if t262 = true then ((impl_Opnd_ok.f a0_3 a0_4).bind fun t263 => (some t263)) else (some false))) else (some false))
theorem impl_ExprOk.calls (a0_0 : Int) (a0_1 : Int) (a0_2 : Int) (a0_3 : Int) (a0_4 : Int) (r : Bool) (w : World) (h : impl_ExprOk.f a0_0 a0_1 a0_2 a0_3 a0_4 = some r) :
  Calls Try.prog 83 #[.agg #[.int .i64 a0_0, .int .i64 a0_1, .int .i64 a0_2, .int .i64 a0_3, .int .i64 a0_4]] w fun e w' => e = .returned (.bool r) ∧ Below w.heap.size w w' := by
 have hu42 := Try.underlying42
 have hu40 := Try.underlying40
 have HB := Aside0.mk (Below.refl w.heap.size w)
 have H : ((impl_isOp.f a0_0).bind fun t261 => (if t261 = true then ((impl_Opnd_ok.f a0_1 a0_2).bind fun t262 => (if t262 = true then ((impl_Opnd_ok.f a0_3 a0_4).bind fun t263 => (some t263)) else (some false))) else (some false))) = some r := h
 clear h
 replace H := Option.bind_eq_some_iff.mp H
 obtain ⟨t261, A20, H⟩ := H
 have A2 := Aside0.mk A20
 clear A20
 by_cases c3 : t261 = true
 ·subst c3
  rw [if_pos rfl] at H
  replace H := Option.bind_eq_some_iff.mp H
  obtain ⟨t262, A40, H⟩ := H
  have A4 := Aside0.mk A40
  clear A40
  by_cases c5 : t262 = true
  ·subst c5
   rw [if_pos rfl] at H
   replace H := Option.bind_eq_some_iff.mp H
   obtain ⟨t263, A60, H⟩ := H
   have A6 := Aside0.mk A60
   clear A60
   obtain rfl := Option.some.inj H
   go_enter Try.func83, Try.ntmps83
   go_wp2_with (first | ((with_reducible refine gate_dst (N := 1) rfl ?_); refine bxe (cs := #[.int .i64 a0_0, .int .i64 a0_1, .int .i64 a0_2, .int .i64 a0_3, .int .i64 a0_4]) (t := 42) ?_; intro gb260 hg w7 hbox hb; have BK260 := Aside0.mk (hbox); have GW260 := bwz HB hg; have GE260 := bwz HB hg; replace HB := bwb HB hb; clear hb hbox hg; obtain ⟨hcz8, hfz8⟩ := bcf BK260) | ((with_reducible refine gate_callee (f := 115) rfl ?_); refine goesM (some 5) rfl rfl Try.func115 #[.int .i64 a0_0] rfl ?_; (with_reducible refine (impl_isOp.calls a0_0 true _ A2.out).mono ?_); rintro e w' ⟨rfl, ⟨nd, rfl⟩⟩; refine ⟨_, rfl, ?_⟩) | (go_at_call 116; (with_reducible refine (impl_Opnd_ok.calls a0_1 a0_2 true _ A4.out).mono ?_); rintro e w9 ⟨rfl, hb⟩; replace BK260 := bkb BK260 hb; replace HB := bwb HB hb; (try clear hb); (try clear hb2); (try clear hk); (try clear hi); obtain ⟨hcz10, hfz10⟩ := bcf BK260) | (go_at_call 116; (with_reducible refine (impl_Opnd_ok.calls a0_3 a0_4 t263 _ A6.out).mono ?_); rintro e w11 ⟨rfl, hb⟩; replace BK260 := bkb BK260 hb; replace HB := bwb HB hb; (try clear hb); (try clear hb2); (try clear hk); (try clear hi)))
   go_ret
   exact ⟨by first | rfl | (simp [errW_none, errW_some] <;> rfl) | (simp [*, errW_none, errW_some] <;> rfl), bwq HB⟩
  ·replace c5 := Bool.eq_false_iff.mpr c5
   subst c5
   have H1 : (some false) = some r := by rw [if_neg (show ¬ (false = true) by decide)] at H; exact H
   clear H
   have H := H1
   clear H1
   obtain rfl := Option.some.inj H
   go_enter Try.func83, Try.ntmps83
   go_wp2_with (first | ((with_reducible refine gate_dst (N := 1) rfl ?_); refine bxe (cs := #[.int .i64 a0_0, .int .i64 a0_1, .int .i64 a0_2, .int .i64 a0_3, .int .i64 a0_4]) (t := 42) ?_; intro gb260 hg w12 hbox hb; have BK260 := Aside0.mk (hbox); have GW260 := bwz HB hg; have GE260 := bwz HB hg; replace HB := bwb HB hb; clear hb hbox hg; obtain ⟨hcz13, hfz13⟩ := bcf BK260) | ((with_reducible refine gate_callee (f := 115) rfl ?_); refine goesM (some 5) rfl rfl Try.func115 #[.int .i64 a0_0] rfl ?_; (with_reducible refine (impl_isOp.calls a0_0 true _ A2.out).mono ?_); rintro e w' ⟨rfl, ⟨nd, rfl⟩⟩; refine ⟨_, rfl, ?_⟩) | (go_at_call 116; (with_reducible refine (impl_Opnd_ok.calls a0_1 a0_2 false _ A4.out).mono ?_); rintro e w14 ⟨rfl, hb⟩; replace BK260 := bkb BK260 hb; replace HB := bwb HB hb; (try clear hb); (try clear hb2); (try clear hk); (try clear hi)))
   go_ret
   exact ⟨by first | rfl | (simp [errW_none, errW_some] <;> rfl) | (simp [*, errW_none, errW_some] <;> rfl), bwq HB⟩
 ·replace c3 := Bool.eq_false_iff.mpr c3
  subst c3
  have H1 : (some false) = some r := by rw [if_neg (show ¬ (false = true) by decide)] at H; exact H
  clear H
  have H := H1
  clear H1
  obtain rfl := Option.some.inj H
  go_enter Try.func83, Try.ntmps83
  go_wp2_with (first | ((with_reducible refine gate_dst (N := 1) rfl ?_); refine bxe (cs := #[.int .i64 a0_0, .int .i64 a0_1, .int .i64 a0_2, .int .i64 a0_3, .int .i64 a0_4]) (t := 42) ?_; intro gb260 hg w15 hbox hb; have BK260 := Aside0.mk (hbox); have GW260 := bwz HB hg; have GE260 := bwz HB hg; replace HB := bwb HB hb; clear hb hbox hg; obtain ⟨hcz16, hfz16⟩ := bcf BK260) | ((with_reducible refine gate_callee (f := 115) rfl ?_); refine goesM (some 5) rfl rfl Try.func115 #[.int .i64 a0_0] rfl ?_; (with_reducible refine (impl_isOp.calls a0_0 false _ A2.out).mono ?_); rintro e w' ⟨rfl, ⟨nd, rfl⟩⟩; refine ⟨_, rfl, ?_⟩))
  go_ret
  exact ⟨by first | rfl | (simp [errW_none, errW_some] <;> rfl) | (simp [*, errW_none, errW_some] <;> rfl), bwq HB⟩
end Go.Proofs.Ytcgbbhkjkkpfoaa.P
namespace Go.Proofs.Ytcgbbhkjkkpfoaa.P
open Go.RowKit Go.Proofs.YtcgbbhkjkkpfoaaW.PrintWords Go.Proofs.YtcgbbhkjkkpfoaaW.PrintLast Go.Proofs.YtcgbbhkjkkpfoaaW.PrintMore Lcm Lcm.G
section
variable {g : G} {p : List Stp} {w : World} {b : Nat} {A0 A1 A2 A3 A4 : Option Addr} {c0 c1 c2 c3 c4 : Nat}
theorem h_down11 (hf : Fit g p) (hs : Std g p w b A0 A1 A2 A3 A4 c0 c1 c2 c3 c4) {hn : Nat} {An : Option Addr} {cn : Nat} {ln : List Bool} (bn : w.heap[hn]? = some (.cells #[.slice An p.length cn] 29 (0, 0))) (kn : Kd.C Kd.bool w An p.length ln) (i : Nat) (hi : i < p.length) :
  Calls Try.prog 98 #[.int .i64 (i : Int), .pointer (some ⟨hn, 0, none⟩)] w fun e w' => e = .returned (.bool (yes (on ln i))) ∧ Below w.heap.size w w' := by
 obtain ⟨an, rn, rfl, zn, qn⟩ := at_b kn i hi
 rw [yes_eq (r := rn) (by simp [← qn])]
 have yn := blk_cell bn
 clear hs hf bn qn
 cases rn <;> (go_enter Try.func98, Try.ntmps98; go_wp2; go_ret; exact ⟨rfl, Below.refl _ _⟩)
theorem h_up11 (hf : Fit g p) (hs : Std g p w b A0 A1 A2 A3 A4 c0 c1 c2 c3 c4) {hx : Nat} (bx : w.heap[hx]? = some (.cells #[.pointer (some ⟨b, 0, none⟩)] 68 (0, 0))) {hn : Nat} {An : Option Addr} {cn : Nat} {ln : List Bool} (bn : w.heap[hn]? = some (.cells #[.slice An p.length cn] 29 (0, 0))) (kn : Kd.C Kd.bool w An p.length ln) (i : Nat) (hi : i < p.length) :
  Calls Try.prog 100 #[.int .i64 (i : Int), .pointer (some ⟨hx, 0, none⟩), .pointer (some ⟨hn, 0, none⟩)] w fun e w' => e = .returned (.bool (yes (g.keeps i ∧ (g.comp i ∨ on ln i)))) ∧ Below w.heap.size w w' := by
 obtain ⟨akeeps, rkeeps, rfl, zkeeps, qkeeps⟩ := at_bl hs.keeps i hi
 obtain ⟨acomp, rcomp, rfl, zcomp, qcomp⟩ := at_bl hs.comp i hi
 obtain ⟨an, rn, rfl, zn, qn⟩ := at_b kn i hi
 rw [yes_eq (r := rkeeps && (rcomp || rn)) (by simp [← qkeeps, ← qcomp, ← qn])]
 have hu := Try.underlying74
 have zb := blk_cell hs.blk
 have yx := blk_cell bx
 have yn := blk_cell bn
 clear hs hf bx bn qkeeps qcomp qn
 cases rkeeps <;> cases rcomp <;> cases rn <;> (go_enter Try.func100, Try.ntmps100; go_wp2; go_ret; exact ⟨rfl, Below.refl _ _⟩)
theorem h_held11 (hf : Fit g p) (hs : Std g p w b A0 A1 A2 A3 A4 c0 c1 c2 c3 c4) {hx : Nat} (bx : w.heap[hx]? = some (.cells #[.pointer (some ⟨b, 0, none⟩)] 68 (0, 0))) {hn : Nat} {An : Option Addr} {cn : Nat} {ln : List Bool} (bn : w.heap[hn]? = some (.cells #[.slice An p.length cn] 29 (0, 0))) (kn : Kd.C Kd.bool w An p.length ln) (i : Nat) (hi : i < p.length) :
  Calls Try.prog 102 #[.int .i64 (i : Int), .pointer (some ⟨hx, 0, none⟩), .pointer (some ⟨hn, 0, none⟩)] w fun e w' => e = .returned (.bool (yes (g.keeps i ∧ on ln i))) ∧ Below w.heap.size w w' := by
 obtain ⟨akeeps, rkeeps, rfl, zkeeps, qkeeps⟩ := at_bl hs.keeps i hi
 obtain ⟨an, rn, rfl, zn, qn⟩ := at_b kn i hi
 rw [yes_eq (r := rkeeps && rn) (by simp [← qkeeps, ← qn])]
 have hu := Try.underlying74
 have zb := blk_cell hs.blk
 have yx := blk_cell bx
 have yn := blk_cell bn
 clear hs hf bx bn qkeeps qn
 cases rkeeps <;> cases rn <;> (go_enter Try.func102, Try.ntmps102; go_wp2; go_ret; exact ⟨rfl, Below.refl _ _⟩)
end
section
variable {g : G} {p : List Stp} {w : World} {b : Nat} {A0 A1 A2 A3 A4 : Option Addr} {c0 c1 c2 c3 c4 : Nat}
theorem pred_all (hf : Fit g p) (i : Nat) (Q : Nat → Prop) : (∀ u, u ∈ preds g p.length i → Q u) ↔ ∀ u, g.Pred u i → Q u :=
 ⟨fun h u hu => h u (mem_preds.2 ⟨hf.reach u hu.1, hu⟩), fun h u hu => h u (mem_preds.1 hu).2⟩
theorem h_down1 (hf : Fit g p) (hs : Std g p w b A0 A1 A2 A3 A4 c0 c1 c2 c3 c4) {hx : Nat} (bx : w.heap[hx]? = some (.cells #[.pointer (some ⟨b, 0, none⟩)] 68 (0, 0))) (i : Nat) (hi : i < p.length) (An : Option Addr) (cn : Nat) (ln : List Bool) (hn : ln.length = p.length) (kn : Kd.C Kd.bool w An p.length ln) :
  Calls Try.prog 96 #[.int .i64 (i : Int), .slice An p.length cn, .pointer (some ⟨hx, 0, none⟩)] w fun e w' => e = .returned (.bool (yes (g.DownF (on ln) i))) ∧ Below w.heap.size w w' := by
 obtain ⟨acomp, rcomp, rfl, zcomp, qcomp⟩ := at_bl hs.comp i hi
 obtain ⟨akeeps, rkeeps, rfl, zkeeps, qkeeps⟩ := at_bl hs.keeps i hi
 obtain ⟨aL, AL, cL, rfl, zL, kL⟩ := at_next hf hs.steps i hi
 have HA : Aside0 (∀ h w1, Below w.heap.size w w1 → w1.heap[h]? = some (.cells #[.slice An p.length cn] 29 (0, 0)) → Calls Try.prog 97 #[.slice AL (g.next i).length cL, .func (.func 98) #[] #[.pointer (some ⟨h, 0, none⟩)]] w1 fun e w' => e = .returned (.bool (yes (∀ k, k ∈ (g.next i) → on ln k))) ∧ Below w1.heap.size w1 w') :=
  ⟨fun h w1 hb hh => all_calls _ _ AL cL _ w1 (Kd.C_below kL hb) (Nat.le_trans (hf.two i hi) (by decide)) fun w2 hb2 k hk => ⟨_, _, _, rfl, Try.func98, by kernel_rfl, rfl, h_down11 hf ((hs.below hb).below hb2) (blk_below hh hb2) (Kd.C_below (Kd.C_below kn hb) hb2) k (hf.lt i hi k hk)⟩⟩
 have qA := yes_iff (P := ∀ k, k ∈ (g.next i) → on ln k)
 generalize yes (∀ k, k ∈ (g.next i) → on ln k) = rA at HA qA
 have hF : g.DownF (on ln) i ↔ g.comp i ∨ g.keeps i ∧ 0 < (g.next i).length ∧ ∀ k, k ∈ g.next i → on ln k := by unfold G.DownF; rw [List.length_pos_iff]
 obtain ⟨rp, e1, e2, qp⟩ : ∃ rp : Bool, decide (0 < (g.next i).length) = rp ∧ decide ((0 : Int) < ((g.next i).length : Int)) = rp ∧ (rp = true ↔ 0 < (g.next i).length) := ⟨_, rfl, by simp, by simp⟩
 try rw [yes_eq (r := rcomp || (rkeeps && (rp && rA))) (by rw [hF]; simp [← qcomp, ← qkeeps, ← qA, ← qp])]
 have hmf : ∀ (fn : Fn) (first cap : Array Value) (w : World), (Instr.makeFunc fn first cap).run Try.prog w = .ok (.func fn first cap) w := fun _ _ _ _ => rfl
 have hu := Try.underlying74
 have hu2 := Try.underlying38
 have hu3 := Try.underlying77
 have HS := Aside0.mk hs.blk
 have Bx := Aside0.mk bx
 have HB := Aside0.mk (Fr.new w)
 clear hs hf hF kL kn qA bx qcomp qkeeps qp
 cases rcomp <;> cases rkeeps <;> cases rp <;> (go_enter Try.func96, Try.ntmps96; go_wp2_with (first | ((with_reducible refine gate_dst (N := 4) rfl ?_); refine fr_box HB (N := 4) rfl rfl (cs := #[.slice An p.length cn]) (t := 29) ?hr ?_; (case hr => first | (go_simp; done) | (go_simp; rfl)); intro h w1 _ HB; have zcomp := pw_cell_below HB.out.below zcomp; have zkeeps := pw_cell_below HB.out.below zkeeps; have zL := pw_cell_below HB.out.below zL; have zb := blk_cell (blk_below HS.out HB.out.below); have yx := blk_cell (blk_below Bx.out HB.out.below)) | ((with_reducible refine gate_callee (f := 97) rfl ?_); (try (refine gate_guard (by rfl) ?_; dsimp only)); refine goesM (some 39) rfl rfl Try.func97 #[.slice AL (g.next i).length cL, .func (.func 98) #[] #[.pointer (some ⟨h, 0, none⟩)]] rfl ?_; refine (HA.out h _ HB.out.below (HB.out.blk 0 rfl)).mono ?_; rintro e w2 ⟨rfl, hb⟩; refine ⟨_, rfl, ?_⟩; have HB2 := Aside0.mk (HB.out.step hb); clear hb)); go_ret; first | exact ⟨rfl, HB2.out.below⟩ | exact ⟨rfl, HB.out.below⟩)
theorem h_up1 (hf : Fit g p) (hs : Std g p w b A0 A1 A2 A3 A4 c0 c1 c2 c3 c4) {hx : Nat} (bx : w.heap[hx]? = some (.cells #[.pointer (some ⟨b, 0, none⟩)] 68 (0, 0))) (i : Nat) (hi : i < p.length) (An : Option Addr) (cn : Nat) (ln : List Bool) (hn : ln.length = p.length) (kn : Kd.C Kd.bool w An p.length ln) :
  Calls Try.prog 99 #[.int .i64 (i : Int), .slice An p.length cn, .pointer (some ⟨hx, 0, none⟩)] w fun e w' => e = .returned (.bool (yes (g.UpF (on ln) i))) ∧ Below w.heap.size w w' := by
 obtain ⟨aL, AL, cL, rfl, zL, kL⟩ := at_pred hs.preds i hi
 have HA : Aside0 (∀ h w1, Below w.heap.size w w1 → w1.heap[h]? = some (.cells #[.slice An p.length cn] 29 (0, 0)) → Calls Try.prog 97 #[.slice AL (preds g p.length i).length cL, .func (.func 100) #[] #[.pointer (some ⟨hx, 0, none⟩), .pointer (some ⟨h, 0, none⟩)]] w1 fun e w' => e = .returned (.bool (yes (∀ k, k ∈ (preds g p.length i) → g.keeps k ∧ (g.comp k ∨ on ln k)))) ∧ Below w1.heap.size w1 w') :=
  ⟨fun h w1 hb hh => all_calls _ _ AL cL _ w1 (Kd.C_below kL hb) (Nat.le_trans (preds_len g p.length i) (Nat.le_trans hf.few (by decide))) fun w2 hb2 k hk => ⟨_, _, _, rfl, Try.func100, by kernel_rfl, rfl, h_up11 hf ((hs.below hb).below hb2) (blk_below (blk_below bx hb) hb2) (blk_below hh hb2) (Kd.C_below (Kd.C_below kn hb) hb2) k ((mem_preds.1 hk).1)⟩⟩
 have qA := yes_iff (P := ∀ k, k ∈ (preds g p.length i) → g.keeps k ∧ (g.comp k ∨ on ln k))
 generalize yes (∀ k, k ∈ (preds g p.length i) → g.keeps k ∧ (g.comp k ∨ on ln k)) = rA at HA qA
 have hF : g.UpF (on ln) i ↔ 0 < i ∧ ∀ u, u ∈ preds g p.length i → g.keeps u ∧ (g.comp u ∨ on ln u) := by rw [pred_all hf]; rfl
 obtain ⟨rp, e1, e2, qp⟩ : ∃ rp : Bool, decide (0 < i) = rp ∧ decide ((0 : Int) < (i : Int)) = rp ∧ (rp = true ↔ 0 < i) := ⟨_, rfl, by simp, by simp⟩
 try rw [yes_eq (r := rp && rA) (by rw [hF]; simp [← qA, ← qp])]
 have hmf : ∀ (fn : Fn) (first cap : Array Value) (w : World), (Instr.makeFunc fn first cap).run Try.prog w = .ok (.func fn first cap) w := fun _ _ _ _ => rfl
 have hu := Try.underlying74
 have hu2 := Try.underlying38
 have hu3 := Try.underlying77
 have HS := Aside0.mk hs.blk
 have Bx := Aside0.mk bx
 have HB := Aside0.mk (Fr.new w)
 clear hs hf hF kL kn qA bx  qp
 cases rp <;> (go_enter Try.func99, Try.ntmps99; go_wp2_with (first | ((with_reducible refine gate_dst (N := 4) rfl ?_); refine fr_box HB (N := 4) rfl rfl (cs := #[.slice An p.length cn]) (t := 29) ?hr ?_; (case hr => first | (go_simp; done) | (go_simp; rfl)); intro h w1 _ HB; have zL := pw_cell_below HB.out.below zL; have zb := blk_cell (blk_below HS.out HB.out.below); have yx := blk_cell (blk_below Bx.out HB.out.below)) | ((with_reducible refine gate_callee (f := 97) rfl ?_); (try (refine gate_guard (by rfl) ?_; dsimp only)); refine goesM (some 17) rfl rfl Try.func97 #[.slice AL (preds g p.length i).length cL, .func (.func 100) #[] #[.pointer (some ⟨hx, 0, none⟩), .pointer (some ⟨h, 0, none⟩)]] rfl ?_; refine (HA.out h _ HB.out.below (HB.out.blk 0 rfl)).mono ?_; rintro e w2 ⟨rfl, hb⟩; refine ⟨_, rfl, ?_⟩; have HB2 := Aside0.mk (HB.out.step hb); clear hb)); go_ret; first | exact ⟨rfl, HB2.out.below⟩ | exact ⟨rfl, HB.out.below⟩)
theorem h_held1 (hf : Fit g p) (hs : Std g p w b A0 A1 A2 A3 A4 c0 c1 c2 c3 c4) {hP : Nat} {AP Aq : Option Addr} {cP cq : Nat} {lP : List Bool} (bP : w.heap[hP]? = some (.cells #[.slice AP p.length cP, .slice Aq p.length cq] 44 (0, 0))) (kP : Kd.C Kd.bool w AP p.length lP) {hx : Nat} (bx : w.heap[hx]? = some (.cells #[.pointer (some ⟨b, 0, none⟩)] 68 (0, 0))) (i : Nat) (hi : i < p.length) (An : Option Addr) (cn : Nat) (ln : List Bool) (hn : ln.length = p.length) (kn : Kd.C Kd.bool w An p.length ln) :
  Calls Try.prog 101 #[.int .i64 (i : Int), .slice An p.length cn, .pointer (some ⟨hP, 0, none⟩), .pointer (some ⟨hx, 0, none⟩)] w fun e w' => e = .returned (.bool (yes ((g.HeldF (on lP)) (on ln) i))) ∧ Below w.heap.size w w' := by
 obtain ⟨aP, rP, rfl, zP, qP⟩ := at_b kP i hi
 obtain ⟨aL, AL, cL, rfl, zL, kL⟩ := at_pred hs.preds i hi
 have HA : Aside0 (∀ h w1, Below w.heap.size w w1 → w1.heap[h]? = some (.cells #[.slice An p.length cn] 29 (0, 0)) → Calls Try.prog 97 #[.slice AL (preds g p.length i).length cL, .func (.func 102) #[] #[.pointer (some ⟨hx, 0, none⟩), .pointer (some ⟨h, 0, none⟩)]] w1 fun e w' => e = .returned (.bool (yes (∀ k, k ∈ (preds g p.length i) → g.keeps k ∧ on ln k))) ∧ Below w1.heap.size w1 w') :=
  ⟨fun h w1 hb hh => all_calls _ _ AL cL _ w1 (Kd.C_below kL hb) (Nat.le_trans (preds_len g p.length i) (Nat.le_trans hf.few (by decide))) fun w2 hb2 k hk => ⟨_, _, _, rfl, Try.func102, by kernel_rfl, rfl, h_held11 hf ((hs.below hb).below hb2) (blk_below (blk_below bx hb) hb2) (blk_below hh hb2) (Kd.C_below (Kd.C_below kn hb) hb2) k ((mem_preds.1 hk).1)⟩⟩
 have qA := yes_iff (P := ∀ k, k ∈ (preds g p.length i) → g.keeps k ∧ on ln k)
 generalize yes (∀ k, k ∈ (preds g p.length i) → g.keeps k ∧ on ln k) = rA at HA qA
 have hF : (g.HeldF (on lP)) (on ln) i ↔ on lP i ∨ 0 < i ∧ ∀ u, u ∈ preds g p.length i → g.keeps u ∧ on ln u := by rw [pred_all hf]; rfl
 obtain ⟨rp, e1, e2, qp⟩ : ∃ rp : Bool, decide (0 < i) = rp ∧ decide ((0 : Int) < (i : Int)) = rp ∧ (rp = true ↔ 0 < i) := ⟨_, rfl, by simp, by simp⟩
 try rw [yes_eq (r := rP || (rp && rA)) (by rw [hF]; simp [← qP, ← qA, ← qp])]
 have hmf : ∀ (fn : Fn) (first cap : Array Value) (w : World), (Instr.makeFunc fn first cap).run Try.prog w = .ok (.func fn first cap) w := fun _ _ _ _ => rfl
 have hu := Try.underlying74
 have hu2 := Try.underlying38
 have hu3 := Try.underlying77
 have hu4 := Try.underlying44
 have HS := Aside0.mk hs.blk
 have BP := Aside0.mk bP
 have Bx := Aside0.mk bx
 have HB := Aside0.mk (Fr.new w)
 clear hs hf hF kL kn qA bP bx qP qp
 cases rP <;> cases rp <;> (go_enter Try.func101, Try.ntmps101; go_wp2_with (first | ((with_reducible refine gate_dst (N := 5) rfl ?_); refine fr_box HB (N := 5) rfl rfl (cs := #[.slice An p.length cn]) (t := 29) ?hr ?_; (case hr => first | (go_simp; done) | (go_simp; rfl)); intro h w1 _ HB; have zP := pw_cell_below HB.out.below zP; have zL := pw_cell_below HB.out.below zL; have zb := blk_cell (blk_below HS.out HB.out.below); have yP := blk_cell (blk_below BP.out HB.out.below); have yx := blk_cell (blk_below Bx.out HB.out.below)) | ((with_reducible refine gate_callee (f := 97) rfl ?_); (try (refine gate_guard (by rfl) ?_; dsimp only)); refine goesM (some 24) rfl rfl Try.func97 #[.slice AL (preds g p.length i).length cL, .func (.func 102) #[] #[.pointer (some ⟨hx, 0, none⟩), .pointer (some ⟨h, 0, none⟩)]] rfl ?_; refine (HA.out h _ HB.out.below (HB.out.blk 0 rfl)).mono ?_; rintro e w2 ⟨rfl, hb⟩; refine ⟨_, rfl, ?_⟩; have HB2 := Aside0.mk (HB.out.step hb); clear hb)); go_ret; first | exact ⟨rfl, HB2.out.below⟩ | exact ⟨rfl, HB.out.below⟩)
end
end Go.Proofs.Ytcgbbhkjkkpfoaa.P
