/- FnExactPathOf: for every argument the law returns true, and each argument reads behind the call as it read before; no condition. Part 5 of 5: written together by a program out of the session's texts and what the print wrote. -/
import Derived.Deep.RegionHeld3
import Derived.Deep.Matrix
import Derived.Test.YtodgfmmoaabhhaaRows
import Derived.WalkKit
import Derived.ProofKit
import Derived.OpenShut
import Derived.ShutString
import Derived.ChangeOld
import Derived.Below
import Derived.SizedLaws
import Derived.Test.YtodgfmmoaabhhaaCFnExactPathOfa3
namespace Go.Proofs.Ytodgfmmoaabhhaa.P
open Go.RowKit Go.Proofs.YtodgfmmoaabhhaaW.PrintWords Go.Proofs.YtodgfmmoaabhhaaW.PrintLast Go.Proofs.YtodgfmmoaabhhaaW.PrintMore
set_option linter.unusedVariables false
set_option linter.unusedSimpArgs false
set_option maxHeartbeats 16000000 in
set_option maxRecDepth 100000 in
theorem xPathOf_long (A0 A1 : Option Addr) (c0 c1 : Nat) (l0 : List LStp) (l1 : List Bool) (w : World) (hl : 1048576 < l1.length) :
  Calls Try.prog 5 #[.agg #[.slice A0 l0.length c0], .slice A1 l1.length c1] w fun e w' => e = .returned (.bool true) ∧ Below w.heap.size w w' := by
 have hu1 := Try.underlying24
 have HB := Aside0.mk (Below.refl w.heap.size w)
 have zl : decide ((1048576 : Int) < (l1.length : Int)) = true := decide_eq_true (by omega)
 clear hl
 go_enter Try.func5, Try.ntmps5
 go_wp2_with (first | ((with_reducible refine gate_dst (N := 2) rfl ?_); refine box_event ?hg (N := 2) ?hd (cs := #[.slice A0 l0.length c0]) (t := 24) ?hr ?_; (case hd => rfl); (case hg => rfl); (case hr => first | (go_simp; done) | (go_simp; rfl)); intro g hg_g wq hbox hb; have hkp_ := Kept.of_below hb (fun _ => False); have sz_ := hkp_.1; have n_ := Aside0.mk (below_step HB.out hb); clear HB; have HB := n_; clear n_ hkp_; have BKg := Aside0.mk hbox; have gw_g := Nat.le_of_eq hg_g.symm; have gl_g := blk_lt hbox; clear hbox hb hg_g; have zg_0 := blkC1 BKg.out; have yg_0 := blk_frozen BKg.out 0))
 go_ret
 exact ⟨rfl, HB.out⟩
set_option maxHeartbeats 16000000 in
set_option maxRecDepth 100000 in
theorem xPathOf_many (A0 A1 : Option Addr) (c0 c1 : Nat) (l0 : List LStp) (l1 : List Bool) (w : World) (hr : Kd.C k82 w A0 l0.length l0) (hc : l0.length ≤ c0) (hl : l1.length ≤ 1048576) (K : Nat) (z : Int) (hz : laws_szProg.f K l0 1048576 = some z) (hz0 : z < 0) :
  Calls Try.prog 5 #[.agg #[.slice A0 l0.length c0], .slice A1 l1.length c1] w fun e w' => e = .returned (.bool true) ∧ Below w.heap.size w w' := by
 have hu1 := Try.underlying24
 have hu2 := Try.underlying30
 have HR := Aside0.mk hr
 have HC := Aside0.mk hc
 have HB := Aside0.mk (Below.refl w.heap.size w)
 clear hr hc
 have HZ := Aside0.mk hz
 have zl : decide ((1048576 : Int) < (l1.length : Int)) = false := decide_eq_false (by omega)
 have zb : decide (z < 0) = true := decide_eq_true hz0
 clear hl hz hz0
 go_enter Try.func5, Try.ntmps5
 go_wp2_with (first | ((with_reducible refine gate_dst (N := 2) rfl ?_); refine box_event ?hg (N := 2) ?hd (cs := #[.slice A0 l0.length c0]) (t := 24) ?hr ?_; (case hd => rfl); (case hg => rfl); (case hr => first | (go_simp; done) | (go_simp; rfl)); intro g hg_g wq hbox hb; have hkp_ := Kept.of_below hb (fun _ => False); have sz_ := hkp_.1; have n_ := Aside0.mk (below_step HB.out hb); clear HB; have HB := n_; clear n_ hkp_; have BKg := Aside0.mk hbox; have gw_g := Nat.le_of_eq hg_g.symm; have gl_g := blk_lt hbox; clear hbox hb hg_g; have zg_0 := blkC1 BKg.out; have yg_0 := blk_frozen BKg.out 0) | ((with_reducible refine gate_callee (f := 7) rfl ?_); refine goesL_ (some 22) rfl rfl Try.func7 (by kernel_rfl) rfl #[.agg #[.slice A0 l0.length c0], .int .i64 1048576] rfl (by (try simp only [List.map_toArray, List.map_cons, List.map_nil]); first | done | rfl) ?_; refine (laws_szProg.calls K A0 c0 l0 1048576 z _ (Kd.C_below HR.out HB.out) HC.out HZ.out).mono ?_; rintro e wq ⟨rfl, hb⟩; refine ⟨_, rfl, ?_⟩; have hkp_ := Kept.of_below hb (fun _ => False); have sz_ := hkp_.1; have n_ := Aside0.mk (blk_kept BKg.out hkp_ (fun p_ => p_)); clear BKg; have BKg := n_; clear n_; have n_ := Aside0.mk (below_step HB.out hb); clear HB; have HB := n_; clear n_ hkp_; skip; (try clear hb); have zg_0 := blkC1 BKg.out))
 go_ret
 exact ⟨rfl, HB.out⟩
theorem heldInts_len (k : Nat) (A : Option Addr) (c : Nat) (l : List Int) (a r : Int) (w : World) (n : Nat) (hn : n = l.length) (h1 : n = l.length ∧ n ≤ c ∧ (Kd.int .i64).C w A l.length l) (h : laws_heldIntS.f k l a = some r) :
  Calls Try.prog 27 #[.slice A n c, .int .i64 a] w fun e w' => e = .returned (.int .i64 r) ∧ Drawn0 w w' := by
 subst hn
 exact laws_heldIntS.calls k A c l a r w h1.2.2 h1.2.1 h
set_option maxHeartbeats 16000000 in
set_option maxRecDepth 100000 in
theorem xPathOf_calls (A0 A1 : Option Addr) (c0 c1 : Nat) (l0 : List LStp) (l1 : List Bool) (w : World) (hr : Kd.C k82 w A0 l0.length l0) (hc : l0.length ≤ c0) (hr1 : Kd.C Kd.bool w A1 l1.length l1) (hc1 : l1.length ≤ c1) (hl : l1.length ≤ 1048576)
  (K : Nat) (z : Int) (hz : laws_szProg.f K l0 1048576 = some z) (hz0 : 0 ≤ z) (p : List Stp) (hp : laws_toProg.f K l0 = some p) (ht : laws_toBoolS.f K l1 = some l1) (q1 : List Int) (q2 : Bool) (hs : spec_PathOf.f K p l1 = some (q1, q2)) (hi : impl_PathOf.f K p l1 = some (q1, q2)) (he1 : laws_eqIntS.f K q1 q1 = some true) (he2 : laws_eqBoolS.f K l1 l1 = some true) (he3 : laws_eqProg.f K p p = some true) (hpl : p.length ≤ 1048576) (hpf : ∀ s, s ∈ p → s.f5.length ≤ 1048576)
  (k2 : Int) (l1m : List Bool) (hm1 : laws_markBoolS.f K l1 (markE p 1) = some (k2, l1m)) (hk2 : 0 ≤ k2) (m1 : Int) (q1m : List Int) (hm2 : laws_markIntS.f K q1 1 = some (m1, q1m)) (hq : q1.length = q1m.length) (hh : laws_heldIntS.f K q1m 1 = some m1) (hm0 : 0 ≤ m1) :
  Calls Try.prog 5 #[.agg #[.slice A0 l0.length c0], .slice A1 l1.length c1] w fun e w' => e = .returned (.bool true) ∧ Below w.heap.size w w' := by
 have hu1 := Try.underlying24
 have hu2 := Try.underlying30
 have HR := Aside0.mk hr
 have HC := Aside0.mk hc
 have HR1 := Aside0.mk hr1
 have HC1 := Aside0.mk hc1
 have HB := Aside0.mk (Below.refl w.heap.size w)
 have zl : decide ((1048576 : Int) < (l1.length : Int)) = false := decide_eq_false (by omega)
 have zb : decide (z < 0) = false := decide_eq_false (by omega)
 have HZ := Aside0.mk hz
 have HP := Aside0.mk hp
 have HT := Aside0.mk ht
 have HS := Aside0.mk hs
 have HI := Aside0.mk hi
 have HE1 := Aside0.mk he1
 have HE2 := Aside0.mk he2
 have HE3 := Aside0.mk he3
 have HPL := Aside0.mk hpl
 have HPF := Aside0.mk hpf
 have HM1 := Aside0.mk hm1
 have HM2 := Aside0.mk hm2
 have HH := Aside0.mk hh
 have HQ := Aside0.mk hq
 have zk : decide (k2 < 0) = false := decide_eq_false (by omega)
 have zm : decide (m1 < 0) = false := decide_eq_false (by omega)
 clear he1 he2 he3 hpl hpf hm1 hm2 hh hq hk2 hm0
 clear hr hc hr1 hc1 hl hz hp ht hs hi hz0
 go_enter Try.func5, Try.ntmps5
 go_upto_region 7 with (first | ((with_reducible refine gate_dst (N := 2) rfl ?_); refine box_event ?hg (N := 2) ?hd (cs := #[.slice A0 l0.length c0]) (t := 24) ?hr ?_; (case hd => rfl); (case hg => rfl); (case hr => first | (go_simp; done) | (go_simp; rfl)); intro g hg_g wq hbox hb; have hkp_ := Kept.of_below hb (fun _ => False); have sz_ := hkp_.1; have n_ := Aside0.mk (below_step HB.out hb); clear HB; have HB := n_; clear n_ hkp_; have BKg := Aside0.mk hbox; have gw_g := Nat.le_of_eq hg_g.symm; have gl_g := blk_lt hbox; clear hbox hb hg_g; have zg_0 := blkC1 BKg.out; have yg_0 := blk_frozen BKg.out 0) | ((with_reducible refine gate_callee (f := 7) rfl ?_); refine goesL_ (some 22) rfl rfl Try.func7 (by kernel_rfl) rfl #[.agg #[.slice A0 l0.length c0], .int .i64 1048576] rfl (by (try simp only [List.map_toArray, List.map_cons, List.map_nil]); first | done | rfl) ?_; refine (laws_szProg.calls K A0 c0 l0 1048576 z _ (Kd.C_below HR.out HB.out) HC.out HZ.out).mono ?_; rintro e wq ⟨rfl, hb⟩; refine ⟨_, rfl, ?_⟩; have hkp_ := Kept.of_below hb (fun _ => False); have sz_ := hkp_.1; have n_ := Aside0.mk (blk_kept BKg.out hkp_ (fun p_ => p_)); clear BKg; have BKg := n_; clear n_; have n_ := Aside0.mk (below_step HB.out hb); clear HB; have HB := n_; clear n_ hkp_; skip; (try clear hb); have zg_0 := blkC1 BKg.out))
 go_upto_region 8 with (first | ((with_reducible refine gate_callee (f := 9) rfl ?_); refine goesL_ (some 27) rfl rfl Try.func9 (by kernel_rfl) rfl #[.agg #[.slice A0 l0.length c0]] rfl (by (try simp only [List.map_toArray, List.map_cons, List.map_nil]); first | done | rfl) ?_; refine (laws_toProg.calls K A0 c0 l0 p _ (Kd.C_below HR.out HB.out) HC.out HP.out).mono ?_; rintro e wq ⟨v_, rfl, h_, hb⟩; refine ⟨_, rfl, ?_⟩; have hkp_ := Kept.of_below hb (fun _ => False); have sz_ := hkp_.1; have n_ := Aside0.mk (blk_kept BKg.out hkp_ (fun p_ => p_)); clear BKg; have BKg := n_; clear n_; have n_ := Aside0.mk (below_step HB.out hb); clear HB; have HB := n_; clear n_ hkp_; skip; have Ha := Aside0.mk (S_ages0 h_); obtain ⟨Aa, ca, rfl⟩ := Kd.S_slice h_; clear h_; (try clear hb); have zg_0 := blkC1 BKg.out) | ((with_reducible refine gate_callee (f := 22) rfl ?_); refine goesL_ (some 29) rfl rfl Try.func22 (by kernel_rfl) rfl #[.slice A1 l1.length c1] rfl (by (try simp only [List.map_toArray, List.map_cons, List.map_nil]); first | done | rfl) ?_; refine (laws_toBoolS.calls K A1 c1 l1 l1 _ (Kd.C_below HR1.out HB.out) HC1.out HT.out).mono ?_; rintro e wq ⟨v_, rfl, h_, hb⟩; refine ⟨_, rfl, ?_⟩; have hkp_ := Kept.of_below hb (fun _ => False); have sz_ := hkp_.1; have n_ := Aside0.mk (blk_kept BKg.out hkp_ (fun p_ => p_)); clear BKg; have BKg := n_; clear n_; have n_ := Aside0.mk (Kd.S_kept Ha.out hkp_ (fun k_ a_ p_ => p_)); clear Ha; have Ha := n_; clear n_; have n_ := Aside0.mk (below_step HB.out hb); clear HB; have HB := n_; clear n_ hkp_; skip; have Hb := Aside0.mk (R_ages0 h_); obtain ⟨Ab, cb, rfl⟩ := Kd.R_slice h_; clear h_; (try clear hb); have zg_0 := blkC1 BKg.out) | ((with_reducible refine gate_callee (f := 21) rfl ?_); refine goesL_ (some 30) rfl rfl Try.func21 (by kernel_rfl) rfl #[.agg #[.slice Aa p.length ca], .slice Ab l1.length cb] rfl (by (try simp only [List.map_toArray, List.map_cons, List.map_nil]); first | done | rfl) ?_; refine (spec_PathOf.calls K Aa ca p Ab cb l1 q1 q2 _ (Kd.S_reads' Ha.out).2.2 (Kd.S_reads' Ha.out).2.1 (Kd.R_reads' Hb.out).2.2 (Kd.R_reads' Hb.out).2.1 HS.out).mono ?_; rintro e wq ⟨v_, rfl, h_, hb⟩; refine ⟨_, rfl, ?_⟩; have hkp_ := Kept.of_below hb (fun _ => False); have sz_ := hkp_.1; have n_ := Aside0.mk (blk_kept BKg.out hkp_ (fun p_ => p_)); clear BKg; have BKg := n_; clear n_; have n_ := Aside0.mk (Kd.S_kept Ha.out hkp_ (fun k_ a_ p_ => p_)); clear Ha; have Ha := n_; clear n_; have n_ := Aside0.mk (Kd.R_kept Hb.out hkp_ (fun k_ a_ p_ => p_)); clear Hb; have Hb := n_; clear n_; have n_ := Aside0.mk (below_step HB.out hb); clear HB; have HB := n_; clear n_ hkp_; skip; have Hw := Aside0.mk (R_ages0 h_); obtain ⟨Aw, cw, rfl⟩ := Kd.R_slice h_; clear h_; (try clear hb); have zg_0 := blkC1 BKg.out))
 clear Ha Hb
 go_upto_region 9 with (first | ((with_reducible refine gate_callee (f := 9) rfl ?_); refine goesL_ (some 34) rfl rfl Try.func9 (by kernel_rfl) rfl #[.agg #[.slice A0 l0.length c0]] rfl (by (try simp only [List.map_toArray, List.map_cons, List.map_nil]); first | done | rfl) ?_; refine (laws_toProg.calls K A0 c0 l0 p _ (Kd.C_below HR.out HB.out) HC.out HP.out).mono ?_; rintro e wq ⟨v_, rfl, h_, hb⟩; refine ⟨_, rfl, ?_⟩; have hkp_ := Kept.of_below hb (fun _ => False); have sz_ := hkp_.1; have n_ := Aside0.mk (blk_kept BKg.out hkp_ (fun p_ => p_)); clear BKg; have BKg := n_; clear n_; have n_ := Aside0.mk (Kd.R_kept Hw.out hkp_ (fun k_ a_ p_ => p_)); clear Hw; have Hw := n_; clear n_; have n_ := Aside0.mk (below_step HB.out hb); clear HB; have HB := n_; clear n_ hkp_; skip; have Hx := Aside0.mk (S_ages0 h_); obtain ⟨Ax, cx, rfl⟩ := Kd.S_slice h_; clear h_; (try clear hb); have zg_0 := blkC1 BKg.out) | ((with_reducible refine gate_dst (N := 8) rfl ?_); refine box_event ?hg (N := 8) ?hd (cs := #[.slice none 0 0]) (t := 30) ?hr ?_; (case hd => rfl); (case hg => rfl); (case hr => first | (go_simp; done) | (go_simp; rfl)); intro g8 hg_g8 wq hbox hb; have hkp_ := Kept.of_below hb (fun _ => False); have sz_ := hkp_.1; have n_ := Aside0.mk (blk_kept BKg.out hkp_ (fun p_ => p_)); clear BKg; have BKg := n_; clear n_; have n_ := Aside0.mk (Kd.R_kept Hw.out hkp_ (fun k_ a_ p_ => p_)); clear Hw; have Hw := n_; clear n_; have n_ := Aside0.mk (Kd.S_kept Hx.out hkp_ (fun k_ a_ p_ => p_)); clear Hx; have Hx := n_; clear n_; have n_ := Aside0.mk (below_step HB.out hb); clear HB; have HB := n_; clear n_ hkp_; have BKg8 := Aside0.mk hbox; have gw_g8 := Nat.le_of_eq hg_g8.symm; have gl_g8 := blk_lt hbox; clear hbox hb hg_g8; have zg_0 := blkC1 BKg.out; have zg8_0 := blkC1 BKg8.out; have yg8_0 := blk_frozen BKg8.out 0) | ((with_reducible refine gate_store (t := 30) (p := 8) rfl ?_); refine store_event (t := 30) (p := 8) (v := ?vo) (w1 := wq.setCell ⟨g8, 0, none⟩ (.slice Ax p.length cx)) ?hg ?ho ?hn ?hr ?_; (case ho => rfl); (case hg => rfl); (case hn => rfl); (case hr => first | (go_simp; done) | (go_simp; rfl)); intro wz hw_; have nb_ := Aside0.mk (show wz.heap[g8]? = some (.cells #[(.slice Ax p.length cx)] 30 (0, 0)) from by rw [hw_]; exact blk_set BKg8.out 0 _); clear yg8_0; have hkp_ := (by rw [hw_]; exact Kept.setCell (Kept.refl _ (fun k_ => k_ = g8)) (.inl rfl) _ : Kept _ wz (fun k_ => k_ = g8)); have sz_ := hkp_.1; have n_ := Aside0.mk (blk_kept BKg.out hkp_ (fun p_ => by omega)); clear BKg; have BKg := n_; clear n_; have n_ := Aside0.mk (Kd.R_kept Hw.out hkp_ (fun k_ a_ p_ => by unfold Ages0 at a_; omega)); clear Hw; have Hw := n_; clear n_; have n_ := Aside0.mk (Kd.S_kept Hx.out hkp_ (fun k_ a_ p_ => by unfold Ages0 at a_; omega)); clear Hx; have Hx := n_; clear n_; have n_ := Aside0.mk (show Below w.heap.size w wz from by rw [hw_]; exact below_set HB.out (by omega)); clear HB; have HB := n_; clear n_ hkp_; clear BKg8; have BKg8 := nb_; clear nb_ hw_; have zg_0 := blkC1 BKg.out; have zg8_0 := blkC1 BKg8.out))
 go_upto_region 10 with (first | ((with_reducible refine gate_callee (f := 22) rfl ?_); refine goesL_ (some 36) rfl rfl Try.func22 (by kernel_rfl) rfl #[.slice A1 l1.length c1] rfl (by (try simp only [List.map_toArray, List.map_cons, List.map_nil]); first | done | rfl) ?_; refine (laws_toBoolS.calls K A1 c1 l1 l1 _ (Kd.C_below HR1.out HB.out) HC1.out HT.out).mono ?_; rintro e wq ⟨v_, rfl, h_, hb⟩; refine ⟨_, rfl, ?_⟩; have hkp_ := Kept.of_below hb (fun _ => False); have sz_ := hkp_.1; have n_ := Aside0.mk (blk_kept BKg.out hkp_ (fun p_ => p_)); clear BKg; have BKg := n_; clear n_; have n_ := Aside0.mk (blk_kept BKg8.out hkp_ (fun p_ => p_)); clear BKg8; have BKg8 := n_; clear n_; have n_ := Aside0.mk (Kd.R_kept Hw.out hkp_ (fun k_ a_ p_ => p_)); clear Hw; have Hw := n_; clear n_; have n_ := Aside0.mk (Kd.S_kept Hx.out hkp_ (fun k_ a_ p_ => p_)); clear Hx; have Hx := n_; clear n_; have n_ := Aside0.mk (below_step HB.out hb); clear HB; have HB := n_; clear n_ hkp_; skip; have Hy := Aside0.mk (R_ages0 h_); obtain ⟨Ay, cy, rfl⟩ := Kd.R_slice h_; clear h_; (try clear hb); have zg_0 := blkC1 BKg.out; have zg8_0 := blkC1 BKg8.out))
 go_upto_region 11 with (first | ((with_reducible refine gate_callee (f := 23) rfl ?_); refine goesL_ (some 40) rfl rfl Try.func23 (by kernel_rfl) rfl #[.agg #[.slice Ax p.length cx], .slice Ay l1.length cy] rfl (by (try simp only [List.map_toArray, List.map_cons, List.map_nil]); first | done | rfl) ?_; refine (impl_PathOf.calls K Ax cx p (fun _ => True) Ay cy l1 q1 q2 _ (Kd.S_reads' Hx.out).2.2 (Kd.S_reads' Hx.out).2.1 (Kd.V_mono (Kd.R_V Hy.out) (fun _ _ => trivial)) HI.out).mono ?_; rintro e wq ⟨v_, rfl, h_, hb⟩; refine ⟨_, rfl, ?_⟩; have hkp_ := Kept.of_below hb (fun _ => False); have sz_ := hkp_.1; have n_ := Aside0.mk (blk_kept BKg.out hkp_ (fun p_ => p_)); clear BKg; have BKg := n_; clear n_; have n_ := Aside0.mk (blk_kept BKg8.out hkp_ (fun p_ => p_)); clear BKg8; have BKg8 := n_; clear n_; have n_ := Aside0.mk (Kd.R_kept Hw.out hkp_ (fun k_ a_ p_ => p_)); clear Hw; have Hw := n_; clear n_; have n_ := Aside0.mk (Kd.S_kept Hx.out hkp_ (fun k_ a_ p_ => p_)); clear Hx; have Hx := n_; clear n_; have n_ := Aside0.mk (Kd.R_kept Hy.out hkp_ (fun k_ a_ p_ => p_)); clear Hy; have Hy := n_; clear n_; have n_ := Aside0.mk (below_step HB.out hb); clear HB; have HB := n_; clear n_ hkp_; skip; have Hg := Aside0.mk (R_ages0 h_); obtain ⟨Ag, cg, rfl⟩ := Kd.R_slice h_; clear h_; (try clear hb); have zg_0 := blkC1 BKg.out; have zg8_0 := blkC1 BKg8.out))
 go_upto_region 13 with (first | ((with_reducible refine gate_callee (f := 13) rfl ?_); refine goesL_ (some 45) rfl rfl Try.func13 (by kernel_rfl) rfl #[.slice Ag q1.length cg, .slice Aw q1.length cw] rfl (by (try simp only [List.map_toArray, List.map_cons, List.map_nil]); first | done | rfl) ?_; refine (laws_eqIntS.calls K Ag cg q1 Aw cw q1 true _ (Kd.R_reads' Hg.out).2.2 (Kd.R_reads' Hg.out).2.1 (Kd.R_reads' Hw.out).2.2 (Kd.R_reads' Hw.out).2.1 HE1.out).mono ?_; rintro e wq ⟨rfl, hd_⟩; have hb := drawn_below hd_; clear hd_; refine ⟨_, rfl, ?_⟩; have hkp_ := Kept.of_below hb (fun _ => False); have sz_ := hkp_.1; have n_ := Aside0.mk (blk_kept BKg.out hkp_ (fun p_ => p_)); clear BKg; have BKg := n_; clear n_; have n_ := Aside0.mk (blk_kept BKg8.out hkp_ (fun p_ => p_)); clear BKg8; have BKg8 := n_; clear n_; have n_ := Aside0.mk (Kd.R_kept Hw.out hkp_ (fun k_ a_ p_ => p_)); clear Hw; have Hw := n_; clear n_; have n_ := Aside0.mk (Kd.S_kept Hx.out hkp_ (fun k_ a_ p_ => p_)); clear Hx; have Hx := n_; clear n_; have n_ := Aside0.mk (Kd.R_kept Hy.out hkp_ (fun k_ a_ p_ => p_)); clear Hy; have Hy := n_; clear n_; have n_ := Aside0.mk (Kd.R_kept Hg.out hkp_ (fun k_ a_ p_ => p_)); clear Hg; have Hg := n_; clear n_; have n_ := Aside0.mk (below_step HB.out hb); clear HB; have HB := n_; clear n_ hkp_; skip; (try clear hb); have zg_0 := blkC1 BKg.out; have zg8_0 := blkC1 BKg8.out))
 go_region_held3 (fun w' => w'.cell? ⟨g8, 0, none⟩ = some (.slice Ax p.length cx) ∧ w'.cell? ⟨g, 0, none⟩ = some (.slice A0 l0.length c0)) (exact ⟨zg8_0, zg_0⟩) (first | (go_at_call 9; refine (laws_toProg.calls K A0 c0 l0 p _ (Kd.C_below HR.out (by repeat (first | (with_reducible first | exact HB.out | apply below_alloc | apply pw_below_drewN | apply below_drew1) | exact HB.out))) HC.out HP.out).mono ?_; rintro e wr ⟨v_, rfl, h_, hb⟩; have hb := below_step (below_drew (Below.refl wq.heap.size wq)) hb; have hkp_ := Kept.of_below hb (fun _ => False); have sz_ := hkp_.1; have n_ := Aside0.mk (blk_kept BKg.out hkp_ (fun p_ => p_)); clear BKg; have BKg := n_; clear n_; have n_ := Aside0.mk (blk_kept BKg8.out hkp_ (fun p_ => p_)); clear BKg8; have BKg8 := n_; clear n_; have n_ := Aside0.mk (Kd.R_kept Hw.out hkp_ (fun k_ a_ p_ => p_)); clear Hw; have Hw := n_; clear n_; have n_ := Aside0.mk (Kd.S_kept Hx.out hkp_ (fun k_ a_ p_ => p_)); clear Hx; have Hx := n_; clear n_; have n_ := Aside0.mk (Kd.R_kept Hy.out hkp_ (fun k_ a_ p_ => p_)); clear Hy; have Hy := n_; clear n_; have n_ := Aside0.mk (Kd.R_kept Hg.out hkp_ (fun k_ a_ p_ => p_)); clear Hg; have Hg := n_; clear n_; have n_ := Aside0.mk (below_step HB.out hb); clear HB; have HB := n_; clear n_ hkp_; clear hb; have Hn := Aside0.mk (S_ages0 h_); obtain ⟨An, cn, rfl⟩ := Kd.S_slice h_; clear h_; have zg_0 := blkC1 BKg.out; have zg8_0 := blkC1 BKg8.out) | (go_at_call 12; refine (laws_eqProg.calls K Ax cx p An cn p true _ (Kd.S_reads' Hx.out).2.2 (Kd.S_reads' Hx.out).2.1 (Kd.S_reads' Hn.out).2.2 (Kd.S_reads' Hn.out).2.1 HE3.out).mono ?_; rintro e wr ⟨rfl, hb⟩; have hkp_ := Kept.of_below hb (fun _ => False); have sz_ := hkp_.1; have n_ := Aside0.mk (blk_kept BKg.out hkp_ (fun p_ => p_)); clear BKg; have BKg := n_; clear n_; have n_ := Aside0.mk (blk_kept BKg8.out hkp_ (fun p_ => p_)); clear BKg8; have BKg8 := n_; clear n_; have n_ := Aside0.mk (Kd.R_kept Hw.out hkp_ (fun k_ a_ p_ => p_)); clear Hw; have Hw := n_; clear n_; have n_ := Aside0.mk (Kd.S_kept Hx.out hkp_ (fun k_ a_ p_ => p_)); clear Hx; have Hx := n_; clear n_; have n_ := Aside0.mk (Kd.R_kept Hy.out hkp_ (fun k_ a_ p_ => p_)); clear Hy; have Hy := n_; clear n_; have n_ := Aside0.mk (Kd.R_kept Hg.out hkp_ (fun k_ a_ p_ => p_)); clear Hg; have Hg := n_; clear n_; have n_ := Aside0.mk (Kd.S_kept Hn.out hkp_ (fun k_ a_ p_ => p_)); clear Hn; have Hn := n_; clear n_; have n_ := Aside0.mk (below_step HB.out hb); clear HB; have HB := n_; clear n_ hkp_; clear hb; have zg_0 := blkC1 BKg.out; have zg8_0 := blkC1 BKg8.out))
 go_upto_region 18 with (first | ((with_reducible refine gate_callee (f := 22) rfl ?_); refine goesL_ (some 59) rfl rfl Try.func22 (by kernel_rfl) rfl #[.slice A1 l1.length c1] rfl (by (try simp only [List.map_toArray, List.map_cons, List.map_nil]); first | done | rfl) ?_; refine (laws_toBoolS.calls K A1 c1 l1 l1 _ (Kd.C_below HR1.out HB.out) HC1.out HT.out).mono ?_; rintro e wq ⟨v_, rfl, h_, hb⟩; refine ⟨_, rfl, ?_⟩; have hkp_ := Kept.of_below hb (fun _ => False); have sz_ := hkp_.1; have n_ := Aside0.mk (blk_kept BKg.out hkp_ (fun p_ => p_)); clear BKg; have BKg := n_; clear n_; have n_ := Aside0.mk (blk_kept BKg8.out hkp_ (fun p_ => p_)); clear BKg8; have BKg8 := n_; clear n_; have n_ := Aside0.mk (Kd.R_kept Hw.out hkp_ (fun k_ a_ p_ => p_)); clear Hw; have Hw := n_; clear n_; have n_ := Aside0.mk (Kd.S_kept Hx.out hkp_ (fun k_ a_ p_ => p_)); clear Hx; have Hx := n_; clear n_; have n_ := Aside0.mk (Kd.R_kept Hy.out hkp_ (fun k_ a_ p_ => p_)); clear Hy; have Hy := n_; clear n_; have n_ := Aside0.mk (Kd.R_kept Hg.out hkp_ (fun k_ a_ p_ => p_)); clear Hg; have Hg := n_; clear n_; have n_ := Aside0.mk (below_step HB.out hb); clear HB; have HB := n_; clear n_ hkp_; skip; have Hm := Aside0.mk (R_ages0 h_); obtain ⟨Am, cm, rfl⟩ := Kd.R_slice h_; clear h_; (try clear hb); have zg_0 := blkC1 BKg.out; have zg8_0 := blkC1 BKg8.out) | ((with_reducible refine gate_callee (f := 24) rfl ?_); refine goesL_ (some 60) rfl rfl Try.func24 (by kernel_rfl) rfl #[.slice Ay l1.length cy, .slice Am l1.length cm] rfl (by (try simp only [List.map_toArray, List.map_cons, List.map_nil]); first | done | rfl) ?_; refine (laws_eqBoolS.calls K Ay cy l1 Am cm l1 true _ (Kd.R_reads' Hy.out).2.2 (Kd.R_reads' Hy.out).2.1 (Kd.R_reads' Hm.out).2.2 (Kd.R_reads' Hm.out).2.1 HE2.out).mono ?_; rintro e wq ⟨rfl, hd_⟩; have hb := drawn_below hd_; clear hd_; refine ⟨_, rfl, ?_⟩; have hkp_ := Kept.of_below hb (fun _ => False); have sz_ := hkp_.1; have n_ := Aside0.mk (blk_kept BKg.out hkp_ (fun p_ => p_)); clear BKg; have BKg := n_; clear n_; have n_ := Aside0.mk (blk_kept BKg8.out hkp_ (fun p_ => p_)); clear BKg8; have BKg8 := n_; clear n_; have n_ := Aside0.mk (Kd.R_kept Hw.out hkp_ (fun k_ a_ p_ => p_)); clear Hw; have Hw := n_; clear n_; have n_ := Aside0.mk (Kd.S_kept Hx.out hkp_ (fun k_ a_ p_ => p_)); clear Hx; have Hx := n_; clear n_; have n_ := Aside0.mk (Kd.R_kept Hy.out hkp_ (fun k_ a_ p_ => p_)); clear Hy; have Hy := n_; clear n_; have n_ := Aside0.mk (Kd.R_kept Hg.out hkp_ (fun k_ a_ p_ => p_)); clear Hg; have Hg := n_; clear n_; have n_ := Aside0.mk (Kd.R_kept Hm.out hkp_ (fun k_ a_ p_ => p_)); clear Hm; have Hm := n_; clear n_; have n_ := Aside0.mk (below_step HB.out hb); clear HB; have HB := n_; clear n_ hkp_; skip; (try clear hb); have zg_0 := blkC1 BKg.out; have zg8_0 := blkC1 BKg8.out))
 go_upto_region 19 with (first | ((with_reducible refine gate_callee (f := 18) rfl ?_); refine goesL_ (some 64) rfl rfl Try.func18 (by kernel_rfl) rfl #[.agg #[.slice Ax p.length cx], .int .i64 1] rfl (by (try simp only [List.map_toArray, List.map_cons, List.map_nil]); first | done | rfl) ?_; refine (markProg_calls _ (.slice Ax p.length cx) p 1 w _ HB.out (Kd.S_lower Hx.out (by omega)) (by decide) HPL.out HPF.out (by decide)).mono ?_; rintro e wq ⟨rfl, h_, hb2, hk2⟩; refine ⟨_, rfl, ?_⟩; have hkp_ := hk2; have sz_ := hkp_.1; have n_ := Aside0.mk (blk_kept BKg.out hkp_ (fun p_ => by unfold Ages0 at p_; omega)); clear BKg; have BKg := n_; clear n_; have n_ := Aside0.mk (blk_kept BKg8.out hkp_ (fun p_ => by unfold Ages0 at p_; omega)); clear BKg8; have BKg8 := n_; clear n_; have n_ := Aside0.mk (Kd.R_kept Hw.out hkp_ (fun k_ a_ p_ => by unfold Ages0 at a_ p_; omega)); clear Hw; have Hw := n_; clear n_; have n_ := Aside0.mk (Kd.R_kept Hy.out hkp_ (fun k_ a_ p_ => by unfold Ages0 at a_ p_; omega)); clear Hy; have Hy := n_; clear n_; have n_ := Aside0.mk (Kd.R_kept Hg.out hkp_ (fun k_ a_ p_ => by unfold Ages0 at a_ p_; omega)); clear Hg; have Hg := n_; clear n_; have n_ := Aside0.mk (hb2); clear HB; have HB := n_; clear n_ hkp_; clear Hx; clear h_ hb2 hk2; have zg_0 := blkC1 BKg.out; have zg8_0 := blkC1 BKg8.out))
 go_upto_region 20 with (first | ((with_reducible refine gate_callee (f := 25) rfl ?_); refine goesL_ (some 67) rfl rfl Try.func25 (by kernel_rfl) rfl #[.slice Ay l1.length cy, .int .i64 (markE p 1)] rfl (by (try simp only [List.map_toArray, List.map_cons, List.map_nil]); first | done | rfl) ?_; refine (laws_markBoolS.calls K _ (.slice Ay l1.length cy) l1 (markE p 1) k2 l1m w _ HB.out (Kd.R_lower Hy.out (by omega)) HM1.out).mono ?_; rintro e wq ⟨rfl, h_, hb2, hk2⟩; refine ⟨_, rfl, ?_⟩; have hkp_ := hk2; have sz_ := hkp_.1; have n_ := Aside0.mk (blk_kept BKg.out hkp_ (fun p_ => by unfold Ages0 at p_; omega)); clear BKg; have BKg := n_; clear n_; have n_ := Aside0.mk (blk_kept BKg8.out hkp_ (fun p_ => by unfold Ages0 at p_; omega)); clear BKg8; have BKg8 := n_; clear n_; have n_ := Aside0.mk (Kd.R_kept Hw.out hkp_ (fun k_ a_ p_ => by unfold Ages0 at a_ p_; omega)); clear Hw; have Hw := n_; clear n_; have n_ := Aside0.mk (Kd.R_kept Hg.out hkp_ (fun k_ a_ p_ => by unfold Ages0 at a_ p_; omega)); clear Hg; have Hg := n_; clear n_; have n_ := Aside0.mk (hb2); clear HB; have HB := n_; clear n_ hkp_; clear Hy; clear h_ hb2 hk2; have zg_0 := blkC1 BKg.out; have zg8_0 := blkC1 BKg8.out))
 go_upto_region 23 with (first | ((with_reducible refine gate_callee (f := 13) rfl ?_); (try (refine gate_guard (by rfl) ?_; dsimp only)); refine goesL_ (some 73) rfl rfl Try.func13 (by kernel_rfl) rfl #[.slice Ag q1.length cg, .slice Aw q1.length cw] rfl (by (try simp only [List.map_toArray, List.map_cons, List.map_nil]); first | done | rfl) ?_; refine (laws_eqIntS.calls K Ag cg q1 Aw cw q1 true _ (Kd.R_reads' Hg.out).2.2 (Kd.R_reads' Hg.out).2.1 (Kd.R_reads' Hw.out).2.2 (Kd.R_reads' Hw.out).2.1 HE1.out).mono ?_; rintro e wq ⟨rfl, hd_⟩; have hb := drawn_below hd_; clear hd_; refine ⟨_, rfl, ?_⟩; have hkp_ := Kept.of_below hb (fun _ => False); have sz_ := hkp_.1; have n_ := Aside0.mk (blk_kept BKg.out hkp_ (fun p_ => p_)); clear BKg; have BKg := n_; clear n_; have n_ := Aside0.mk (blk_kept BKg8.out hkp_ (fun p_ => p_)); clear BKg8; have BKg8 := n_; clear n_; have n_ := Aside0.mk (Kd.R_kept Hw.out hkp_ (fun k_ a_ p_ => p_)); clear Hw; have Hw := n_; clear n_; have n_ := Aside0.mk (Kd.R_kept Hg.out hkp_ (fun k_ a_ p_ => p_)); clear Hg; have Hg := n_; clear n_; have n_ := Aside0.mk (below_step HB.out hb); clear HB; have HB := n_; clear n_ hkp_; skip; (try clear hb); have zg_0 := blkC1 BKg.out; have zg8_0 := blkC1 BKg8.out))
 go_upto_region 25 with (first | ((with_reducible refine gate_callee (f := 26) rfl ?_); refine goesL_ (some 83) rfl rfl Try.func26 (by kernel_rfl) rfl #[.slice Ag q1.length cg, .int .i64 1] rfl (by (try simp only [List.map_toArray, List.map_cons, List.map_nil]); first | done | rfl) ?_; refine (laws_markIntS.calls K _ (.slice Ag q1.length cg) q1 1 m1 q1m w _ HB.out (Kd.R_lower Hg.out (by omega)) HM2.out).mono ?_; rintro e wq ⟨rfl, h_, hb2, hk2⟩; refine ⟨_, rfl, ?_⟩; have hkp_ := hk2; have sz_ := hkp_.1; have n_ := Aside0.mk (blk_kept BKg.out hkp_ (fun p_ => by unfold Ages0 at p_; omega)); clear BKg; have BKg := n_; clear n_; have n_ := Aside0.mk (blk_kept BKg8.out hkp_ (fun p_ => by unfold Ages0 at p_; omega)); clear BKg8; have BKg8 := n_; clear n_; have n_ := Aside0.mk (Kd.R_kept Hw.out hkp_ (fun k_ a_ p_ => by unfold Ages0 at a_ p_; omega)); clear Hw; have Hw := n_; clear n_; have n_ := Aside0.mk (hb2); clear HB; have HB := n_; clear n_ hkp_; have n_ := Aside0.mk h_; clear Hg; have Hg := n_; clear n_; clear h_ hb2 hk2; have zg_0 := blkC1 BKg.out; have zg8_0 := blkC1 BKg8.out))
 go_upto_region 30 with (first | ((with_reducible refine gate_callee (f := 27) rfl ?_); refine goesL_ (some 86) rfl rfl Try.func27 (by kernel_rfl) rfl #[.slice Ag q1.length cg, .int .i64 1] rfl (by (try simp only [List.map_toArray, List.map_cons, List.map_nil]); first | done | rfl) ?_; refine (heldInts_len K Ag cg q1m 1 m1 _ q1.length HQ.out (Kd.R_reads' Hg.out) HH.out).mono ?_; rintro e wq ⟨rfl, hd_⟩; have hb := drawn_below hd_; clear hd_; refine ⟨_, rfl, ?_⟩; have hkp_ := Kept.of_below hb (fun _ => False); have sz_ := hkp_.1; have n_ := Aside0.mk (blk_kept BKg.out hkp_ (fun p_ => p_)); clear BKg; have BKg := n_; clear n_; have n_ := Aside0.mk (blk_kept BKg8.out hkp_ (fun p_ => p_)); clear BKg8; have BKg8 := n_; clear n_; have n_ := Aside0.mk (Kd.R_kept Hw.out hkp_ (fun k_ a_ p_ => p_)); clear Hw; have Hw := n_; clear n_; have n_ := Aside0.mk (Kd.R_kept Hg.out hkp_ (fun k_ a_ p_ => p_)); clear Hg; have Hg := n_; clear n_; have n_ := Aside0.mk (below_step HB.out hb); clear HB; have HB := n_; clear n_ hkp_; skip; (try clear hb); have zg_0 := blkC1 BKg.out; have zg8_0 := blkC1 BKg8.out))
 go_upto_region 31 with (first | ((with_reducible refine gate_callee (f := 9) rfl ?_); refine goesL_ (some 94) rfl rfl Try.func9 (by kernel_rfl) rfl #[.agg #[.slice A0 l0.length c0]] rfl (by (try simp only [List.map_toArray, List.map_cons, List.map_nil]); first | done | rfl) ?_; refine (laws_toProg.calls K A0 c0 l0 p _ (Kd.C_below HR.out HB.out) HC.out HP.out).mono ?_; rintro e wq ⟨v_, rfl, h_, hb⟩; refine ⟨_, rfl, ?_⟩; have hkp_ := Kept.of_below hb (fun _ => False); have sz_ := hkp_.1; have n_ := Aside0.mk (blk_kept BKg.out hkp_ (fun p_ => p_)); clear BKg; have BKg := n_; clear n_; have n_ := Aside0.mk (blk_kept BKg8.out hkp_ (fun p_ => p_)); clear BKg8; have BKg8 := n_; clear n_; have n_ := Aside0.mk (Kd.R_kept Hw.out hkp_ (fun k_ a_ p_ => p_)); clear Hw; have Hw := n_; clear n_; have n_ := Aside0.mk (Kd.R_kept Hg.out hkp_ (fun k_ a_ p_ => p_)); clear Hg; have Hg := n_; clear n_; have n_ := Aside0.mk (below_step HB.out hb); clear HB; have HB := n_; clear n_ hkp_; skip; have Hn := Aside0.mk (S_ages0 h_); obtain ⟨An, cn, rfl⟩ := Kd.S_slice h_; clear h_; (try clear hb); have zg_0 := blkC1 BKg.out; have zg8_0 := blkC1 BKg8.out) | ((with_reducible refine gate_callee (f := 22) rfl ?_); refine goesL_ (some 96) rfl rfl Try.func22 (by kernel_rfl) rfl #[.slice A1 l1.length c1] rfl (by (try simp only [List.map_toArray, List.map_cons, List.map_nil]); first | done | rfl) ?_; refine (laws_toBoolS.calls K A1 c1 l1 l1 _ (Kd.C_below HR1.out HB.out) HC1.out HT.out).mono ?_; rintro e wq ⟨v_, rfl, h_, hb⟩; refine ⟨_, rfl, ?_⟩; have hkp_ := Kept.of_below hb (fun _ => False); have sz_ := hkp_.1; have n_ := Aside0.mk (blk_kept BKg.out hkp_ (fun p_ => p_)); clear BKg; have BKg := n_; clear n_; have n_ := Aside0.mk (blk_kept BKg8.out hkp_ (fun p_ => p_)); clear BKg8; have BKg8 := n_; clear n_; have n_ := Aside0.mk (Kd.R_kept Hw.out hkp_ (fun k_ a_ p_ => p_)); clear Hw; have Hw := n_; clear n_; have n_ := Aside0.mk (Kd.R_kept Hg.out hkp_ (fun k_ a_ p_ => p_)); clear Hg; have Hg := n_; clear n_; have n_ := Aside0.mk (Kd.S_kept Hn.out hkp_ (fun k_ a_ p_ => p_)); clear Hn; have Hn := n_; clear n_; have n_ := Aside0.mk (below_step HB.out hb); clear HB; have HB := n_; clear n_ hkp_; skip; have Hm := Aside0.mk (R_ages0 h_); obtain ⟨Am, cm, rfl⟩ := Kd.R_slice h_; clear h_; (try clear hb); have zg_0 := blkC1 BKg.out; have zg8_0 := blkC1 BKg8.out) | ((with_reducible refine gate_callee (f := 23) rfl ?_); refine goesL_ (some 97) rfl rfl Try.func23 (by kernel_rfl) rfl #[.agg #[.slice An p.length cn], .slice Am l1.length cm] rfl (by (try simp only [List.map_toArray, List.map_cons, List.map_nil]); first | done | rfl) ?_; refine (impl_PathOf.calls K An cn p (fun _ => True) Am cm l1 q1 q2 _ (Kd.S_reads' Hn.out).2.2 (Kd.S_reads' Hn.out).2.1 (Kd.V_mono (Kd.R_V Hm.out) (fun _ _ => trivial)) HI.out).mono ?_; rintro e wq ⟨v_, rfl, h_, hb⟩; refine ⟨_, rfl, ?_⟩; have hkp_ := Kept.of_below hb (fun _ => False); have sz_ := hkp_.1; have n_ := Aside0.mk (blk_kept BKg.out hkp_ (fun p_ => p_)); clear BKg; have BKg := n_; clear n_; have n_ := Aside0.mk (blk_kept BKg8.out hkp_ (fun p_ => p_)); clear BKg8; have BKg8 := n_; clear n_; have n_ := Aside0.mk (Kd.R_kept Hw.out hkp_ (fun k_ a_ p_ => p_)); clear Hw; have Hw := n_; clear n_; have n_ := Aside0.mk (Kd.R_kept Hg.out hkp_ (fun k_ a_ p_ => p_)); clear Hg; have Hg := n_; clear n_; have n_ := Aside0.mk (Kd.S_kept Hn.out hkp_ (fun k_ a_ p_ => p_)); clear Hn; have Hn := n_; clear n_; have n_ := Aside0.mk (Kd.R_kept Hm.out hkp_ (fun k_ a_ p_ => p_)); clear Hm; have Hm := n_; clear n_; have n_ := Aside0.mk (below_step HB.out hb); clear HB; have HB := n_; clear n_ hkp_; skip; have Hk := Aside0.mk (R_ages0 h_); obtain ⟨Ak, ck, rfl⟩ := Kd.R_slice h_; clear h_; (try clear hb); have zg_0 := blkC1 BKg.out; have zg8_0 := blkC1 BKg8.out))
 go_upto_region 34 with (first | ((with_reducible refine gate_callee (f := 13) rfl ?_); refine goesL_ (some 102) rfl rfl Try.func13 (by kernel_rfl) rfl #[.slice Ak q1.length ck, .slice Aw q1.length cw] rfl (by (try simp only [List.map_toArray, List.map_cons, List.map_nil]); first | done | rfl) ?_; refine (laws_eqIntS.calls K Ak ck q1 Aw cw q1 true _ (Kd.R_reads' Hk.out).2.2 (Kd.R_reads' Hk.out).2.1 (Kd.R_reads' Hw.out).2.2 (Kd.R_reads' Hw.out).2.1 HE1.out).mono ?_; rintro e wq ⟨rfl, hd_⟩; have hb := drawn_below hd_; clear hd_; refine ⟨_, rfl, ?_⟩; have hkp_ := Kept.of_below hb (fun _ => False); have sz_ := hkp_.1; have n_ := Aside0.mk (blk_kept BKg.out hkp_ (fun p_ => p_)); clear BKg; have BKg := n_; clear n_; have n_ := Aside0.mk (blk_kept BKg8.out hkp_ (fun p_ => p_)); clear BKg8; have BKg8 := n_; clear n_; have n_ := Aside0.mk (Kd.R_kept Hw.out hkp_ (fun k_ a_ p_ => p_)); clear Hw; have Hw := n_; clear n_; have n_ := Aside0.mk (Kd.R_kept Hg.out hkp_ (fun k_ a_ p_ => p_)); clear Hg; have Hg := n_; clear n_; have n_ := Aside0.mk (Kd.R_kept Hk.out hkp_ (fun k_ a_ p_ => p_)); clear Hk; have Hk := n_; clear n_; have n_ := Aside0.mk (below_step HB.out hb); clear HB; have HB := n_; clear n_ hkp_; skip; (try clear hb); have zg_0 := blkC1 BKg.out; have zg8_0 := blkC1 BKg8.out))
 go_wp2_with (first | ((with_reducible refine gate_callee (f := 27) rfl ?_); refine goesL_ (some 111) rfl rfl Try.func27 (by kernel_rfl) rfl #[.slice Ag q1.length cg, .int .i64 1] rfl (by (try simp only [List.map_toArray, List.map_cons, List.map_nil]); first | done | rfl) ?_; refine (heldInts_len K Ag cg q1m 1 m1 _ q1.length HQ.out (Kd.R_reads' Hg.out) HH.out).mono ?_; rintro e wq ⟨rfl, hd_⟩; have hb := drawn_below hd_; clear hd_; refine ⟨_, rfl, ?_⟩; have hkp_ := Kept.of_below hb (fun _ => False); have sz_ := hkp_.1; have n_ := Aside0.mk (blk_kept BKg.out hkp_ (fun p_ => p_)); clear BKg; have BKg := n_; clear n_; have n_ := Aside0.mk (blk_kept BKg8.out hkp_ (fun p_ => p_)); clear BKg8; have BKg8 := n_; clear n_; have n_ := Aside0.mk (Kd.R_kept Hw.out hkp_ (fun k_ a_ p_ => p_)); clear Hw; have Hw := n_; clear n_; have n_ := Aside0.mk (Kd.R_kept Hg.out hkp_ (fun k_ a_ p_ => p_)); clear Hg; have Hg := n_; clear n_; have n_ := Aside0.mk (Kd.R_kept Hk.out hkp_ (fun k_ a_ p_ => p_)); clear Hk; have Hk := n_; clear n_; have n_ := Aside0.mk (below_step HB.out hb); clear HB; have HB := n_; clear n_ hkp_; skip; (try clear hb); have zg_0 := blkC1 BKg.out; have zg8_0 := blkC1 BKg8.out))
 go_ret
 exact ⟨rfl, HB.out⟩
end Go.Proofs.Ytodgfmmoaabhhaa.P
namespace Go.Proofs.Ytodgfmmoaabhhaa.P
open Go.RowKit Go.Proofs.YtodgfmmoaabhhaaW.PrintWords Go.Proofs.YtodgfmmoaabhhaaW.PrintLast Go.Proofs.YtodgfmmoaabhhaaW.PrintMore
theorem C_len {α : Type} {d : Kd α} {w : World} {A : Option Addr} {n : Nat} {l : List α} (h : d.C w A n l) : l.length ≤ ml := by have := h.1; have := h.2.1; unfold ml; omega
theorem lprog_few {w : World} {A : Option Addr} {l : List LStp} (h : Kd.C k82 w A l.length l) : ∀ s, s ∈ l → s.f5.length ≤ ml := fun s hs => by
 obtain ⟨i, hi, rfl⟩ := List.mem_iff_getElem.1 hs
 obtain ⟨ad, c, _, _, hK, _⟩ := Kd.C_get h z82 (i : Int) (by omega) (by omega)
 obtain ⟨A7, c7, _, _, g7⟩ := k82_open hK
 rw [Int.toNat_natCast, List.getD_eq_getElem?_getD, List.getElem?_eq_getElem hi, Option.getD_some] at g7
 exact C_len g7
theorem small_of {l : List LStp} (h : ¬ (if (1048576 : Int) < (l.length + szSum l : Int) then (-1 : Int) else 1048576 - (l.length + szSum l)) < 0) : l.length ≤ 1048576 ∧ ∀ s, s ∈ l → s.f5.length ≤ 1048576 := by
 by_cases c : (1048576 : Int) < (l.length + szSum l : Int)
 ·rw [if_pos c] at h; omega
 ·exact ⟨by omega, fun s hs => by have := szSum_mem hs; omega⟩
end Go.Proofs.Ytodgfmmoaabhhaa.P
namespace Go.Proofs.Ytodgfmmoaabhhaa.P
open Go.RowKit Go.Proofs.YtodgfmmoaabhhaaW.PrintWords Go.Proofs.YtodgfmmoaabhhaaW.PrintLast Go.Proofs.YtodgfmmoaabhhaaW.PrintMore
attribute [local go_sem] max2_int min2_int max_two min_two max_three min_three max_four min_four
set_option linter.unusedVariables false
set_option linter.unusedSimpArgs false
def laws_heldBoolS.l0 : Nat → List Bool → Int → Int → Option (Int)
 | 0, _, _, _ => none
 | k + 1, x0, x1, x5 => if x5 < (x0.length : Int) then (if 0 ≤ x5 then (if ((rdOf false x0 x5) != ((Int.tmod x1 3) == 0)) = true then (some (-1)) else (laws_heldBoolS.l0 k x0 (wrap64 (x1 + 1)) (wrap64 (x5 + 1)))) else (none)) else (some x1)
def laws_heldBoolS.f (k : Nat) (l0 : List Bool) (a1 : Int) : Option (Int) := laws_heldBoolS.l0 k l0 a1 0
set_option maxHeartbeats 8000000 in
set_option maxRecDepth 100000 in
theorem laws_heldBoolS.calls (k : Nat) (A0 : Option Addr) (c0 : Nat) (l0 : List Bool) (a1 : Int) (r : Int) (w : World) (hr0 : Kd.C Kd.bool w A0 l0.length l0) (hc0 : l0.length ≤ c0) (h : laws_heldBoolS.f k l0 a1 = some r) :
  Calls Try.prog 46 #[.slice A0 l0.length c0, .int .i64 a1] w fun e w' => e = .returned (.int .i64 r) ∧ Drawn0 w w' := by
 have HR0 := Aside0.mk hr0
 have HC0 := Aside0.mk hc0
 clear hr0 hc0
 have H : (laws_heldBoolS.l0 k l0 a1 0) = some r := h
 clear h
 have H' := Aside0.mk H
 clear H
 go_enter Try.func46, Try.ntmps46
 go_wp2
 go_loopg [1, 5] k (fun kq v1 v5 w' => ∃ (x1_1 : Int) (x5_1 : Int), v1 = .int .i64 x1_1 ∧ v5 = .int .i64 x5_1 ∧ Aside0 (laws_heldBoolS.l0 kq l0 x1_1 x5_1 = some r) ∧ Aside0 (kq ≤ k) ∧ Drawn0 w w')
 case atStart => exact ⟨(a1), (0), (by first | rfl | (simp; done) | (simp [*]; done)), (by first | rfl | (simp; done) | (simp [*]; done)), H', ⟨Nat.le_refl _⟩, by repeat (first | exact Drawn0.refl _ | apply Drawn0.step)⟩
 case round =>
  clear H'
  try clear p2
  obtain ⟨x1_1, x5_1, rfl, rfl, HA, HK1, ⟨m1, rfl⟩⟩ := hrel
  cases gk with
  | zero => exact absurd HA.out (by intro h_; first | (cases h_; done) | (simp [laws_heldBoolS.l0] at h_))
  | succ k1 =>
   have H := HA.out
   clear HA
   simp only [laws_heldBoolS.l0] at H
   by_cases c3 : x5_1 < (l0.length : Int)
   ·rw [if_pos c3] at H
    have c3b0 : decide (x5_1 < (l0.length : Int)) = true := decide_eq_true c3
    clear c3
    by_cases c4 : 0 ≤ x5_1
    ·rw [if_pos c4] at H
     have c4b0 : decide (0 ≤ x5_1) = true := decide_eq_true c4
     clear c4
     by_cases c5 : ((rdOf false l0 x5_1) != ((Int.tmod x1_1 3) == 0)) = true
     ·rw [if_pos c5] at H
      have c5b0 : ((rdOf false l0 x5_1) != ((Int.tmod x1_1 3) == 0)) = true := c5
      (try (have c5b1 : decide ((rdOf false l0 x5_1) = ((Int.tmod x1_1 3) == 0)) = false := by simpa using c5))
      (try (have c5b2 : ((rdOf false l0 x5_1) == ((Int.tmod x1_1 3) == 0)) = false := by simpa using c5))
      (try (have c5b3 : ¬ ((rdOf false l0 x5_1) = ((Int.tmod x1_1 3) == 0)) := by simpa using c5))
      clear c5
      obtain rfl := Option.some.inj H
      have p289 : 0 ≤ (x5_1 : Int) := of_decide_eq_true (by first | (with_reducible assumption) | assumption)
      have q289 : x5_1 < (l0.length : Int) := of_decide_eq_true (by first | (with_reducible assumption) | assumption)
      obtain ⟨ad289, e289, hx289_0⟩ := Kd.at_bool HR0.out x5_1 p289 q289
      cases e289
      replace p289 := eq_true p289
      replace q289 := eq_true q289
      go_wp2
      go_ret
      exact ⟨by first | rfl | (simp; done) | (simp [*]; done), by repeat (first | exact Drawn0.refl _ | apply Drawn0.step)⟩
     ·rw [if_neg c5] at H
      have c5b0 : ((rdOf false l0 x5_1) != ((Int.tmod x1_1 3) == 0)) = false := by simpa using c5
      (try (have c5b1 : decide ((rdOf false l0 x5_1) = ((Int.tmod x1_1 3) == 0)) = true := by simpa using c5))
      (try (have c5b2 : ((rdOf false l0 x5_1) == ((Int.tmod x1_1 3) == 0)) = true := by simpa using c5))
      clear c5
      have H' := Aside0.mk H
      clear H
      have p289 : 0 ≤ (x5_1 : Int) := of_decide_eq_true (by first | (with_reducible assumption) | assumption)
      have q289 : x5_1 < (l0.length : Int) := of_decide_eq_true (by first | (with_reducible assumption) | assumption)
      obtain ⟨ad289, e289, hx289_0⟩ := Kd.at_bool HR0.out x5_1 p289 q289
      cases e289
      replace p289 := eq_true p289
      replace q289 := eq_true q289
      go_wp2
      go_roundg k1
      case measure => have := HK1.out; omega
      case rel => exact ⟨(wrap64 (x1_1 + 1)), (wrap64 (x5_1 + 1)), (by first | rfl | (simp; done) | (simp [*]; done)), (by first | rfl | (simp; done) | (simp [*]; done)), H', ⟨by have := HK1.out; omega⟩, by repeat (first | exact Drawn0.refl _ | apply Drawn0.step)⟩
    ·rw [if_neg c4] at H
     exact absurd H (by simp)
   ·rw [if_neg c3] at H
    have c3b0 : decide (x5_1 < (l0.length : Int)) = false := decide_eq_false c3
    clear c3
    obtain rfl := Option.some.inj H
    go_wp2
    go_ret
    exact ⟨by first | rfl | (simp; done) | (simp [*]; done), by repeat (first | exact Drawn0.refl _ | apply Drawn0.step)⟩
end Go.Proofs.Ytodgfmmoaabhhaa.P
namespace Go.Proofs.Ytodgfmmoaabhhaa.P
open Go.RowKit Go.Proofs.YtodgfmmoaabhhaaW.PrintWords Go.Proofs.YtodgfmmoaabhhaaW.PrintLast Go.Proofs.YtodgfmmoaabhhaaW.PrintMore
theorem toBoolS_ev_l (l : List Bool) (hl : l.length ≤ 35184372088832) : ∀ (d i : Nat) (o : List Bool), i + d = l.length → o.length = l.length → o.take i = l.take i →
  Ev (fun k => laws_toBoolS.l0 k l o (i : Int)) l
 | 0, i, o, hd, ho, ht => by
  refine Ev.step (fun k => by rw [laws_toBoolS.l0]) ?_
  refine Ev.neg (by omega) (Ev.eq (Ev.now _) ?_)
  rwa [List.take_of_length_le (by omega), List.take_of_length_le (by omega)] at ht
 | d + 1, i, o, hd, ho, ht => by
  have hi : i < l.length := by omega
  refine Ev.step (fun k => by rw [laws_toBoolS.l0]) ?_
  refine Ev.pos (by omega) (Ev.pos (by omega) (Ev.pos (by omega) ?_))
  rw [rdB hi, wrapN (by omega), Int.toNat_natCast]
  refine toBoolS_ev_l l hl d (i + 1) _ (by omega) (by rw [List.length_set]; omega) ?_
  rw [take_set (by omega), ht, List.take_add_one, List.getElem?_eq_getElem hi]; rfl
theorem toBoolS_ev (l : List Bool) (hl : l.length ≤ 35184372088832) : Ev (fun k => laws_toBoolS.f k l) l := by
 unfold laws_toBoolS.f
 refine Ev.pos (by omega) (Ev.pos (by omega) ?_)
 exact toBoolS_ev_l l hl l.length 0 _ (by omega) (by rw [List.length_replicate]; omega) (by simp)
theorem eqBoolS_refl_l (l : List Bool) (hl : l.length ≤ 35184372088832) : ∀ (d i : Nat), i + d = l.length → Ev (fun k => laws_eqBoolS.l0 k l l (i : Int)) true
 | 0, i, hd => Ev.step (fun k => by rw [laws_eqBoolS.l0]) (Ev.neg (by omega) (Ev.now _))
 | d + 1, i, hd => by
  refine Ev.step (fun k => by rw [laws_eqBoolS.l0]) ?_
  refine Ev.pos (by omega) (Ev.pos (by omega) (Ev.pos (by omega) (Ev.neg (by simp) ?_)))
  rw [wrapN (by omega)]
  exact eqBoolS_refl_l l hl d (i + 1) (by omega)
theorem eqBoolS_refl (l : List Bool) (hl : l.length ≤ 35184372088832) : Ev (fun k => laws_eqBoolS.f k l l) true := by
 unfold laws_eqBoolS.f
 exact Ev.pos rfl (eqBoolS_refl_l l hl l.length 0 (by omega))
def iotaB : Int → Nat → List Bool
 | _, 0 => []
 | a, n + 1 => (Int.tmod a 3 == 0) :: iotaB (a + 1) n
theorem iotaB_snoc : ∀ (n : Nat) (a : Int), iotaB a (n + 1) = iotaB a n ++ [Int.tmod (a + n) 3 == 0]
 | 0, a => by simp [iotaB]
 | n + 1, a => by
  rw [iotaB, iotaB_snoc n, iotaB]
  rw [show a + 1 + (n : Int) = a + ((n + 1 : Nat) : Int) by omega]; rfl
theorem markBools_loop (l : List Bool) (a : Int) (ha : 0 ≤ a) (hl : a + l.length ≤ 4611686018427387904) : ∀ (d i : Nat) (o : List Bool), i + d = l.length → o.length = l.length → o.take i = iotaB a i →
  Ev (fun k => laws_markBoolS.l0 k o (a + i) (i : Int)) (a + l.length, iotaB a l.length)
 | 0, i, o, hd, ho, ht => by
  refine Ev.step (fun k => by rw [laws_markBoolS.l0]) ?_
  obtain rfl : i = l.length := by omega
  refine Ev.neg (by omega) (Ev.eq (Ev.now _) ?_)
  rw [List.take_of_length_le (by omega)] at ht
  rw [ht]
 | d + 1, i, o, hd, ho, ht => by
  refine Ev.step (fun k => by rw [laws_markBoolS.l0]) ?_
  refine Ev.pos (by omega) (Ev.pos (by omega) ?_)
  rw [wrapN (by omega), wrapI (by omega) (by omega), Int.toNat_natCast, show a + (i : Int) + 1 = a + ((i + 1 : Nat) : Int) by omega]
  refine markBools_loop l a ha hl d (i + 1) _ (by omega) (by rw [List.length_set]; omega) ?_
  rw [List.take_add_one, List.take_set_of_le (Nat.le_refl i), List.getElem?_set_self (by omega), ht, iotaB_snoc]; rfl
theorem markBools_ev (l : List Bool) (a : Int) (ha : 0 ≤ a) (hl : a + l.length ≤ 4611686018427387904) : Ev (fun k => laws_markBoolS.f k l a) (a + l.length, iotaB a l.length) := by
 unfold laws_markBoolS.f
 have h := markBools_loop l a ha hl l.length 0 l (by omega) rfl (by simp [iotaB])
 rw [show a + ((0 : Nat) : Int) = a by omega] at h
 exact h
theorem heldInts_loop (n : Nat) (a : Int) (ha : 0 ≤ a) (hl : a + n ≤ 4611686018427387904) : ∀ (d i : Nat), i + d = n → Ev (fun k => laws_heldIntS.l0 k (iotaI a n) (a + i) (i : Int)) (a + n)
 | 0, i, hd => by
  refine Ev.step (fun k => by rw [laws_heldIntS.l0]) (Ev.neg (by rw [iotaI_len]; omega) (Ev.eq (Ev.now _) (by omega)))
 | d + 1, i, hd => by
  have hi : i < (iotaI a n).length := by rw [iotaI_len]; omega
  refine Ev.step (fun k => by rw [laws_heldIntS.l0]) (Ev.pos (by omega) (Ev.pos (by omega) (Ev.pos ?_ ?_)))
  ·rw [rdN hi, iotaI_get]
  ·rw [wrapN (by omega), wrapI (by omega) (by omega), show a + (i : Int) + 1 = a + ((i + 1 : Nat) : Int) by omega]
   exact heldInts_loop n a ha hl d (i + 1) (by omega)
theorem heldInts_ev (n : Nat) (a : Int) (ha : 0 ≤ a) (hl : a + n ≤ 4611686018427387904) : Ev (fun k => laws_heldIntS.f k (iotaI a n) a) (a + n) := by
 unfold laws_heldIntS.f
 have h := heldInts_loop n a ha hl n 0 (by omega)
 rw [show a + ((0 : Nat) : Int) = a by omega] at h
 exact h
end Go.Proofs.Ytodgfmmoaabhhaa.P
namespace Go.Proofs.Ytodgfmmoaabhhaa.P
open Go.RowKit Go.Proofs.YtodgfmmoaabhhaaW.PrintWords Go.Proofs.YtodgfmmoaabhhaaW.PrintLast Go.Proofs.YtodgfmmoaabhhaaW.PrintMore
theorem l6In_eq (a b c : Int) : spec_l6In.f a b c = some (inB a b c) := by
 unfold spec_l6In.f inB
 by_cases h : a ≥ b
 ·rw [if_pos h]; simp; omega
 ·rw [if_neg h]; simp; omega
theorem l1Many_eq (k : Int) : spec_l1Many.f k = some (if inB k 1 7 = true then nextsZ k else -1) := by
 unfold spec_l1Many.f nextsZ
 by_cases h5 : k = 5
 ·subst h5; rfl
 by_cases h7 : k = 7
 ·subst h7; rfl
 rw [if_neg h5, if_neg h7, if_neg h5, if_neg h7]
 by_cases h : inB k 1 7 = true
 ·rw [if_pos h]
  have hh : 1 ≤ k ∧ k ≤ 7 := by unfold inB at h; simpa using h
  have : k = 1 ∨ k = 2 ∨ k = 3 ∨ k = 4 ∨ k = 6 := by omega
  rcases this with rfl | rfl | rfl | rfl | rfl <;> rfl
 ·rw [if_neg h]
  have hh : ¬ (1 ≤ k ∧ k ≤ 7) := by unfold inB at h; simpa using h
  rw [if_neg (by omega), if_neg (by omega), if_neg (by omega), if_neg (by omega), if_neg (by omega)]
theorem l1Opnd_eq (v n : Int) : spec_l1Opnd.f v n = some (opOkB v n) := by
 unfold spec_l1Opnd.f opOkB
 rw [l6In_eq, l6In_eq]
 by_cases h : v = -1
 ·subst h
  rw [if_pos rfl]
  simp [inB]
 ·rw [if_neg h]
  simp only [Option.bind_some]
  by_cases h2 : inB v 0 11 = true <;> simp [h, h2]
def restB (s : Stp) : Bool := (if useAB s.f0 = true then opOkB s.f3.f0 s.f3.f1 else s.f3.f0 == 0 && s.f3.f1 == 0) &&
 (if s.f0 = 1 then inB s.f2 1 4 && opOkB s.f4.f0 s.f4.f1 else s.f2 == 0 && (s.f4.f0 == 0 && s.f4.f1 == 0))
theorem j2_ev (s : Stp) (b : Bool) : Ev (fun k => spec_l1Step.j2 k b s.f0 s.f1 s.f2 s.f3.f0 s.f3.f1 s.f4.f0 s.f4.f1 s.f5 0 0) (!b && restB s) := by
 refine Ev.step (fun k => by rw [spec_l1Step.j2]) (Ev.const ?_)
 cases b
 ·rw [if_neg (by decide)]
  simp only [l6In_eq, l1Opnd_eq, Option.bind_some]
  unfold restB useAB
  by_cases h1 : s.f0 = 1
  ·rw [if_pos h1]; simp only [h1]
   cases inB s.f2 1 4 <;> cases opOkB s.f3.f0 s.f3.f1 <;> simp
  rw [if_neg h1]
  by_cases h2 : s.f0 = 2
  ·rw [if_pos h2]; simp only [h2]
   by_cases h0 : s.f2 = 0 <;> cases opOkB s.f3.f0 s.f3.f1 <;> simp [h0]
  rw [if_neg h2]
  by_cases h4 : s.f0 = 4
  ·rw [if_pos h4]; simp only [h4]
   by_cases h0 : s.f2 = 0 <;> cases opOkB s.f3.f0 s.f3.f1 <;> simp [h0]
  rw [if_neg h4]
  by_cases h5 : s.f0 = 5
  ·rw [if_pos h5]; simp only [h5]
   by_cases h0 : s.f2 = 0 <;> cases opOkB s.f3.f0 s.f3.f1 <;> simp [h0]
  rw [if_neg h5]
  by_cases h0 : s.f2 = 0
  ·rw [if_pos h0]
   generalize (s.f3.f0 == 0 && s.f3.f1 == 0) = b3
   cases b3 <;> simp [h0, h1, h2, h4, h5]
  ·rw [if_neg h0]; simp [h0, h1, h2, h4, h5]
 ·rfl
theorem j1_ev (s : Stp) (b : Bool) (hb : b = chB s.f0) : Ev (fun k => spec_l1Step.j1 k b s.f0 s.f1 s.f2 s.f3.f0 s.f3.f1 s.f4.f0 s.f4.f1 s.f5 0 0) ((if chB s.f0 = true then inB s.f1 0 11 else s.f1 == 0) && restB s) := by
 subst hb
 refine Ev.step (fun k => by rw [spec_l1Step.j1]) ?_
 refine Ev.cases (fun h => ?_) (fun h => ?_)
 ·rw [if_pos h]
  refine Ev.bind (Ev.const (l6In_eq _ _ _)) ?_
  refine Ev.cases (fun h2 => ?_) (fun h2 => ?_)
  ·rw [h2]; exact j2_ev s false
  ·rw [show inB s.f1 0 11 = false by simpa using h2]; exact j2_ev s true
 ·rw [if_neg h]
  refine Ev.eq (j2_ev s _) ?_
  simp [bne]
theorem l1Step_loop (s : Stp) (n : Int) (h0 : 0 ≤ n) (h1 : n ≤ 140737488355328) (hs : s.f5.length ≤ 2) (hk : inB s.f0 1 7 = true) : ∀ (d i : Nat), i + d = s.f5.length →
  Ev (fun k => spec_l1Step.l0 k n (i : Int) s.f0 s.f1 s.f2 s.f3.f0 s.f3.f1 s.f4.f0 s.f4.f1 s.f5) ((s.f5.drop i).all (fun x => inB x 0 (n - 1)) && ((if chB s.f0 = true then inB s.f1 0 11 else s.f1 == 0) && restB s))
 | 0, i, hd => by
  refine Ev.step (fun k => by rw [spec_l1Step.l0]) ?_
  rw [List.drop_eq_nil_of_le (by omega)]
  refine Ev.neg (by omega) (Ev.cases (fun h => j1_ev s true ?_) (fun h => Ev.cases (fun h => j1_ev s true ?_) (fun h2 => j1_ev s _ ?_)))
  ·rw [h]; rfl
  ·rw [h]; rfl
  ·have hh : 1 ≤ s.f0 ∧ s.f0 ≤ 7 := by unfold inB at hk; simpa using hk
   have : s.f0 = 3 ∨ s.f0 = 4 ∨ s.f0 = 5 ∨ s.f0 = 6 ∨ s.f0 = 7 := by omega
   rcases this with h | h | h | h | h <;> rw [h] <;> rfl
 | d + 1, i, hd => by
  have hi : i < s.f5.length := by omega
  refine Ev.step (fun k => by rw [spec_l1Step.l0]) ?_
  refine Ev.pos (by omega) (Ev.pos (by omega) ?_)
  rw [rdN hi, wrapN (by omega), wrapI (by omega) (by omega), drop_at hi]
  refine Ev.bind (Ev.const (l6In_eq _ _ _)) ?_
  rw [List.all_cons]
  refine Ev.cases (fun h => ?_) (fun h => ?_)
  ·rw [h, Bool.true_and]; exact l1Step_loop s n h0 h1 hs hk d (i + 1) (by omega)
  ·rw [show inB s.f5[i] 0 (n - 1) = false by simpa using h]; exact Ev.now _
theorem l1Step_ev (s : Stp) (n : Int) (h0 : 0 ≤ n) (h1 : n ≤ 140737488355328) : Ev (fun k => spec_l1Step.f k s.f0 s.f1 s.f2 s.f3.f0 s.f3.f1 s.f4.f0 s.f4.f1 s.f5 n) (stepOkB n s) := by
 unfold spec_l1Step.f
 refine Ev.bind (Ev.const (l1Many_eq _)) ?_
 have e : ∀ l : List Int, (!l.any (fun x => !inB x 0 (n - 1))) = l.all (fun x => inB x 0 (n - 1)) := fun l => by
  induction l with
  | nil => rfl
  | cons x l ih => rw [List.any_cons, List.all_cons, Bool.not_or, Bool.not_not, ih]
 unfold stepOkB
 rw [e]
 by_cases hk : inB s.f0 1 7 = true
 ·rw [if_pos hk]
  refine Ev.cases (fun h => ?_) (fun h => ?_)
  ·have hz : nextsZ s.f0 ≤ 2 := by unfold nextsZ; split <;> (try split) <;> omega
   refine Ev.eq (l1Step_loop s n h0 h1 (by omega) hk s.f5.length 0 (by omega)) ?_
   rw [List.drop_zero, hk, show ((s.f5.length : Int) == nextsZ s.f0) = true from beq_iff_eq.2 h]
   rfl
  ·rw [show ((s.f5.length : Int) == nextsZ s.f0) = false from beq_eq_false_iff_ne.2 h]
   exact Ev.eq (Ev.now _) (by simp)
 ·rw [if_neg hk]
  refine Ev.neg (by omega) (Ev.eq (Ev.now _) ?_)
  rw [show inB s.f0 1 7 = false by simpa using hk]; rfl
theorem progOk_loop (l : List Stp) (hl : l.length ≤ 60) : ∀ (d i : Nat), i + d = l.length → Ev (fun k => spec_ProgOk.l0 k (i : Int) l) ((l.drop i).all (stepOkB l.length))
 | 0, i, hd => by
  refine Ev.step (fun k => by rw [spec_ProgOk.l0]) ?_
  rw [List.drop_eq_nil_of_le (by omega)]
  exact Ev.neg (by omega) (Ev.now _)
 | d + 1, i, hd => by
  have hi : i < l.length := by omega
  refine Ev.step (fun k => by rw [spec_ProgOk.l0]) ?_
  refine Ev.pos (by omega) (Ev.pos (by omega) ?_)
  rw [rdS hi, wrapN (by omega), drop_at hi, List.all_cons]
  refine Ev.bind (l1Step_ev l[i] l.length (by omega) (by omega)) (Ev.cases (fun h => ?_) (fun h => ?_))
  ·rw [h, Bool.true_and]; exact progOk_loop l hl d (i + 1) (by omega)
  ·rw [show stepOkB l.length l[i] = false by simpa using h]; exact Ev.now _
theorem specProgOk_ev (l : List Stp) : Ev (fun k => spec_ProgOk.f k l) (progOkB l) := by
 unfold spec_ProgOk.f progOkB
 refine Ev.cases (fun h => ?_) (fun h => ?_)
 ·refine Ev.step (fun k => by rw [spec_ProgOk.j0]) (Ev.pos rfl (Ev.eq (Ev.now _) ?_))
  rw [decide_eq_false (by omega)]; rfl
 ·refine Ev.step (fun k => by rw [spec_ProgOk.j0]) (Ev.cases (fun h2 => Ev.eq (Ev.now _) ?_) (fun h2 => ?_))
  ·have := of_decide_eq_true h2
   rw [decide_eq_false (p := l.length ≤ 60) (by omega), Bool.false_and, Bool.and_false]
  ·have : ¬ ((l.length : Int) > 60) := fun c => h2 (decide_eq_true c)
   refine Ev.eq (progOk_loop l (by omega) l.length 0 (by omega)) ?_
   rw [List.drop_zero, decide_eq_true (show 1 ≤ l.length by omega), decide_eq_true (show l.length ≤ 60 by omega)]
   rfl
theorem progOk_len {l : List Stp} (h : progOkB l = true) : 1 ≤ l.length ∧ l.length ≤ 60 := by unfold progOkB at h; simp at h; exact ⟨h.1, h.2.1⟩
theorem progOk_step {l : List Stp} (h : progOkB l = true) {s : Stp} (hs : s ∈ l) : stepOkB l.length s = true := by unfold progOkB at h; simp at h; exact h.2.2 s hs
theorem stepOk_next {n : Int} {s : Stp} (h : stepOkB n s = true) {x : Int} (hx : x ∈ s.f5) : 0 ≤ x ∧ x < n := by
 unfold stepOkB at h
 simp at h
 have := h.2.2.1 x hx
 unfold inB at this
 simp at this
 omega
theorem stepOk_many {n : Int} {s : Stp} (h : stepOkB n s = true) : (s.f5.length : Int) = nextsZ s.f0 := by
 unfold stepOkB at h
 simp at h
 exact h.2.1
end Go.Proofs.Ytodgfmmoaabhhaa.P
namespace Go.Proofs.Ytodgfmmoaabhhaa.P
open Go.RowKit Go.Proofs.YtodgfmmoaabhhaaW.PrintWords Go.Proofs.YtodgfmmoaabhhaaW.PrintLast Go.Proofs.YtodgfmmoaabhhaaW.PrintMore
attribute [local go_sem] max2_int min2_int max_two min_two max_three min_three max_four min_four
set_option linter.unusedVariables false
set_option linter.unusedSimpArgs false
def spec_l2Goes.l0 : Nat → Int → Int → Int → Int → Int → Int → Int → Int → Int → List Int → Option (Bool)
 | 0, _, _, _, _, _, _, _, _, _, _ => none
 | k + 1, x1, x5, x126000, x126001, x126002, x126003, x126004, x126005, x126006, x126007 => if x5 < (x126007.length : Int) then (if 0 ≤ x5 then (if (rd x126007 x5) = x1 then (some true) else (spec_l2Goes.l0 k x1 (wrap64 (x5 + 1)) x126000 x126001 x126002 x126003 x126004 x126005 x126006 x126007)) else (none)) else (some false)
def spec_l2Goes.f (k : Nat) (a0_0 : Int) (a0_1 : Int) (a0_2 : Int) (a0_3 : Int) (a0_4 : Int) (a0_5 : Int) (a0_6 : Int) (l0_7 : List Int) (a1 : Int) : Option (Bool) := spec_l2Goes.l0 k a1 0 a0_0 a0_1 a0_2 a0_3 a0_4 a0_5 a0_6 l0_7
set_option maxHeartbeats 8000000 in
set_option maxRecDepth 100000 in
theorem spec_l2Goes.calls (k : Nat) (a0_0 : Int) (a0_1 : Int) (a0_2 : Int) (a0_3 : Int) (a0_4 : Int) (a0_5 : Int) (a0_6 : Int) (A0_7 : Option Addr) (c0_7 : Nat) (l0_7 : List Int) (a1 : Int) (r : Bool) (w : World) (hr0_7 : Kd.C (Kd.int .i64) w A0_7 l0_7.length l0_7) (hc0_7 : l0_7.length ≤ c0_7) (h : spec_l2Goes.f k a0_0 a0_1 a0_2 a0_3 a0_4 a0_5 a0_6 l0_7 a1 = some r) :
  Calls Try.prog 36 #[.agg #[.int .i64 a0_0, .int .i64 a0_1, .int .i64 a0_2, .int .i64 a0_3, .int .i64 a0_4, .int .i64 a0_5, .int .i64 a0_6, .slice A0_7 l0_7.length c0_7], .int .i64 a1] w fun e w' => e = .returned (.bool r) ∧ Below w.heap.size w w' := by
 have hu69 := Try.underlying69
 have HR0_7 := Aside0.mk hr0_7
 have HC0_7 := Aside0.mk hc0_7
 clear hr0_7 hc0_7
 have HB := Aside0.mk (Below.refl w.heap.size w)
 have H : (spec_l2Goes.l0 k a1 0 a0_0 a0_1 a0_2 a0_3 a0_4 a0_5 a0_6 l0_7) = some r := h
 clear h
 have H' := Aside0.mk H
 clear H
 go_enter Try.func36, Try.ntmps36
 go_wp2_with (first | ((with_reducible refine gate_dst (N := 2) rfl ?_); refine box_event ?hg (N := 2) ?hd (cs := #[.int .i64 a0_0, .int .i64 a0_1, .int .i64 a0_2, .int .i64 a0_3, .int .i64 a0_4, .int .i64 a0_5, .int .i64 a0_6, .slice A0_7 l0_7.length c0_7]) (t := 69) ?hr ?_; (case hd => rfl); (case hg => rfl); (case hr => first | (go_simp; done) | (go_simp; rfl) | (go_simp; rfl)); intro gb125 hg w3 hbox hb; have n0_ := Aside0.mk (below_step (by repeat (first | (with_reducible first | exact HB.out | apply below_alloc | apply pw_below_drewN | apply below_drew1) | exact HB.out)) hb); have n1_ := Aside0.mk (hbox); have n2_ := Aside0.mk ((by rw [hg]; exact (below_size (by repeat (first | (with_reducible first | exact HB.out | apply below_alloc | apply pw_below_drewN | apply below_drew1) | exact HB.out))) : w.heap.size ≤ gb125)); have n3_ := Aside0.mk ((by rw [hg]; exact (below_size (by repeat (first | (with_reducible first | exact HB.out | apply below_alloc | apply pw_below_drewN | apply below_drew1) | exact HB.out))) : w.heap.size ≤ gb125)); clear HB; have HB := n0_; have BK125 := n1_; have GW125 := n2_; have GE125 := n3_; clear n0_ n1_ n2_ n3_; clear hb hbox hg))
 go_loopg [5] k (fun kq v5 w' => ∃ (x5_1 : Int), v5 = .int .i64 x5_1 ∧ Aside0 (spec_l2Goes.l0 kq a1 x5_1 a0_0 a0_1 a0_2 a0_3 a0_4 a0_5 a0_6 l0_7 = some r) ∧ Aside0 (kq ≤ k) ∧ Aside0 (w'.heap[gb125]? = some (.cells #[.int .i64 a0_0, .int .i64 a0_1, .int .i64 a0_2, .int .i64 a0_3, .int .i64 a0_4, .int .i64 a0_5, .int .i64 a0_6, (.slice A0_7 l0_7.length c0_7)] 69 (0, 0))) ∧ Aside0 (Below w.heap.size w w'))
 case atStart => exact ⟨(0), (by first | rfl | (simp; done) | (simp [*]; done)), H', ⟨Nat.le_refl _⟩, ⟨by (with_reducible repeat (first | refine blk_drewN ?_ _ | refine blk_drew ?_ | refine blk_alloc ?_ _)); exact BK125.out⟩, ⟨by repeat (first | (with_reducible first | exact HB.out | apply below_alloc | apply pw_below_drewN | apply below_drew1 | refine below_set ?_ GE125.out) | exact HB.out)⟩⟩
 case round =>
  clear H'
  try clear p2
  try clear c3
  obtain ⟨x5_1, rfl, HA, HK1, BK125, HB⟩ := hrel
  cases gk with
  | zero => exact absurd HA.out (by intro h_; first | (cases h_; done) | (simp [spec_l2Goes.l0] at h_))
  | succ k1 =>
   have H := HA.out
   clear HA
   simp only [spec_l2Goes.l0] at H
   by_cases c4 : x5_1 < (l0_7.length : Int)
   ·rw [if_pos c4] at H
    have c4b0 : decide (x5_1 < (l0_7.length : Int)) = true := decide_eq_true c4
    clear c4
    by_cases c5 : 0 ≤ x5_1
    ·rw [if_pos c5] at H
     have c5b0 : decide (0 ≤ x5_1) = true := decide_eq_true c5
     clear c5
     by_cases c6 : (rd l0_7 x5_1) = a1
     ·rw [if_pos c6] at H
      have c6b0 : ((rd l0_7 x5_1) == a1) = true := beq_iff_eq.mpr c6
      have c6b1 : ((rd l0_7 x5_1) != a1) = false := bne_eq_false_iff_eq.mpr c6
      clear c6
      obtain rfl := Option.some.inj H
      have hcz7_0 : wr.cell? ⟨gb125, 0, none⟩ = some (.int .i64 a0_0) := (blk_cell BK125.out 0).trans rfl
      have hcz7_1 : wr.cell? ⟨gb125, 1, none⟩ = some (.int .i64 a0_1) := (blk_cell BK125.out 1).trans rfl
      have hcz7_2 : wr.cell? ⟨gb125, 2, none⟩ = some (.int .i64 a0_2) := (blk_cell BK125.out 2).trans rfl
      have hcz7_3 : wr.cell? ⟨gb125, 3, none⟩ = some (.int .i64 a0_3) := (blk_cell BK125.out 3).trans rfl
      have hcz7_4 : wr.cell? ⟨gb125, 4, none⟩ = some (.int .i64 a0_4) := (blk_cell BK125.out 4).trans rfl
      have hcz7_5 : wr.cell? ⟨gb125, 5, none⟩ = some (.int .i64 a0_5) := (blk_cell BK125.out 5).trans rfl
      have hcz7_6 : wr.cell? ⟨gb125, 6, none⟩ = some (.int .i64 a0_6) := (blk_cell BK125.out 6).trans rfl
      have hcz7_7 : wr.cell? ⟨gb125, 7, none⟩ = some (.slice A0_7 l0_7.length c0_7) := (blk_cell BK125.out 7).trans rfl
      have hfz7_0 := blk_frozen BK125.out 0
      have hfz7_1 := blk_frozen BK125.out 1
      have hfz7_2 := blk_frozen BK125.out 2
      have hfz7_3 := blk_frozen BK125.out 3
      have hfz7_4 := blk_frozen BK125.out 4
      have hfz7_5 := blk_frozen BK125.out 5
      have hfz7_6 := blk_frozen BK125.out 6
      have hfz7_7 := blk_frozen BK125.out 7
      have p126 : 0 ≤ (x5_1 : Int) := of_decide_eq_true (by first | (with_reducible assumption) | assumption)
      have q126 : x5_1 < (l0_7.length : Int) := of_decide_eq_true (by first | (with_reducible assumption) | assumption)
      obtain ⟨ad126, e126, hx126_0⟩ := Kd.at_int HR0_7.out x5_1 p126 q126
      cases e126
      replace hx126_0 := (HB.out.cell (World.block_lt_of_cell? w _ hx126_0)).trans hx126_0
      replace p126 := eq_true p126
      replace q126 := eq_true q126
      go_wp2
      go_ret
      exact ⟨by first | rfl | (simp [errW_none, errW_some] <;> rfl) | (simp [*, errW_none, errW_some] <;> rfl), by repeat (first | (with_reducible first | exact HB.out | apply below_alloc | apply pw_below_drewN | apply below_drew1 | refine below_set ?_ GE125.out) | exact HB.out)⟩
     ·rw [if_neg c6] at H
      have c6b0 : ((rd l0_7 x5_1) == a1) = false := beq_eq_false_iff_ne.mpr c6
      have c6b1 : ((rd l0_7 x5_1) != a1) = true := bne_iff_ne.mpr c6
      have H' := Aside0.mk H
      clear H
      have hcz8_0 : wr.cell? ⟨gb125, 0, none⟩ = some (.int .i64 a0_0) := (blk_cell BK125.out 0).trans rfl
      have hcz8_1 : wr.cell? ⟨gb125, 1, none⟩ = some (.int .i64 a0_1) := (blk_cell BK125.out 1).trans rfl
      have hcz8_2 : wr.cell? ⟨gb125, 2, none⟩ = some (.int .i64 a0_2) := (blk_cell BK125.out 2).trans rfl
      have hcz8_3 : wr.cell? ⟨gb125, 3, none⟩ = some (.int .i64 a0_3) := (blk_cell BK125.out 3).trans rfl
      have hcz8_4 : wr.cell? ⟨gb125, 4, none⟩ = some (.int .i64 a0_4) := (blk_cell BK125.out 4).trans rfl
      have hcz8_5 : wr.cell? ⟨gb125, 5, none⟩ = some (.int .i64 a0_5) := (blk_cell BK125.out 5).trans rfl
      have hcz8_6 : wr.cell? ⟨gb125, 6, none⟩ = some (.int .i64 a0_6) := (blk_cell BK125.out 6).trans rfl
      have hcz8_7 : wr.cell? ⟨gb125, 7, none⟩ = some (.slice A0_7 l0_7.length c0_7) := (blk_cell BK125.out 7).trans rfl
      have hfz8_0 := blk_frozen BK125.out 0
      have hfz8_1 := blk_frozen BK125.out 1
      have hfz8_2 := blk_frozen BK125.out 2
      have hfz8_3 := blk_frozen BK125.out 3
      have hfz8_4 := blk_frozen BK125.out 4
      have hfz8_5 := blk_frozen BK125.out 5
      have hfz8_6 := blk_frozen BK125.out 6
      have hfz8_7 := blk_frozen BK125.out 7
      have p126 : 0 ≤ (x5_1 : Int) := of_decide_eq_true (by first | (with_reducible assumption) | assumption)
      have q126 : x5_1 < (l0_7.length : Int) := of_decide_eq_true (by first | (with_reducible assumption) | assumption)
      obtain ⟨ad126, e126, hx126_0⟩ := Kd.at_int HR0_7.out x5_1 p126 q126
      cases e126
      replace hx126_0 := (HB.out.cell (World.block_lt_of_cell? w _ hx126_0)).trans hx126_0
      replace p126 := eq_true p126
      replace q126 := eq_true q126
      go_wp2
      go_roundg k1
      case measure => have := HK1.out; omega
      case rel => exact ⟨(wrap64 (x5_1 + 1)), (by first | rfl | (simp; done) | (simp [*]; done)), H', ⟨by have := HK1.out; omega⟩, ⟨by (with_reducible repeat (first | refine blk_drewN ?_ _ | refine blk_drew ?_ | refine blk_alloc ?_ _)); exact BK125.out⟩, ⟨by repeat (first | (with_reducible first | exact HB.out | apply below_alloc | apply pw_below_drewN | apply below_drew1 | refine below_set ?_ GE125.out) | exact HB.out)⟩⟩
    ·rw [if_neg c5] at H
     exact absurd H (by simp)
   ·rw [if_neg c4] at H
    have c4b0 : decide (x5_1 < (l0_7.length : Int)) = false := decide_eq_false c4
    clear c4
    obtain rfl := Option.some.inj H
    have hcz9_0 : wr.cell? ⟨gb125, 0, none⟩ = some (.int .i64 a0_0) := (blk_cell BK125.out 0).trans rfl
    have hcz9_1 : wr.cell? ⟨gb125, 1, none⟩ = some (.int .i64 a0_1) := (blk_cell BK125.out 1).trans rfl
    have hcz9_2 : wr.cell? ⟨gb125, 2, none⟩ = some (.int .i64 a0_2) := (blk_cell BK125.out 2).trans rfl
    have hcz9_3 : wr.cell? ⟨gb125, 3, none⟩ = some (.int .i64 a0_3) := (blk_cell BK125.out 3).trans rfl
    have hcz9_4 : wr.cell? ⟨gb125, 4, none⟩ = some (.int .i64 a0_4) := (blk_cell BK125.out 4).trans rfl
    have hcz9_5 : wr.cell? ⟨gb125, 5, none⟩ = some (.int .i64 a0_5) := (blk_cell BK125.out 5).trans rfl
    have hcz9_6 : wr.cell? ⟨gb125, 6, none⟩ = some (.int .i64 a0_6) := (blk_cell BK125.out 6).trans rfl
    have hcz9_7 : wr.cell? ⟨gb125, 7, none⟩ = some (.slice A0_7 l0_7.length c0_7) := (blk_cell BK125.out 7).trans rfl
    have hfz9_0 := blk_frozen BK125.out 0
    have hfz9_1 := blk_frozen BK125.out 1
    have hfz9_2 := blk_frozen BK125.out 2
    have hfz9_3 := blk_frozen BK125.out 3
    have hfz9_4 := blk_frozen BK125.out 4
    have hfz9_5 := blk_frozen BK125.out 5
    have hfz9_6 := blk_frozen BK125.out 6
    have hfz9_7 := blk_frozen BK125.out 7
    go_wp2
    go_ret
    exact ⟨by first | rfl | (simp [errW_none, errW_some] <;> rfl) | (simp [*, errW_none, errW_some] <;> rfl), by repeat (first | (with_reducible first | exact HB.out | apply below_alloc | apply pw_below_drewN | apply below_drew1 | refine below_set ?_ GE125.out) | exact HB.out)⟩
end Go.Proofs.Ytodgfmmoaabhhaa.P
namespace Go.Proofs.Ytodgfmmoaabhhaa.P
open Go.RowKit Go.Proofs.YtodgfmmoaabhhaaW.PrintWords Go.Proofs.YtodgfmmoaabhhaaW.PrintLast Go.Proofs.YtodgfmmoaabhhaaW.PrintMore
attribute [local go_sem] max2_int min2_int max_two min_two max_three min_three max_four min_four
set_option linter.unusedVariables false
set_option linter.unusedSimpArgs false
mutual
def spec_PathOk.j0 : Nat → List Int → Bool → List (S69) → Option (Bool)
 | 0, _, _, _ => none
 | k + 1, x1, x24, x128000 => if x24 = true then (some false) else (spec_PathOk.l0 k x1 1 x128000)
def spec_PathOk.l0 : Nat → List Int → Int → List (S69) → Option (Bool)
 | 0, _, _, _ => none
 | k + 1, x1, x5, x128000 => if x5 < (x1.length : Int) then (if 0 ≤ x5 then ((spec_l6In.f (rd x1 x5) 0 (wrap64 ((x128000.length : Int) - 1))).bind fun t133 => (if t133 = true then (if 0 ≤ (wrap64 (x5 - 1)) then (if (wrap64 (x5 - 1)) < (x1.length : Int) then (if 0 ≤ (rd x1 (wrap64 (x5 - 1))) then (if (rd x1 (wrap64 (x5 - 1))) < (x128000.length : Int) then ((spec_l2Goes.f k ((rd_T69 x128000 (rd x1 (wrap64 (x5 - 1)))).f0) ((rd_T69 x128000 (rd x1 (wrap64 (x5 - 1)))).f1) ((rd_T69 x128000 (rd x1 (wrap64 (x5 - 1)))).f2) ((rd_T69 x128000 (rd x1 (wrap64 (x5 - 1)))).f3.f0) ((rd_T69 x128000 (rd x1 (wrap64 (x5 - 1)))).f3.f1) ((rd_T69 x128000 (rd x1 (wrap64 (x5 - 1)))).f4.f0) ((rd_T69 x128000 (rd x1 (wrap64 (x5 - 1)))).f4.f1) ((rd_T69 x128000 (rd x1 (wrap64 (x5 - 1)))).f5) (rd x1 x5)).bind fun t137 => (if t137 = true then (spec_PathOk.l0 k x1 (wrap64 (x5 + 1)) x128000) else (some false))) else (none)) else (none)) else (none)) else (none)) else (some false))) else (none)) else (if 0 ≤ (wrap64 ((x1.length : Int) - 1)) then (if (wrap64 ((x1.length : Int) - 1)) < (x1.length : Int) then (if 0 ≤ (rd x1 (wrap64 ((x1.length : Int) - 1))) then (if (rd x1 (wrap64 ((x1.length : Int) - 1))) < (x128000.length : Int) then (some (((rd_T69 x128000 (rd x1 (wrap64 ((x1.length : Int) - 1)))).f0) == 7)) else (none)) else (none)) else (none)) else (none))
end
def spec_PathOk.f (k : Nat) (l0_0 : List (S69)) (l1 : List Int) : Option (Bool) := (spec_ProgOk.f k l0_0).bind fun t128 => (if t128 = true then (if (l1.length : Int) < 1 then (spec_PathOk.j0 k l1 true l0_0) else (if (l1.length : Int) > 200 then (spec_PathOk.j0 k l1 true l0_0) else (if 0 < (l1.length : Int) then (spec_PathOk.j0 k l1 ((rd l1 0) != 0) l0_0) else (none)))) else (spec_PathOk.j0 k l1 true l0_0))
def spec_PathOk.T6 : Bool × List (List Nat × List Nat) := (true, [([], []), ([], []), ([0, 1], [0, 1]), ([2], [2]), ([], []), ([4], [4]), ([5], [5]), ([6], [6]), ([3, 7], [3, 7]), ([8], [8]), ([9, 8], [9]), ([10], [10]), ([11, 10], [10, 11]), ([10], [10]), ([10], [10]), ([14, 10], [10, 14]), ([13, 15, 10], [10, 13, 15]), ([16, 10], [10, 16]), ([12, 17, 10], [10, 12, 17]), ([18, 10], [10, 18]), ([10], [10]), ([10], [10]), ([20, 21, 10], [10, 20, 21]), ([22, 10], [10, 22]), ([19, 23, 10, 10], [10, 19, 23]), ([24, 10], [10, 24]), ([10, 25], [10, 25])])
def spec_PathOk.B6 : List Nat := [0, 0, 3, 7, 0, 16, 48, 112, 255, 511, 1023, 2047, 4095, 2047, 2047, 18431, 59391, 124927, 262143, 524287, 2047, 2047, 3147775, 7342079, 16777215, 33554431, 67108863]
theorem spec_PathOk.tab6 : rtab .any (opsOf Try.f8 6) = spec_PathOk.T6 := by kernel_rfl
theorem spec_PathOk.bits6 : waitsOk spec_PathOk.T6.2 spec_PathOk.B6 = true := by kernel_rfl
def spec_PathOk.T8 : Bool × List (List Nat × List Nat) := (true, [([], []), ([0], [0]), ([], []), ([], []), ([3], [3]), ([4], [4]), ([2, 5], [2, 5]), ([6], [6]), ([1, 7], [1, 7]), ([8], [8]), ([9], [9]), ([10], [10]), ([11, 0, 1, 2, 3, 4, 5, 6, 7, 8, 9, 10, 11], [11])])
def spec_PathOk.B8 : List Nat := [0, 1, 0, 0, 8, 24, 60, 124, 255, 511, 1023, 2047, 4095]
theorem spec_PathOk.tab8 : rtab .any (opsOf Try.f8 8) = spec_PathOk.T8 := by kernel_rfl
theorem spec_PathOk.bits8 : waitsOk spec_PathOk.T8.2 spec_PathOk.B8 = true := by kernel_rfl
set_option maxHeartbeats 8000000 in
set_option maxRecDepth 100000 in
theorem spec_PathOk.calls (k : Nat) (A0_0 : Option Addr) (c0_0 : Nat) (l0_0 : List (S69)) (A1 : Option Addr) (c1 : Nat) (l1 : List Int) (r : Bool) (w : World) (hr0_0 : Kd.C k69 w A0_0 l0_0.length l0_0) (hc0_0 : l0_0.length ≤ c0_0) (hr1 : Kd.C (Kd.int .i64) w A1 l1.length l1) (hc1 : l1.length ≤ c1) (h : spec_PathOk.f k l0_0 l1 = some r) :
  Calls Try.prog 8 #[.agg #[.slice A0_0 l0_0.length c0_0], .slice A1 l1.length c1] w fun e w' => e = .returned (.bool r) ∧ Below w.heap.size w w' := by
 have hu30 := Try.underlying30
 have hu69 := Try.underlying69
 have HR0_0 := Aside0.mk hr0_0
 have HC0_0 := Aside0.mk hc0_0
 clear hr0_0 hc0_0
 have HR1 := Aside0.mk hr1
 have HC1 := Aside0.mk hc1
 clear hr1 hc1
 have HB := Aside0.mk (Below.refl w.heap.size w)
 have H : ((spec_ProgOk.f k l0_0).bind fun t128 => (if t128 = true then (if (l1.length : Int) < 1 then (spec_PathOk.j0 k l1 true l0_0) else (if (l1.length : Int) > 200 then (spec_PathOk.j0 k l1 true l0_0) else (if 0 < (l1.length : Int) then (spec_PathOk.j0 k l1 ((rd l1 0) != 0) l0_0) else (none)))) else (spec_PathOk.j0 k l1 true l0_0))) = some r := h
 clear h
 have HC3 := Aside0.mk H
 clear H
 go_enter Try.func8, Try.ntmps8
 go_upto_region 1 with (first | ((with_reducible refine gate_dst (N := 2) rfl ?_); (try (refine gate_guard (by rfl) ?_; dsimp only)); refine box_event ?hg (N := 2) ?hd (cs := #[.slice A0_0 l0_0.length c0_0]) (t := 30) ?hr ?_; (case hd => rfl); (case hg => rfl); (case hr => first | (go_simp; done) | (go_simp; rfl) | (go_simp; rfl)); intro gb127 hg w4 hbox hb; have n0_ := Aside0.mk (below_step (by repeat (first | (with_reducible first | exact HB.out | apply below_alloc | apply pw_below_drewN | apply below_drew1) | exact HB.out)) hb); have n1_ := Aside0.mk (hbox); have n2_ := Aside0.mk ((by rw [hg]; exact (below_size (by repeat (first | (with_reducible first | exact HB.out | apply below_alloc | apply pw_below_drewN | apply below_drew1) | exact HB.out))) : w.heap.size ≤ gb127)); have n3_ := Aside0.mk ((by rw [hg]; exact (below_size (by repeat (first | (with_reducible first | exact HB.out | apply below_alloc | apply pw_below_drewN | apply below_drew1) | exact HB.out))) : w.heap.size ≤ gb127)); clear HB; have HB := n0_; have BK127 := n1_; have GW127 := n2_; have GE127 := n3_; clear n0_ n1_ n2_ n3_; clear hb hbox hg))
 (try simp only [Act.put, List.setIfInBounds_toArray, List.set_cons_zero, List.set_cons_succ])
 go_cut [24] (fun v24 wc => ∃ (kq : Nat) (x24_2 : Bool), v24 = .bool x24_2 ∧ Aside0 (spec_PathOk.j0 kq l1 x24_2 l0_0 = some r) ∧ Aside0 (kq ≤ k) ∧ Aside0 (wc.heap[gb127]? = some (.cells #[(.slice A0_0 l0_0.length c0_0)] 30 (0, 0))) ∧ Aside0 (Below w.heap.size w wc))
 case first =>
  have H := HC3.out
  clear HC3
  replace H := Option.bind_eq_some_iff.mp H
  obtain ⟨t128, A50, H⟩ := H
  replace H : (if t128 = true then (if (l1.length : Int) < 1 then (spec_PathOk.j0 k l1 true l0_0) else (if (l1.length : Int) > 200 then (spec_PathOk.j0 k l1 true l0_0) else (if 0 < (l1.length : Int) then (spec_PathOk.j0 k l1 ((rd l1 0) != 0) l0_0) else (none)))) else (spec_PathOk.j0 k l1 true l0_0)) = some r := H
  have A5 := Aside0.mk A50
  clear A50
  by_cases c6 : t128 = true
  ·subst c6
   have H1 : (if (l1.length : Int) < 1 then (spec_PathOk.j0 k l1 true l0_0) else (if (l1.length : Int) > 200 then (spec_PathOk.j0 k l1 true l0_0) else (if 0 < (l1.length : Int) then (spec_PathOk.j0 k l1 ((rd l1 0) != 0) l0_0) else (none)))) = some r := by rw [if_pos rfl] at H; exact H
   clear H
   have H := H1
   clear H1
   by_cases c7 : (l1.length : Int) < 1
   ·rw [if_pos c7] at H
    have c7b0 : decide ((l1.length : Int) < 1) = true := decide_eq_true c7
    have c7b1 : decide (l1.length < 1) = true := decide_eq_true (by omega)
    clear c7
    (first | rw [c7b0] | (simp only [i64_w, i32_w]; rw [c7b0]) | skip)
    have H' := Aside0.mk H
    clear H
    have hcz8_0 : w4.cell? ⟨gb127, 0, none⟩ = some (.slice A0_0 l0_0.length c0_0) := (blk_cell BK127.out 0).trans rfl
    have hfz8_0 := blk_frozen BK127.out 0
    go_wp2_with (first | ((with_reducible refine gate_callee (f := 34) rfl ?_); refine goesL_ (some 7) rfl rfl Try.func34 (by kernel_rfl) rfl #[.agg #[.slice A0_0 l0_0.length c0_0]] rfl (by (try simp only [List.map_toArray, List.map_cons, List.map_nil]); first | done | rfl | (simp only [List.length_drop, List.length_take]; rfl)) ?_; (with_reducible refine (spec_ProgOk.calls k _ _ l0_0 true _ ?side1 ?side2 A5.out).mono ?_); (case side1 => repeat (first | exact (Kd.C_below HR0_0.out HB.out) | (with_reducible refine Kd.C_alloc ?_ _) | (with_reducible refine Kd.C_drewN ?_ _) | (with_reducible refine Kd.C_drew ?_))); (case side2 => exact HC0_0.out); rintro e w9 ⟨rfl, hb⟩; refine ⟨_, rfl, ?_⟩; have n0_ := Aside0.mk (blk_below (g := gb127) (o := .cells #[.slice A0_0 l0_0.length c0_0] 30 (0, 0)) (by (with_reducible repeat (first | refine blk_drewN ?_ _ | refine blk_drew ?_ | refine blk_alloc ?_ _)); exact BK127.out) hb); have n1_ := Aside0.mk (below_step (by repeat (first | (with_reducible first | exact HB.out | apply below_alloc | apply pw_below_drewN | apply below_drew1 | refine below_set ?_ GE127.out) | exact HB.out)) hb); clear BK127; clear HB; have BK127 := n0_; have HB := n1_; clear n0_ n1_; (try clear hb); (try clear hb2); (try clear hk); (try clear hi)))
    go_meet
    case rel => exact ⟨_, (true), (by first | rfl | (simp; done) | (simp [*]; done)), H', ⟨by first | omega | exact Nat.le_refl _⟩, ⟨by (with_reducible repeat (first | refine blk_drewN ?_ _ | refine blk_drew ?_ | refine blk_alloc ?_ _)); exact BK127.out⟩, ⟨by repeat (first | (with_reducible first | exact HB.out | apply below_alloc | apply pw_below_drewN | apply below_drew1 | refine below_set ?_ GE127.out) | exact HB.out)⟩⟩
   ·rw [if_neg c7] at H
    have c7b0 : decide ((l1.length : Int) < 1) = false := decide_eq_false c7
    have c7b1 : decide (l1.length < 1) = false := decide_eq_false (by omega)
    clear c7
    (first | rw [c7b0] | (simp only [i64_w, i32_w]; rw [c7b0]) | skip)
    by_cases c10 : (l1.length : Int) > 200
    ·rw [if_pos c10] at H
     have c10b0 : decide (200 < (l1.length : Int)) = true := decide_eq_true c10
     have c10b1 : decide (200 < l1.length) = true := decide_eq_true (by omega)
     clear c10
     have H' := Aside0.mk H
     clear H
     have hcz11_0 : w4.cell? ⟨gb127, 0, none⟩ = some (.slice A0_0 l0_0.length c0_0) := (blk_cell BK127.out 0).trans rfl
     have hfz11_0 := blk_frozen BK127.out 0
     go_wp2_with (first | ((with_reducible refine gate_callee (f := 34) rfl ?_); refine goesL_ (some 7) rfl rfl Try.func34 (by kernel_rfl) rfl #[.agg #[.slice A0_0 l0_0.length c0_0]] rfl (by (try simp only [List.map_toArray, List.map_cons, List.map_nil]); first | done | rfl | (simp only [List.length_drop, List.length_take]; rfl)) ?_; (with_reducible refine (spec_ProgOk.calls k _ _ l0_0 true _ ?side1 ?side2 A5.out).mono ?_); (case side1 => repeat (first | exact (Kd.C_below HR0_0.out HB.out) | (with_reducible refine Kd.C_alloc ?_ _) | (with_reducible refine Kd.C_drewN ?_ _) | (with_reducible refine Kd.C_drew ?_))); (case side2 => exact HC0_0.out); rintro e w12 ⟨rfl, hb⟩; refine ⟨_, rfl, ?_⟩; have n0_ := Aside0.mk (blk_below (g := gb127) (o := .cells #[.slice A0_0 l0_0.length c0_0] 30 (0, 0)) (by (with_reducible repeat (first | refine blk_drewN ?_ _ | refine blk_drew ?_ | refine blk_alloc ?_ _)); exact BK127.out) hb); have n1_ := Aside0.mk (below_step (by repeat (first | (with_reducible first | exact HB.out | apply below_alloc | apply pw_below_drewN | apply below_drew1 | refine below_set ?_ GE127.out) | exact HB.out)) hb); clear BK127; clear HB; have BK127 := n0_; have HB := n1_; clear n0_ n1_; (try clear hb); (try clear hb2); (try clear hk); (try clear hi)))
     go_meet
     case rel => exact ⟨_, (true), (by first | rfl | (simp; done) | (simp [*]; done)), H', ⟨by first | omega | exact Nat.le_refl _⟩, ⟨by (with_reducible repeat (first | refine blk_drewN ?_ _ | refine blk_drew ?_ | refine blk_alloc ?_ _)); exact BK127.out⟩, ⟨by repeat (first | (with_reducible first | exact HB.out | apply below_alloc | apply pw_below_drewN | apply below_drew1 | refine below_set ?_ GE127.out) | exact HB.out)⟩⟩
    ·rw [if_neg c10] at H
     have c10b0 : decide (200 < (l1.length : Int)) = false := decide_eq_false c10
     have c10b1 : decide (200 < l1.length) = false := decide_eq_false (by omega)
     clear c10
     by_cases c13 : 0 < (l1.length : Int)
     ·rw [if_pos c13] at H
      have c13b0 : decide (0 < (l1.length : Int)) = true := decide_eq_true c13
      have c13b1 : decide (0 < l1.length) = true := decide_eq_true (by omega)
      clear c13
      have H' := Aside0.mk H
      clear H
      have hcz14_0 : w4.cell? ⟨gb127, 0, none⟩ = some (.slice A0_0 l0_0.length c0_0) := (blk_cell BK127.out 0).trans rfl
      have hfz14_0 := blk_frozen BK127.out 0
      go_wp2_with (first | ((with_reducible refine gate_callee (f := 34) rfl ?_); refine goesL_ (some 7) rfl rfl Try.func34 (by kernel_rfl) rfl #[.agg #[.slice A0_0 l0_0.length c0_0]] rfl (by (try simp only [List.map_toArray, List.map_cons, List.map_nil]); first | done | rfl | (simp only [List.length_drop, List.length_take]; rfl)) ?_; (with_reducible refine (spec_ProgOk.calls k _ _ l0_0 true _ ?side1 ?side2 A5.out).mono ?_); (case side1 => repeat (first | exact (Kd.C_below HR0_0.out HB.out) | (with_reducible refine Kd.C_alloc ?_ _) | (with_reducible refine Kd.C_drewN ?_ _) | (with_reducible refine Kd.C_drew ?_))); (case side2 => exact HC0_0.out); rintro e w15 ⟨rfl, hb⟩; refine ⟨_, rfl, ?_⟩; have n0_ := Aside0.mk (blk_below (g := gb127) (o := .cells #[.slice A0_0 l0_0.length c0_0] 30 (0, 0)) (by (with_reducible repeat (first | refine blk_drewN ?_ _ | refine blk_drew ?_ | refine blk_alloc ?_ _)); exact BK127.out) hb); have n1_ := Aside0.mk (below_step (by repeat (first | (with_reducible first | exact HB.out | apply below_alloc | apply pw_below_drewN | apply below_drew1 | refine below_set ?_ GE127.out) | exact HB.out)) hb); clear BK127; clear HB; have BK127 := n0_; have HB := n1_; clear n0_ n1_; (try clear hb); (try clear hb2); (try clear hk); (try clear hi); have p129 : 0 ≤ (0 : Int) := (by omega); have q129 : 0 < (l1.length : Int) := of_decide_eq_true (by first | (with_reducible assumption) | assumption); obtain ⟨ad129, e129, hx129_0⟩ := Kd.at_int HR1.out 0 p129 q129; cases e129; have qi129 : (0 < l1.length) = True := eq_true (by omega); (try rw [show ((0 : Int)).toNat = 0 from rfl] at hx129_0); (try rw [Addr.add_zero'] at hx129_0); replace hx129_0 := (HB.out.cell (World.block_lt_of_cell? w _ hx129_0)).trans hx129_0; replace p129 := eq_true p129; replace q129 := eq_true q129))
      go_meet
      case rel => exact ⟨_, (((rd l1 0) != 0)), (by first | rfl | (simp; done) | (simp [*]; done)), H', ⟨by first | omega | exact Nat.le_refl _⟩, ⟨by (with_reducible repeat (first | refine blk_drewN ?_ _ | refine blk_drew ?_ | refine blk_alloc ?_ _)); exact BK127.out⟩, ⟨by repeat (first | (with_reducible first | exact HB.out | apply below_alloc | apply pw_below_drewN | apply below_drew1 | refine below_set ?_ GE127.out) | exact HB.out)⟩⟩
     ·rw [if_neg c13] at H
      exact absurd H (by simp)
  ·replace c6 := Bool.eq_false_iff.mpr c6
   subst c6
   have H1 : (spec_PathOk.j0 k l1 true l0_0) = some r := by rw [if_neg (show ¬ (false = true) by decide)] at H; exact H
   clear H
   have H := H1
   clear H1
   have H' := Aside0.mk H
   clear H
   have hcz16_0 : w4.cell? ⟨gb127, 0, none⟩ = some (.slice A0_0 l0_0.length c0_0) := (blk_cell BK127.out 0).trans rfl
   have hfz16_0 := blk_frozen BK127.out 0
   go_wp2_with (first | ((with_reducible refine gate_callee (f := 34) rfl ?_); refine goesL_ (some 7) rfl rfl Try.func34 (by kernel_rfl) rfl #[.agg #[.slice A0_0 l0_0.length c0_0]] rfl (by (try simp only [List.map_toArray, List.map_cons, List.map_nil]); first | done | rfl | (simp only [List.length_drop, List.length_take]; rfl)) ?_; (with_reducible refine (spec_ProgOk.calls k _ _ l0_0 false _ ?side1 ?side2 A5.out).mono ?_); (case side1 => repeat (first | exact (Kd.C_below HR0_0.out HB.out) | (with_reducible refine Kd.C_alloc ?_ _) | (with_reducible refine Kd.C_drewN ?_ _) | (with_reducible refine Kd.C_drew ?_))); (case side2 => exact HC0_0.out); rintro e w17 ⟨rfl, hb⟩; refine ⟨_, rfl, ?_⟩; have n0_ := Aside0.mk (blk_below (g := gb127) (o := .cells #[.slice A0_0 l0_0.length c0_0] 30 (0, 0)) (by (with_reducible repeat (first | refine blk_drewN ?_ _ | refine blk_drew ?_ | refine blk_alloc ?_ _)); exact BK127.out) hb); have n1_ := Aside0.mk (below_step (by repeat (first | (with_reducible first | exact HB.out | apply below_alloc | apply pw_below_drewN | apply below_drew1 | refine below_set ?_ GE127.out) | exact HB.out)) hb); clear BK127; clear HB; have BK127 := n0_; have HB := n1_; clear n0_ n1_; (try clear hb); (try clear hb2); (try clear hk); (try clear hi)))
   go_meet
   case rel => exact ⟨_, (true), (by first | rfl | (simp; done) | (simp [*]; done)), H', ⟨by first | omega | exact Nat.le_refl _⟩, ⟨by (with_reducible repeat (first | refine blk_drewN ?_ _ | refine blk_drew ?_ | refine blk_alloc ?_ _)); exact BK127.out⟩, ⟨by repeat (first | (with_reducible first | exact HB.out | apply below_alloc | apply pw_below_drewN | apply below_drew1 | refine below_set ?_ GE127.out) | exact HB.out)⟩⟩
 case rest =>
  clear HC3
  try clear c1
  try clear p1
  try clear q1
  try clear hx1
  try clear qi1
  try clear p2
  try clear c3
  try clear c6
  try clear c7
  try clear c7b0
  try clear c7b1
  try clear c8
  try clear c10
  try clear c10b0
  try clear c10b1
  try clear p12
  try clear q12
  try clear hx12
  try clear qi12
  try clear c13
  try clear c13b0
  try clear c13b1
  try clear hcz11_0
  try clear hcz14_0
  try clear hcz16_0
  try clear hcz8_0
  try clear hfz11_0
  try clear hfz14_0
  try clear hfz16_0
  try clear hfz8_0
  try clear hx129_0
  try clear p129
  try clear q129
  obtain ⟨kq, x24_2, rfl, HA, HJ2, BK127, HB⟩ := hcut
  cases kq with
  | zero => exact absurd HA.out (by intro h_; first | (cases h_; done) | (simp [spec_PathOk.j0] at h_))
  | succ kj2 =>
   have H := HA.out
   clear HA
   simp only [spec_PathOk.j0] at H
   by_cases c18 : x24_2 = true
   ·subst c18
    have H1 : (some false) = some r := by rw [if_pos rfl] at H; exact H
    clear H
    have H := H1
    clear H1
    obtain rfl := Option.some.inj H
    go_wp2
    go_ret
    exact ⟨by first | rfl | (simp [errW_none, errW_some] <;> rfl) | (simp [*, errW_none, errW_some] <;> rfl), by repeat (first | (with_reducible first | exact HB.out | apply below_alloc | apply pw_below_drewN | apply below_drew1 | refine below_set ?_ GE127.out) | exact HB.out)⟩
   ·replace c18 := Bool.eq_false_iff.mpr c18
    subst c18
    have H1 : (spec_PathOk.l0 kj2 l1 1 l0_0) = some r := by rw [if_neg (show ¬ (false = true) by decide)] at H; exact H
    clear H
    have H := H1
    clear H1
    have H' := Aside0.mk H
    clear H
    go_wp2
    go_loopg [5] kj2 (fun kq v5 w' => ∃ (x5_2 : Int), v5 = .int .i64 x5_2 ∧ Aside0 (spec_PathOk.l0 kq l1 x5_2 l0_0 = some r) ∧ Aside0 (kq ≤ kj2) ∧ Aside0 (w'.heap[gb127]? = some (.cells #[(.slice A0_0 l0_0.length c0_0)] 30 (0, 0))) ∧ Aside0 (Below w.heap.size w w'))
    case atStart => exact ⟨(1), (by first | rfl | (simp; done) | (simp [*]; done)), H', ⟨Nat.le_refl _⟩, ⟨by (with_reducible repeat (first | refine blk_drewN ?_ _ | refine blk_drew ?_ | refine blk_alloc ?_ _)); exact BK127.out⟩, ⟨by repeat (first | (with_reducible first | exact HB.out | apply below_alloc | apply pw_below_drewN | apply below_drew1 | refine below_set ?_ GE127.out) | exact HB.out)⟩⟩
    case round =>
     clear H'
     try clear c1
     try clear p1
     try clear q1
     try clear hx1
     try clear qi1
     try clear p2
     try clear c3
     try clear c6
     try clear c7
     try clear c7b0
     try clear c7b1
     try clear c8
     try clear c10
     try clear c10b0
     try clear c10b1
     try clear p12
     try clear q12
     try clear hx12
     try clear qi12
     try clear c13
     try clear c13b0
     try clear c13b1
     try clear c18
     try clear hcz11_0
     try clear hcz14_0
     try clear hcz16_0
     try clear hcz8_0
     try clear hfz11_0
     try clear hfz14_0
     try clear hfz16_0
     try clear hfz8_0
     try clear hx129_0
     try clear p1
     try clear p12
     try clear p129
     try clear p2
     try clear q1
     try clear q12
     try clear q129
     obtain ⟨x5_2, rfl, HA, HK2, BK127, HB⟩ := hrel
     cases gk with
     | zero => exact absurd HA.out (by intro h_; first | (cases h_; done) | (simp [spec_PathOk.l0] at h_))
     | succ k2 =>
      have H := HA.out
      clear HA
      simp only [spec_PathOk.l0] at H
      by_cases c19 : x5_2 < (l1.length : Int)
      ·rw [if_pos c19] at H
       have c19b0 : decide (x5_2 < (l1.length : Int)) = true := decide_eq_true c19
       clear c19
       by_cases c20 : 0 ≤ x5_2
       ·rw [if_pos c20] at H
        have c20b0 : decide (0 ≤ x5_2) = true := decide_eq_true c20
        clear c20
        replace H := Option.bind_eq_some_iff.mp H
        obtain ⟨t133, A210, H⟩ := H
        replace H : (if t133 = true then (if 0 ≤ (wrap64 (x5_2 - 1)) then (if (wrap64 (x5_2 - 1)) < (l1.length : Int) then (if 0 ≤ (rd l1 (wrap64 (x5_2 - 1))) then (if (rd l1 (wrap64 (x5_2 - 1))) < (l0_0.length : Int) then ((spec_l2Goes.f k2 ((rd_T69 l0_0 (rd l1 (wrap64 (x5_2 - 1)))).f0) ((rd_T69 l0_0 (rd l1 (wrap64 (x5_2 - 1)))).f1) ((rd_T69 l0_0 (rd l1 (wrap64 (x5_2 - 1)))).f2) ((rd_T69 l0_0 (rd l1 (wrap64 (x5_2 - 1)))).f3.f0) ((rd_T69 l0_0 (rd l1 (wrap64 (x5_2 - 1)))).f3.f1) ((rd_T69 l0_0 (rd l1 (wrap64 (x5_2 - 1)))).f4.f0) ((rd_T69 l0_0 (rd l1 (wrap64 (x5_2 - 1)))).f4.f1) ((rd_T69 l0_0 (rd l1 (wrap64 (x5_2 - 1)))).f5) (rd l1 x5_2)).bind fun t137 => (if t137 = true then (spec_PathOk.l0 k2 l1 (wrap64 (x5_2 + 1)) l0_0) else (some false))) else (none)) else (none)) else (none)) else (none)) else (some false)) = some r := H
        have A21 := Aside0.mk A210
        clear A210
        by_cases c22 : t133 = true
        ·subst c22
         have H1 : (if 0 ≤ (wrap64 (x5_2 - 1)) then (if (wrap64 (x5_2 - 1)) < (l1.length : Int) then (if 0 ≤ (rd l1 (wrap64 (x5_2 - 1))) then (if (rd l1 (wrap64 (x5_2 - 1))) < (l0_0.length : Int) then ((spec_l2Goes.f k2 ((rd_T69 l0_0 (rd l1 (wrap64 (x5_2 - 1)))).f0) ((rd_T69 l0_0 (rd l1 (wrap64 (x5_2 - 1)))).f1) ((rd_T69 l0_0 (rd l1 (wrap64 (x5_2 - 1)))).f2) ((rd_T69 l0_0 (rd l1 (wrap64 (x5_2 - 1)))).f3.f0) ((rd_T69 l0_0 (rd l1 (wrap64 (x5_2 - 1)))).f3.f1) ((rd_T69 l0_0 (rd l1 (wrap64 (x5_2 - 1)))).f4.f0) ((rd_T69 l0_0 (rd l1 (wrap64 (x5_2 - 1)))).f4.f1) ((rd_T69 l0_0 (rd l1 (wrap64 (x5_2 - 1)))).f5) (rd l1 x5_2)).bind fun t137 => (if t137 = true then (spec_PathOk.l0 k2 l1 (wrap64 (x5_2 + 1)) l0_0) else (some false))) else (none)) else (none)) else (none)) else (none)) = some r := by rw [if_pos rfl] at H; exact H
         clear H
         have H := H1
         clear H1
         obtain ⟨ji23, hji23⟩ : ∃ j_ : Int, (wrap64 (x5_2 - 1)) = j_ := ⟨_, rfl⟩
         replace H : (if 0 ≤ (ji23) then (if (ji23) < (l1.length : Int) then (if 0 ≤ (rd l1 (ji23)) then (if (rd l1 (ji23)) < (l0_0.length : Int) then ((spec_l2Goes.f k2 ((rd_T69 l0_0 (rd l1 (ji23))).f0) ((rd_T69 l0_0 (rd l1 (ji23))).f1) ((rd_T69 l0_0 (rd l1 (ji23))).f2) ((rd_T69 l0_0 (rd l1 (ji23))).f3.f0) ((rd_T69 l0_0 (rd l1 (ji23))).f3.f1) ((rd_T69 l0_0 (rd l1 (ji23))).f4.f0) ((rd_T69 l0_0 (rd l1 (ji23))).f4.f1) ((rd_T69 l0_0 (rd l1 (ji23))).f5) (rd l1 x5_2)).bind fun t137 => (if t137 = true then (spec_PathOk.l0 k2 l1 (wrap64 (x5_2 + 1)) l0_0) else (some false))) else (none)) else (none)) else (none)) else (none)) = some r := by first | (rw [hji23] at H; exact H) | (simp only [hji23] at H ⊢; exact H)
         (try rw [hji23] at A21)
         have hji23w : (IntKind.i64.wrap (x5_2 - 1)) = ji23 := (i64_w _).trans hji23
         by_cases c24 : 0 ≤ (ji23)
         ·rw [if_pos c24] at H
          have c24b0 : decide (0 ≤ (ji23)) = true := decide_eq_true c24
          clear c24
          by_cases c25 : (ji23) < (l1.length : Int)
          ·rw [if_pos c25] at H
           have c25b0 : decide ((ji23) < (l1.length : Int)) = true := decide_eq_true c25
           clear c25
           by_cases c26 : 0 ≤ (rd l1 (ji23))
           ·rw [if_pos c26] at H
            have c26b0 : decide (0 ≤ (rd l1 (ji23))) = true := decide_eq_true c26
            clear c26
            by_cases c27 : (rd l1 (ji23)) < (l0_0.length : Int)
            ·rw [if_pos c27] at H
             have c27b0 : decide ((rd l1 (ji23)) < (l0_0.length : Int)) = true := decide_eq_true c27
             clear c27
             replace H := Option.bind_eq_some_iff.mp H
             obtain ⟨t137, A280, H⟩ := H
             replace H : (if t137 = true then (spec_PathOk.l0 k2 l1 (wrap64 (x5_2 + 1)) l0_0) else (some false)) = some r := H
             have A28 := Aside0.mk A280
             clear A280
             by_cases c29 : t137 = true
             ·subst c29
              have H1 : (spec_PathOk.l0 k2 l1 (wrap64 (x5_2 + 1)) l0_0) = some r := by rw [if_pos rfl] at H; exact H
              clear H
              have H := H1
              clear H1
              have H' := Aside0.mk H
              clear H
              try go_wp2
              have n0_ := Aside0.mk (blk_drew BK127.out)
              have n1_ := Aside0.mk (below_drew1 HB.out)
              clear BK127
              clear HB
              have BK127 := n0_
              have HB := n1_
              clear n0_ n1_
              have p132 : 0 ≤ (x5_2 : Int) := of_decide_eq_true (by first | (with_reducible assumption) | assumption)
              have q132 : x5_2 < (l1.length : Int) := of_decide_eq_true (by first | (with_reducible assumption) | assumption)
              obtain ⟨ad132, e132, hx132_0⟩ := Kd.at_int HR1.out x5_2 p132 q132
              have hw132_0 := hx132_0
              cases e132
              replace hx132_0 := (HB.out.cell (World.block_lt_of_cell? w _ hx132_0)).trans hx132_0
              replace p132 := eq_true p132
              replace q132 := eq_true q132
              have p134 : 0 ≤ ((ji23) : Int) := of_decide_eq_true (by first | (with_reducible assumption) | assumption)
              have q134 : (ji23) < (l1.length : Int) := of_decide_eq_true (by first | (with_reducible assumption) | assumption)
              obtain ⟨ad134, e134, hx134_0⟩ := Kd.at_int HR1.out (ji23) p134 q134
              have hw134_0 := hx134_0
              obtain rfl : ad132 = ad134 := (by injection e134)
              replace hx134_0 := (HB.out.cell (World.block_lt_of_cell? w _ hx134_0)).trans hx134_0
              replace p134 := eq_true p134
              replace q134 := eq_true q134
              have p135 : 0 ≤ ((rd l1 (ji23)) : Int) := of_decide_eq_true (by first | (with_reducible assumption) | assumption)
              have q135 : (rd l1 (ji23)) < (l0_0.length : Int) := of_decide_eq_true (by first | (with_reducible assumption) | assumption)
              obtain ⟨ad135, A135_7, c135_7, e135, hx135_0, hx135_1, hx135_2, hx135_3, hx135_4, hx135_5, hx135_6, hx135_7, hl135_7, hi135_7⟩ := at_T69 HR0_0.out (rd l1 (ji23)) p135 q135
              have hw135_7 := hx135_7
              have hw135_6 := hx135_6
              have hw135_5 := hx135_5
              have hw135_4 := hx135_4
              have hw135_3 := hx135_3
              have hw135_2 := hx135_2
              have hw135_1 := hx135_1
              have hw135_0 := hx135_0
              cases e135
              replace hx135_0 := (HB.out.cell (World.block_lt_of_cell? w _ hx135_0)).trans hx135_0
              replace hx135_1 := (HB.out.cell (World.block_lt_of_cell? w _ hx135_1)).trans hx135_1
              replace hx135_2 := (HB.out.cell (World.block_lt_of_cell? w _ hx135_2)).trans hx135_2
              replace hx135_3 := (HB.out.cell (World.block_lt_of_cell? w _ hx135_3)).trans hx135_3
              replace hx135_4 := (HB.out.cell (World.block_lt_of_cell? w _ hx135_4)).trans hx135_4
              replace hx135_5 := (HB.out.cell (World.block_lt_of_cell? w _ hx135_5)).trans hx135_5
              replace hx135_6 := (HB.out.cell (World.block_lt_of_cell? w _ hx135_6)).trans hx135_6
              replace hx135_7 := (HB.out.cell (World.block_lt_of_cell? w _ hx135_7)).trans hx135_7
              have HR135_7 := Aside0.mk hi135_7
              have HC135_7 := Aside0.mk hl135_7
              clear hi135_7 hl135_7
              replace p135 := eq_true p135
              replace q135 := eq_true q135
              have p136 : 0 ≤ (x5_2 : Int) := of_decide_eq_true (by first | (with_reducible assumption) | assumption)
              have q136 : x5_2 < (l1.length : Int) := of_decide_eq_true (by first | (with_reducible assumption) | assumption)
              obtain ⟨ad136, e136, hx136_0⟩ := Kd.at_int HR1.out x5_2 p136 q136
              have hw136_0 := hx136_0
              obtain rfl : ad132 = ad136 := (by injection e136)
              replace hx136_0 := (HB.out.cell (World.block_lt_of_cell? w _ hx136_0)).trans hx136_0
              replace p136 := eq_true p136
              replace q136 := eq_true q136
              refine start_ (n := 27) (S := fun w' => w'.cell? ⟨gb127, 0, none⟩ = some (.slice (some ad135) l0_0.length c0_0) ∧ w'.cell? (ad132.add (x5_2).toNat) = some (.int .i64 (rd l1 x5_2)) ∧ w'.cell? (ad132.add ((ji23)).toNat) = some (.int .i64 (rd l1 (ji23))) ∧ w'.cell? (ad135.add (((rd l1 (ji23))).toNat * 8)) = some (.int .i64 ((rd_T69 l0_0 (rd l1 (ji23))).f0)) ∧ w'.cell? ⟨(ad135.add (((rd l1 (ji23))).toNat * 8)).block, (ad135.add (((rd l1 (ji23))).toNat * 8)).off + 1, none⟩ = some (.int .i64 ((rd_T69 l0_0 (rd l1 (ji23))).f1)) ∧ w'.cell? ⟨(ad135.add (((rd l1 (ji23))).toNat * 8)).block, (ad135.add (((rd l1 (ji23))).toNat * 8)).off + 2, none⟩ = some (.int .i64 ((rd_T69 l0_0 (rd l1 (ji23))).f2)) ∧ w'.cell? ⟨(ad135.add (((rd l1 (ji23))).toNat * 8)).block, (ad135.add (((rd l1 (ji23))).toNat * 8)).off + 3, none⟩ = some (.int .i64 ((rd_T69 l0_0 (rd l1 (ji23))).f3.f0)) ∧ w'.cell? ⟨(ad135.add (((rd l1 (ji23))).toNat * 8)).block, (ad135.add (((rd l1 (ji23))).toNat * 8)).off + 4, none⟩ = some (.int .i64 ((rd_T69 l0_0 (rd l1 (ji23))).f3.f1)) ∧ w'.cell? ⟨(ad135.add (((rd l1 (ji23))).toNat * 8)).block, (ad135.add (((rd l1 (ji23))).toNat * 8)).off + 5, none⟩ = some (.int .i64 ((rd_T69 l0_0 (rd l1 (ji23))).f4.f0)) ∧ w'.cell? ⟨(ad135.add (((rd l1 (ji23))).toNat * 8)).block, (ad135.add (((rd l1 (ji23))).toNat * 8)).off + 6, none⟩ = some (.int .i64 ((rd_T69 l0_0 (rd l1 (ji23))).f4.f1)) ∧ w'.cell? ⟨(ad135.add (((rd l1 (ji23))).toNat * 8)).block, (ad135.add (((rd l1 (ji23))).toNat * 8)).off + 7, none⟩ = some (.slice A135_7 ((rd_T69 l0_0 (rd l1 (ji23))).f5).length c135_7) ∧ w'.cell? (ad132.add (x5_2).toNat) = some (.int .i64 (rd l1 x5_2))) (ds := []) #[false, false, false, false, false, false, false, false, false, false, false, false, false, false, false, false, false, false, false, false, false, false, false, false, false, false, false] (by kernel_rfl) rfl rfl ⟨(blk_cell BK127.out 0).trans rfl, ((HB.out.cell (World.block_lt_of_cell? w _ hw132_0)).trans hw132_0), ((HB.out.cell (World.block_lt_of_cell? w _ hw134_0)).trans hw134_0), ((HB.out.cell (World.block_lt_of_cell? w _ hw135_0)).trans hw135_0), ((HB.out.cell (World.block_lt_of_cell? w _ hw135_1)).trans hw135_1), ((HB.out.cell (World.block_lt_of_cell? w _ hw135_2)).trans hw135_2), ((HB.out.cell (World.block_lt_of_cell? w _ hw135_3)).trans hw135_3), ((HB.out.cell (World.block_lt_of_cell? w _ hw135_4)).trans hw135_4), ((HB.out.cell (World.block_lt_of_cell? w _ hw135_5)).trans hw135_5), ((HB.out.cell (World.block_lt_of_cell? w _ hw135_6)).trans hw135_6), ((HB.out.cell (World.block_lt_of_cell? w _ hw135_7)).trans hw135_7), ((HB.out.cell (World.block_lt_of_cell? w _ hw136_0)).trans hw136_0)⟩ (fun hHeld => ?_); refine with_tabW spec_PathOk.tab6 spec_PathOk.bits6 (fun HT_ HW_ => ?_)
              generalize wr.drew = w30 at BK127 HB HR135_7 hx132_0 hx134_0 hx135_0 hx135_1 hx135_2 hx135_3 hx135_4 hx135_5 hx135_6 hx135_7 hx136_0 hHeld ⊢
              refine pure_ (i := 0) (N := some 31) (v := ?_) (a' := ?_) #[true, false, false, false, false, false, false, false, false, false, false, false, false, false, false, false, false, false, false, false, false, false, false, false, false, false, false] rfl rfl (any_of HT_.out (by kernel_rfl)) (fun _ _ _ h => h) (Or.inl ⟨by rfl, ?_⟩) ?_ ?_
              rotate_left
              ·intro w'
               go_simp
               with_reducible rfl
              rotate_left
              ·simp only [Act.put, List.setIfInBounds_toArray, List.set_cons_zero, List.set_cons_succ, i64_w, i32_w]
               rfl
              refine pure_ (i := 1) (N := some 32) (v := ?_) (a' := ?_) #[true, true, false, false, false, false, false, false, false, false, false, false, false, false, false, false, false, false, false, false, false, false, false, false, false, false, false] rfl rfl (any_of HT_.out (by kernel_rfl)) (fun _ _ _ h => h) (Or.inl ⟨by rfl, ?_⟩) ?_ ?_
              rotate_left
              ·intro w'
               go_simp
               with_reducible rfl
              rotate_left
              ·simp only [Act.put, List.setIfInBounds_toArray, List.set_cons_zero, List.set_cons_succ, i64_w, i32_w]
               rfl
              refine pure_ (i := 2) (N := some 33) (v := ?_) (a' := ?_) #[true, true, true, false, false, false, false, false, false, false, false, false, false, false, false, false, false, false, false, false, false, false, false, false, false, false, false] rfl rfl (any_of HT_.out (by kernel_rfl)) (fun _ _ _ h => h) (Or.inl ⟨by rfl, ?_⟩) ?_ ?_
              rotate_left
              ·intro w'
               go_simp
               with_reducible rfl
              rotate_left
              ·simp only [Act.put, List.setIfInBounds_toArray, List.set_cons_zero, List.set_cons_succ, i64_w, i32_w]
               rfl
              refine pure_ (i := 4) (N := some 35) (v := ?_) (a' := ?_) #[true, true, true, false, true, false, false, false, false, false, false, false, false, false, false, false, false, false, false, false, false, false, false, false, false, false, false] rfl rfl (any_of HT_.out (by kernel_rfl)) (fun _ _ _ h => h) (Or.inl ⟨by rfl, ?_⟩) ?_ ?_
              rotate_left
              ·intro w'
               go_simp
               with_reducible rfl
              rotate_left
              ·simp only [Act.put, List.setIfInBounds_toArray, List.set_cons_zero, List.set_cons_succ, i64_w, i32_w]
               rfl
              refine take_ (i := 3) (N := some 34) (v := ?_) (a' := ?_) #[true, true, true, true, true, false, false, false, false, false, false, false, false, false, false, false, false, false, false, false, false, false, false, false, false, false, false] rfl rfl (take_ofW HT_.out HW_.out (by kernel_rfl)) (fun _ _ _ h => h) (Or.inl ⟨by rfl, ?_⟩) hHeld ?_ ?_
              rotate_left
              ·rintro w' ⟨s0, s1, s2, s3, s4, s5, s6, s7, s8, s9, s10, s11⟩
               go_simp
               with_reducible rfl
              rotate_left
              ·simp only [Act.put, List.setIfInBounds_toArray, List.set_cons_zero, List.set_cons_succ, i64_w, i32_w]
               rfl
              refine take_ (i := 5) (N := some 36) (v := ?_) (a' := ?_) #[true, true, true, true, true, true, false, false, false, false, false, false, false, false, false, false, false, false, false, false, false, false, false, false, false, false, false] rfl rfl (take_ofW HT_.out HW_.out (by kernel_rfl)) (fun _ _ _ h => h) (Or.inl ⟨by rfl, ?_⟩) hHeld ?_ ?_
              rotate_left
              ·rintro w' ⟨s0, s1, s2, s3, s4, s5, s6, s7, s8, s9, s10, s11⟩
               go_simp
               with_reducible rfl
              rotate_left
              ·simp only [Act.put, List.setIfInBounds_toArray, List.set_cons_zero, List.set_cons_succ, i64_w, i32_w]
               rfl
              refine pure_ (i := 6) (N := some 37) (v := ?_) (a' := ?_) #[true, true, true, true, true, true, true, false, false, false, false, false, false, false, false, false, false, false, false, false, false, false, false, false, false, false, false] rfl rfl (any_of HT_.out (by kernel_rfl)) (fun _ _ _ h => h) (Or.inl ⟨by rfl, ?_⟩) ?_ ?_
              rotate_left
              ·intro w'
               go_simp
               with_reducible rfl
              rotate_left
              ·simp only [Act.put, List.setIfInBounds_toArray, List.set_cons_zero, List.set_cons_succ, i64_w, i32_w]
               rfl
              refine pure_ (i := 7) (N := some 38) (v := ?_) (a' := ?_) #[true, true, true, true, true, true, true, true, false, false, false, false, false, false, false, false, false, false, false, false, false, false, false, false, false, false, false] rfl rfl (any_of HT_.out (by kernel_rfl)) (fun _ _ _ h => h) (Or.inl ⟨by rfl, ?_⟩) ?_ ?_
              rotate_left
              ·intro w'
               go_simp
               with_reducible rfl
              rotate_left
              ·simp only [Act.put, List.setIfInBounds_toArray, List.set_cons_zero, List.set_cons_succ, i64_w, i32_w]
               rfl
              refine one_ (i := 8) (N := some 39) #[true, true, true, true, true, true, true, true, true, false, false, false, false, false, false, false, false, false, false, false, false, false, false, false, false, false, false] rfl rfl (one_of HT_.out (by kernel_rfl)) (by decide) (fun K hK => ?_)
              refine goes_ Try.func35 (by kernel_rfl) rfl #[.int .i64 (rd l1 x5_2), .int .i64 0, .int .i64 (wrap64 ((l0_0.length : Int) - 1))] (by rfl) rfl rfl (by (try simp only [List.map_toArray, List.map_cons, List.map_nil]); first | done | rfl | (simp only [List.length_drop, List.length_take]; rfl)) ?_
              with_reducible refine (spec_l6In.calls (rd l1 x5_2) 0 (wrap64 ((l0_0.length : Int) - 1)) true _ A21.out).mono ?_
              rintro e w' ⟨rfl, ⟨nd, rfl⟩⟩
              refine ⟨_, rfl, ?_⟩
              refine hK.out _ _ ⟨(blk_cell BK127.out 0).trans rfl, ((HB.out.cell (World.block_lt_of_cell? w _ hw132_0)).trans hw132_0), ((HB.out.cell (World.block_lt_of_cell? w _ hw134_0)).trans hw134_0), ((HB.out.cell (World.block_lt_of_cell? w _ hw135_0)).trans hw135_0), ((HB.out.cell (World.block_lt_of_cell? w _ hw135_1)).trans hw135_1), ((HB.out.cell (World.block_lt_of_cell? w _ hw135_2)).trans hw135_2), ((HB.out.cell (World.block_lt_of_cell? w _ hw135_3)).trans hw135_3), ((HB.out.cell (World.block_lt_of_cell? w _ hw135_4)).trans hw135_4), ((HB.out.cell (World.block_lt_of_cell? w _ hw135_5)).trans hw135_5), ((HB.out.cell (World.block_lt_of_cell? w _ hw135_6)).trans hw135_6), ((HB.out.cell (World.block_lt_of_cell? w _ hw135_7)).trans hw135_7), ((HB.out.cell (World.block_lt_of_cell? w _ hw136_0)).trans hw136_0)⟩ (fun hHeld => ?_)
              clear hK K
              refine norm_ (a' := ?_) ?_ ?_
              rotate_left
              ·show Act.put _ (some 39) _ = _
               simp only [Act.put, List.setIfInBounds_toArray, List.set_cons_zero, List.set_cons_succ, i64_w, i32_w]
               rfl
              refine pure_ (i := 9) (N := some 40) (v := ?_) (a' := ?_) #[true, true, true, true, true, true, true, true, true, true, false, false, false, false, false, false, false, false, false, false, false, false, false, false, false, false, false] rfl rfl (any_of HT_.out (by kernel_rfl)) (fun _ _ _ h => h) (Or.inl ⟨by rfl, ?_⟩) ?_ ?_
              rotate_left
              ·intro w'
               go_simp
               with_reducible rfl
              rotate_left
              ·simp only [Act.put, List.setIfInBounds_toArray, List.set_cons_zero, List.set_cons_succ, i64_w, i32_w]
               rfl
              refine pure_ (i := 10) (N := some 41) (v := ?_) (a' := ?_) #[true, true, true, true, true, true, true, true, true, true, true, false, false, false, false, false, false, false, false, false, false, false, false, false, false, false, false] rfl rfl (any_of HT_.out (by kernel_rfl)) (fun _ _ _ h => h) (Or.inl ⟨by rfl, ?_⟩) ?_ ?_
              rotate_left
              ·intro w'
               go_simp
               with_reducible rfl
              rotate_left
              ·simp only [Act.put, List.setIfInBounds_toArray, List.set_cons_zero, List.set_cons_succ, i64_w, i32_w]
               rfl
              refine pure_ (i := 11) (N := some 42) (v := ?_) (a' := ?_) #[true, true, true, true, true, true, true, true, true, true, true, true, false, false, false, false, false, false, false, false, false, false, false, false, false, false, false] rfl rfl (any_of HT_.out (by kernel_rfl)) (fun _ _ _ h => h) (Or.inl ⟨by rfl, ?_⟩) ?_ ?_
              rotate_left
              ·intro w'
               go_simp
               with_reducible rfl
              rotate_left
              ·simp only [Act.put, List.setIfInBounds_toArray, List.set_cons_zero, List.set_cons_succ, i64_w, i32_w]
               rfl
              refine pure_ (i := 13) (N := some 44) (v := ?_) (a' := ?_) #[true, true, true, true, true, true, true, true, true, true, true, true, false, true, false, false, false, false, false, false, false, false, false, false, false, false, false] rfl rfl (any_of HT_.out (by kernel_rfl)) (fun _ _ _ h => h) (Or.inl ⟨by rfl, ?_⟩) ?_ ?_
              rotate_left
              ·intro w'
               go_simp
               with_reducible rfl
              rotate_left
              ·simp only [Act.put, List.setIfInBounds_toArray, List.set_cons_zero, List.set_cons_succ, i64_w, i32_w]
               rfl
              refine pure_ (i := 14) (N := some 45) (v := ?_) (a' := ?_) #[true, true, true, true, true, true, true, true, true, true, true, true, false, true, true, false, false, false, false, false, false, false, false, false, false, false, false] rfl rfl (any_of HT_.out (by kernel_rfl)) (fun _ _ _ h => h) (Or.inl ⟨by rfl, ?_⟩) ?_ ?_
              rotate_left
              ·intro w'
               go_simp
               with_reducible rfl
              rotate_left
              ·simp only [Act.put, List.setIfInBounds_toArray, List.set_cons_zero, List.set_cons_succ, i64_w, i32_w]
               rfl
              refine pure_ (i := 15) (N := some 46) (v := ?_) (a' := ?_) #[true, true, true, true, true, true, true, true, true, true, true, true, false, true, true, true, false, false, false, false, false, false, false, false, false, false, false] rfl rfl (any_of HT_.out (by kernel_rfl)) (fun _ _ _ h => h) (Or.inl ⟨by rfl, ?_⟩) ?_ ?_
              rotate_left
              ·intro w'
               go_simp
               with_reducible rfl
              rotate_left
              ·simp only [Act.put, List.setIfInBounds_toArray, List.set_cons_zero, List.set_cons_succ, i64_w, i32_w]
               rfl
              refine pure_ (i := 16) (N := some 47) (v := ?_) (a' := ?_) #[true, true, true, true, true, true, true, true, true, true, true, true, false, true, true, true, true, false, false, false, false, false, false, false, false, false, false] rfl rfl (any_of HT_.out (by kernel_rfl)) (fun _ _ _ h => h) (Or.inl ⟨by rfl, ?_⟩) ?_ ?_
              rotate_left
              ·intro w'
               go_simp
               with_reducible rfl
              rotate_left
              ·simp only [Act.put, List.setIfInBounds_toArray, List.set_cons_zero, List.set_cons_succ, i64_w, i32_w]
               rfl
              refine pure_ (i := 20) (N := some 51) (v := ?_) (a' := ?_) #[true, true, true, true, true, true, true, true, true, true, true, true, false, true, true, true, true, false, false, false, true, false, false, false, false, false, false] rfl rfl (any_of HT_.out (by kernel_rfl)) (fun _ _ _ h => h) (Or.inl ⟨by rfl, ?_⟩) ?_ ?_
              rotate_left
              ·intro w'
               go_simp
               with_reducible rfl
              rotate_left
              ·simp only [Act.put, List.setIfInBounds_toArray, List.set_cons_zero, List.set_cons_succ, i64_w, i32_w]
               rfl
              refine pure_ (i := 21) (N := some 52) (v := ?_) (a' := ?_) #[true, true, true, true, true, true, true, true, true, true, true, true, false, true, true, true, true, false, false, false, true, true, false, false, false, false, false] rfl rfl (any_of HT_.out (by kernel_rfl)) (fun _ _ _ h => h) (Or.inl ⟨by rfl, ?_⟩) ?_ ?_
              rotate_left
              ·intro w'
               go_simp
               with_reducible rfl
              rotate_left
              ·simp only [Act.put, List.setIfInBounds_toArray, List.set_cons_zero, List.set_cons_succ, i64_w, i32_w]
               rfl
              refine pure_ (i := 22) (N := some 53) (v := ?_) (a' := ?_) #[true, true, true, true, true, true, true, true, true, true, true, true, false, true, true, true, true, false, false, false, true, true, true, false, false, false, false] rfl rfl (any_of HT_.out (by kernel_rfl)) (fun _ _ _ h => h) (Or.inl ⟨by rfl, ?_⟩) ?_ ?_
              rotate_left
              ·intro w'
               go_simp
               with_reducible rfl
              rotate_left
              ·simp only [Act.put, List.setIfInBounds_toArray, List.set_cons_zero, List.set_cons_succ, i64_w, i32_w]
               rfl
              refine take_ (i := 12) (N := some 43) (v := ?_) (a' := ?_) #[true, true, true, true, true, true, true, true, true, true, true, true, true, true, true, true, true, false, false, false, true, true, true, false, false, false, false] rfl rfl (take_ofW HT_.out HW_.out (by kernel_rfl)) (fun _ _ _ h => h) (Or.inl ⟨by rfl, ?_⟩) hHeld ?_ ?_
              rotate_left
              ·rintro w' ⟨s0, s1, s2, s3, s4, s5, s6, s7, s8, s9, s10, s11⟩
               go_simp
               with_reducible rfl
              rotate_left
              ·simp only [Act.put, List.setIfInBounds_toArray, List.set_cons_zero, List.set_cons_succ, i64_w, i32_w]
               rfl
              refine take_ (i := 17) (N := some 48) (v := ?_) (a' := ?_) #[true, true, true, true, true, true, true, true, true, true, true, true, true, true, true, true, true, true, false, false, true, true, true, false, false, false, false] rfl rfl (take_ofW HT_.out HW_.out (by kernel_rfl)) (fun _ _ _ h => h) (Or.inl ⟨by rfl, ?_⟩) hHeld ?_ ?_
              rotate_left
              ·rintro w' ⟨s0, s1, s2, s3, s4, s5, s6, s7, s8, s9, s10, s11⟩
               go_simp
               with_reducible rfl
              rotate_left
              ·simp only [Act.put, List.setIfInBounds_toArray, List.set_cons_zero, List.set_cons_succ, i64_w, i32_w]
               rfl
              refine pure_ (i := 18) (N := some 49) (v := ?_) (a' := ?_) #[true, true, true, true, true, true, true, true, true, true, true, true, true, true, true, true, true, true, true, false, true, true, true, false, false, false, false] rfl rfl (any_of HT_.out (by kernel_rfl)) (fun _ _ _ h => h) (Or.inl ⟨by rfl, ?_⟩) ?_ ?_
              rotate_left
              ·intro w'
               go_simp
               with_reducible rfl
              rotate_left
              ·simp only [Act.put, List.setIfInBounds_toArray, List.set_cons_zero, List.set_cons_succ, i64_w, i32_w]
               rfl
              refine take_ (i := 19) (N := some 50) (v := ?_) (a' := ?_) #[true, true, true, true, true, true, true, true, true, true, true, true, true, true, true, true, true, true, true, true, true, true, true, false, false, false, false] rfl rfl (take_ofW HT_.out HW_.out (by kernel_rfl)) (fun _ _ _ h => h) (Or.inl ⟨by rfl, ?_⟩) hHeld ?_ ?_
              rotate_left
              ·rintro w' ⟨s0, s1, s2, s3, s4, s5, s6, s7, s8, s9, s10, s11⟩
               go_simp
               with_reducible rfl
              rotate_left
              ·simp only [Act.put, List.setIfInBounds_toArray, List.set_cons_zero, List.set_cons_succ, i64_w, i32_w]
               rfl
              refine take_ (i := 23) (N := some 54) (v := ?_) (a' := ?_) #[true, true, true, true, true, true, true, true, true, true, true, true, true, true, true, true, true, true, true, true, true, true, true, true, false, false, false] rfl rfl (take_ofW HT_.out HW_.out (by kernel_rfl)) (fun _ _ _ h => h) (Or.inl ⟨by rfl, ?_⟩) hHeld ?_ ?_
              rotate_left
              ·rintro w' ⟨s0, s1, s2, s3, s4, s5, s6, s7, s8, s9, s10, s11⟩
               go_simp
               with_reducible rfl
              rotate_left
              ·simp only [Act.put, List.setIfInBounds_toArray, List.set_cons_zero, List.set_cons_succ, i64_w, i32_w]
               rfl
              refine one_ (i := 24) (N := some 55) #[true, true, true, true, true, true, true, true, true, true, true, true, true, true, true, true, true, true, true, true, true, true, true, true, true, false, false] rfl rfl (one_of HT_.out (by kernel_rfl)) (by decide) (fun K hK => ?_)
              refine goes_ Try.func36 (by kernel_rfl) rfl #[.agg #[.int .i64 ((rd_T69 l0_0 (rd l1 (ji23))).f0), .int .i64 ((rd_T69 l0_0 (rd l1 (ji23))).f1), .int .i64 ((rd_T69 l0_0 (rd l1 (ji23))).f2), .int .i64 ((rd_T69 l0_0 (rd l1 (ji23))).f3.f0), .int .i64 ((rd_T69 l0_0 (rd l1 (ji23))).f3.f1), .int .i64 ((rd_T69 l0_0 (rd l1 (ji23))).f4.f0), .int .i64 ((rd_T69 l0_0 (rd l1 (ji23))).f4.f1), .slice A135_7 ((rd_T69 l0_0 (rd l1 (ji23))).f5).length c135_7], .int .i64 (rd l1 x5_2)] (by rfl) rfl rfl (by (try simp only [List.map_toArray, List.map_cons, List.map_nil]); first | done | (simp only [hji23]; rfl) | rfl | (simp only [List.length_drop, List.length_take]; rfl)) ?_
              with_reducible refine (spec_l2Goes.calls k2 ((rd_T69 l0_0 (rd l1 (ji23))).f0) ((rd_T69 l0_0 (rd l1 (ji23))).f1) ((rd_T69 l0_0 (rd l1 (ji23))).f2) ((rd_T69 l0_0 (rd l1 (ji23))).f3.f0) ((rd_T69 l0_0 (rd l1 (ji23))).f3.f1) ((rd_T69 l0_0 (rd l1 (ji23))).f4.f0) ((rd_T69 l0_0 (rd l1 (ji23))).f4.f1) _ _ ((rd_T69 l0_0 (rd l1 (ji23))).f5) (rd l1 x5_2) true _ ?side1 ?side2 A28.out).mono ?_
              (case side1 => repeat (first | exact (Kd.C_below HR135_7.out (by repeat (first | (with_reducible first | exact HB.out | apply below_alloc | apply pw_below_drewN | apply below_drew1 | refine below_set ?_ GE127.out) | exact HB.out))) | (with_reducible refine Kd.C_alloc ?_ _) | (with_reducible refine Kd.C_drewN ?_ _) | (with_reducible refine Kd.C_drew ?_)))
              (case side2 => exact HC135_7.out)
              rintro e w31 ⟨rfl, hb⟩
              refine ⟨_, rfl, ?_⟩
              have n0_ := Aside0.mk (blk_below (g := gb127) (o := .cells #[.slice (some ad135) l0_0.length c0_0] 30 (0, 0)) (by (with_reducible repeat (first | refine blk_drewN ?_ _ | refine blk_drew ?_ | refine blk_alloc ?_ _)); exact BK127.out) hb)
              have n1_ := Aside0.mk (below_step (by repeat (first | (with_reducible first | exact HB.out | apply below_alloc | apply pw_below_drewN | apply below_drew1 | refine below_set ?_ GE127.out) | exact HB.out)) hb)
              clear BK127
              clear HB
              have BK127 := n0_
              have HB := n1_
              clear n0_ n1_
              (try clear hb)
              (try clear hb2)
              (try clear hk)
              (try clear hi)
              refine hK.out _ _ ⟨(blk_cell BK127.out 0).trans rfl, ((HB.out.cell (World.block_lt_of_cell? w _ hw132_0)).trans hw132_0), ((HB.out.cell (World.block_lt_of_cell? w _ hw134_0)).trans hw134_0), ((HB.out.cell (World.block_lt_of_cell? w _ hw135_0)).trans hw135_0), ((HB.out.cell (World.block_lt_of_cell? w _ hw135_1)).trans hw135_1), ((HB.out.cell (World.block_lt_of_cell? w _ hw135_2)).trans hw135_2), ((HB.out.cell (World.block_lt_of_cell? w _ hw135_3)).trans hw135_3), ((HB.out.cell (World.block_lt_of_cell? w _ hw135_4)).trans hw135_4), ((HB.out.cell (World.block_lt_of_cell? w _ hw135_5)).trans hw135_5), ((HB.out.cell (World.block_lt_of_cell? w _ hw135_6)).trans hw135_6), ((HB.out.cell (World.block_lt_of_cell? w _ hw135_7)).trans hw135_7), ((HB.out.cell (World.block_lt_of_cell? w _ hw136_0)).trans hw136_0)⟩ (fun hHeld => ?_)
              clear hK K
              refine norm_ (a' := ?_) ?_ ?_
              rotate_left
              ·show Act.put _ (some 55) _ = _
               simp only [Act.put, List.setIfInBounds_toArray, List.set_cons_zero, List.set_cons_succ, i64_w, i32_w]
               rfl
              refine pure_ (i := 25) (N := some 56) (v := ?_) (a' := ?_) #[true, true, true, true, true, true, true, true, true, true, true, true, true, true, true, true, true, true, true, true, true, true, true, true, true, true, false] rfl rfl (any_of HT_.out (by kernel_rfl)) (fun _ _ _ h => h) (Or.inl ⟨by rfl, ?_⟩) ?_ ?_
              rotate_left
              ·intro w'
               go_simp
               with_reducible rfl
              rotate_left
              ·simp only [Act.put, List.setIfInBounds_toArray, List.set_cons_zero, List.set_cons_succ, i64_w, i32_w]
               rfl
              refine pure_ (i := 26) (N := some 57) (v := ?_) (a' := ?_) #[true, true, true, true, true, true, true, true, true, true, true, true, true, true, true, true, true, true, true, true, true, true, true, true, true, true, true] rfl rfl (any_of HT_.out (by kernel_rfl)) (fun _ _ _ h => h) (Or.inl ⟨by rfl, ?_⟩) ?_ ?_
              rotate_left
              ·intro w'
               go_simp
               with_reducible rfl
              rotate_left
              ·simp only [Act.put, List.setIfInBounds_toArray, List.set_cons_zero, List.set_cons_succ, i64_w, i32_w]
               rfl
              refine done_ (done_of HT_.out (by kernel_rfl)) ?_
              try go_wp2
              go_roundg k2
              case measure => have := HJ2.out; have := HK2.out; omega
              case rel => exact ⟨(wrap64 (x5_2 + 1)), (by first | rfl | (simp; done) | (simp [*]; done)), H', ⟨by have := HJ2.out; have := HK2.out; omega⟩, ⟨by (with_reducible repeat (first | refine blk_drewN ?_ _ | refine blk_drew ?_ | refine blk_alloc ?_ _)); exact BK127.out⟩, ⟨by repeat (first | (with_reducible first | exact HB.out | apply below_alloc | apply pw_below_drewN | apply below_drew1 | refine below_set ?_ GE127.out) | exact HB.out)⟩⟩
             ·replace c29 := Bool.eq_false_iff.mpr c29
              subst c29
              have H1 : (some false) = some r := by rw [if_neg (show ¬ (false = true) by decide)] at H; exact H
              clear H
              have H := H1
              clear H1
              obtain rfl := Option.some.inj H
              try go_wp2
              have n0_ := Aside0.mk (blk_drew BK127.out)
              have n1_ := Aside0.mk (below_drew1 HB.out)
              clear BK127
              clear HB
              have BK127 := n0_
              have HB := n1_
              clear n0_ n1_
              have p132 : 0 ≤ (x5_2 : Int) := of_decide_eq_true (by first | (with_reducible assumption) | assumption)
              have q132 : x5_2 < (l1.length : Int) := of_decide_eq_true (by first | (with_reducible assumption) | assumption)
              obtain ⟨ad132, e132, hx132_0⟩ := Kd.at_int HR1.out x5_2 p132 q132
              have hw132_0 := hx132_0
              cases e132
              replace hx132_0 := (HB.out.cell (World.block_lt_of_cell? w _ hx132_0)).trans hx132_0
              replace p132 := eq_true p132
              replace q132 := eq_true q132
              have p134 : 0 ≤ ((ji23) : Int) := of_decide_eq_true (by first | (with_reducible assumption) | assumption)
              have q134 : (ji23) < (l1.length : Int) := of_decide_eq_true (by first | (with_reducible assumption) | assumption)
              obtain ⟨ad134, e134, hx134_0⟩ := Kd.at_int HR1.out (ji23) p134 q134
              have hw134_0 := hx134_0
              obtain rfl : ad132 = ad134 := (by injection e134)
              replace hx134_0 := (HB.out.cell (World.block_lt_of_cell? w _ hx134_0)).trans hx134_0
              replace p134 := eq_true p134
              replace q134 := eq_true q134
              have p135 : 0 ≤ ((rd l1 (ji23)) : Int) := of_decide_eq_true (by first | (with_reducible assumption) | assumption)
              have q135 : (rd l1 (ji23)) < (l0_0.length : Int) := of_decide_eq_true (by first | (with_reducible assumption) | assumption)
              obtain ⟨ad135, A135_7, c135_7, e135, hx135_0, hx135_1, hx135_2, hx135_3, hx135_4, hx135_5, hx135_6, hx135_7, hl135_7, hi135_7⟩ := at_T69 HR0_0.out (rd l1 (ji23)) p135 q135
              have hw135_7 := hx135_7
              have hw135_6 := hx135_6
              have hw135_5 := hx135_5
              have hw135_4 := hx135_4
              have hw135_3 := hx135_3
              have hw135_2 := hx135_2
              have hw135_1 := hx135_1
              have hw135_0 := hx135_0
              cases e135
              replace hx135_0 := (HB.out.cell (World.block_lt_of_cell? w _ hx135_0)).trans hx135_0
              replace hx135_1 := (HB.out.cell (World.block_lt_of_cell? w _ hx135_1)).trans hx135_1
              replace hx135_2 := (HB.out.cell (World.block_lt_of_cell? w _ hx135_2)).trans hx135_2
              replace hx135_3 := (HB.out.cell (World.block_lt_of_cell? w _ hx135_3)).trans hx135_3
              replace hx135_4 := (HB.out.cell (World.block_lt_of_cell? w _ hx135_4)).trans hx135_4
              replace hx135_5 := (HB.out.cell (World.block_lt_of_cell? w _ hx135_5)).trans hx135_5
              replace hx135_6 := (HB.out.cell (World.block_lt_of_cell? w _ hx135_6)).trans hx135_6
              replace hx135_7 := (HB.out.cell (World.block_lt_of_cell? w _ hx135_7)).trans hx135_7
              have HR135_7 := Aside0.mk hi135_7
              have HC135_7 := Aside0.mk hl135_7
              clear hi135_7 hl135_7
              replace p135 := eq_true p135
              replace q135 := eq_true q135
              have p136 : 0 ≤ (x5_2 : Int) := of_decide_eq_true (by first | (with_reducible assumption) | assumption)
              have q136 : x5_2 < (l1.length : Int) := of_decide_eq_true (by first | (with_reducible assumption) | assumption)
              obtain ⟨ad136, e136, hx136_0⟩ := Kd.at_int HR1.out x5_2 p136 q136
              have hw136_0 := hx136_0
              obtain rfl : ad132 = ad136 := (by injection e136)
              replace hx136_0 := (HB.out.cell (World.block_lt_of_cell? w _ hx136_0)).trans hx136_0
              replace p136 := eq_true p136
              replace q136 := eq_true q136
              refine start_ (n := 27) (S := fun w' => w'.cell? ⟨gb127, 0, none⟩ = some (.slice (some ad135) l0_0.length c0_0) ∧ w'.cell? (ad132.add (x5_2).toNat) = some (.int .i64 (rd l1 x5_2)) ∧ w'.cell? (ad132.add ((ji23)).toNat) = some (.int .i64 (rd l1 (ji23))) ∧ w'.cell? (ad135.add (((rd l1 (ji23))).toNat * 8)) = some (.int .i64 ((rd_T69 l0_0 (rd l1 (ji23))).f0)) ∧ w'.cell? ⟨(ad135.add (((rd l1 (ji23))).toNat * 8)).block, (ad135.add (((rd l1 (ji23))).toNat * 8)).off + 1, none⟩ = some (.int .i64 ((rd_T69 l0_0 (rd l1 (ji23))).f1)) ∧ w'.cell? ⟨(ad135.add (((rd l1 (ji23))).toNat * 8)).block, (ad135.add (((rd l1 (ji23))).toNat * 8)).off + 2, none⟩ = some (.int .i64 ((rd_T69 l0_0 (rd l1 (ji23))).f2)) ∧ w'.cell? ⟨(ad135.add (((rd l1 (ji23))).toNat * 8)).block, (ad135.add (((rd l1 (ji23))).toNat * 8)).off + 3, none⟩ = some (.int .i64 ((rd_T69 l0_0 (rd l1 (ji23))).f3.f0)) ∧ w'.cell? ⟨(ad135.add (((rd l1 (ji23))).toNat * 8)).block, (ad135.add (((rd l1 (ji23))).toNat * 8)).off + 4, none⟩ = some (.int .i64 ((rd_T69 l0_0 (rd l1 (ji23))).f3.f1)) ∧ w'.cell? ⟨(ad135.add (((rd l1 (ji23))).toNat * 8)).block, (ad135.add (((rd l1 (ji23))).toNat * 8)).off + 5, none⟩ = some (.int .i64 ((rd_T69 l0_0 (rd l1 (ji23))).f4.f0)) ∧ w'.cell? ⟨(ad135.add (((rd l1 (ji23))).toNat * 8)).block, (ad135.add (((rd l1 (ji23))).toNat * 8)).off + 6, none⟩ = some (.int .i64 ((rd_T69 l0_0 (rd l1 (ji23))).f4.f1)) ∧ w'.cell? ⟨(ad135.add (((rd l1 (ji23))).toNat * 8)).block, (ad135.add (((rd l1 (ji23))).toNat * 8)).off + 7, none⟩ = some (.slice A135_7 ((rd_T69 l0_0 (rd l1 (ji23))).f5).length c135_7) ∧ w'.cell? (ad132.add (x5_2).toNat) = some (.int .i64 (rd l1 x5_2))) (ds := []) #[false, false, false, false, false, false, false, false, false, false, false, false, false, false, false, false, false, false, false, false, false, false, false, false, false, false, false] (by kernel_rfl) rfl rfl ⟨(blk_cell BK127.out 0).trans rfl, ((HB.out.cell (World.block_lt_of_cell? w _ hw132_0)).trans hw132_0), ((HB.out.cell (World.block_lt_of_cell? w _ hw134_0)).trans hw134_0), ((HB.out.cell (World.block_lt_of_cell? w _ hw135_0)).trans hw135_0), ((HB.out.cell (World.block_lt_of_cell? w _ hw135_1)).trans hw135_1), ((HB.out.cell (World.block_lt_of_cell? w _ hw135_2)).trans hw135_2), ((HB.out.cell (World.block_lt_of_cell? w _ hw135_3)).trans hw135_3), ((HB.out.cell (World.block_lt_of_cell? w _ hw135_4)).trans hw135_4), ((HB.out.cell (World.block_lt_of_cell? w _ hw135_5)).trans hw135_5), ((HB.out.cell (World.block_lt_of_cell? w _ hw135_6)).trans hw135_6), ((HB.out.cell (World.block_lt_of_cell? w _ hw135_7)).trans hw135_7), ((HB.out.cell (World.block_lt_of_cell? w _ hw136_0)).trans hw136_0)⟩ (fun hHeld => ?_); refine with_tabW spec_PathOk.tab6 spec_PathOk.bits6 (fun HT_ HW_ => ?_)
              generalize wr.drew = w32 at BK127 HB HR135_7 hx132_0 hx134_0 hx135_0 hx135_1 hx135_2 hx135_3 hx135_4 hx135_5 hx135_6 hx135_7 hx136_0 hHeld ⊢
              refine pure_ (i := 0) (N := some 31) (v := ?_) (a' := ?_) #[true, false, false, false, false, false, false, false, false, false, false, false, false, false, false, false, false, false, false, false, false, false, false, false, false, false, false] rfl rfl (any_of HT_.out (by kernel_rfl)) (fun _ _ _ h => h) (Or.inl ⟨by rfl, ?_⟩) ?_ ?_
              rotate_left
              ·intro w'
               go_simp
               with_reducible rfl
              rotate_left
              ·simp only [Act.put, List.setIfInBounds_toArray, List.set_cons_zero, List.set_cons_succ, i64_w, i32_w]
               rfl
              refine pure_ (i := 1) (N := some 32) (v := ?_) (a' := ?_) #[true, true, false, false, false, false, false, false, false, false, false, false, false, false, false, false, false, false, false, false, false, false, false, false, false, false, false] rfl rfl (any_of HT_.out (by kernel_rfl)) (fun _ _ _ h => h) (Or.inl ⟨by rfl, ?_⟩) ?_ ?_
              rotate_left
              ·intro w'
               go_simp
               with_reducible rfl
              rotate_left
              ·simp only [Act.put, List.setIfInBounds_toArray, List.set_cons_zero, List.set_cons_succ, i64_w, i32_w]
               rfl
              refine pure_ (i := 2) (N := some 33) (v := ?_) (a' := ?_) #[true, true, true, false, false, false, false, false, false, false, false, false, false, false, false, false, false, false, false, false, false, false, false, false, false, false, false] rfl rfl (any_of HT_.out (by kernel_rfl)) (fun _ _ _ h => h) (Or.inl ⟨by rfl, ?_⟩) ?_ ?_
              rotate_left
              ·intro w'
               go_simp
               with_reducible rfl
              rotate_left
              ·simp only [Act.put, List.setIfInBounds_toArray, List.set_cons_zero, List.set_cons_succ, i64_w, i32_w]
               rfl
              refine pure_ (i := 4) (N := some 35) (v := ?_) (a' := ?_) #[true, true, true, false, true, false, false, false, false, false, false, false, false, false, false, false, false, false, false, false, false, false, false, false, false, false, false] rfl rfl (any_of HT_.out (by kernel_rfl)) (fun _ _ _ h => h) (Or.inl ⟨by rfl, ?_⟩) ?_ ?_
              rotate_left
              ·intro w'
               go_simp
               with_reducible rfl
              rotate_left
              ·simp only [Act.put, List.setIfInBounds_toArray, List.set_cons_zero, List.set_cons_succ, i64_w, i32_w]
               rfl
              refine take_ (i := 3) (N := some 34) (v := ?_) (a' := ?_) #[true, true, true, true, true, false, false, false, false, false, false, false, false, false, false, false, false, false, false, false, false, false, false, false, false, false, false] rfl rfl (take_ofW HT_.out HW_.out (by kernel_rfl)) (fun _ _ _ h => h) (Or.inl ⟨by rfl, ?_⟩) hHeld ?_ ?_
              rotate_left
              ·rintro w' ⟨s0, s1, s2, s3, s4, s5, s6, s7, s8, s9, s10, s11⟩
               go_simp
               with_reducible rfl
              rotate_left
              ·simp only [Act.put, List.setIfInBounds_toArray, List.set_cons_zero, List.set_cons_succ, i64_w, i32_w]
               rfl
              refine take_ (i := 5) (N := some 36) (v := ?_) (a' := ?_) #[true, true, true, true, true, true, false, false, false, false, false, false, false, false, false, false, false, false, false, false, false, false, false, false, false, false, false] rfl rfl (take_ofW HT_.out HW_.out (by kernel_rfl)) (fun _ _ _ h => h) (Or.inl ⟨by rfl, ?_⟩) hHeld ?_ ?_
              rotate_left
              ·rintro w' ⟨s0, s1, s2, s3, s4, s5, s6, s7, s8, s9, s10, s11⟩
               go_simp
               with_reducible rfl
              rotate_left
              ·simp only [Act.put, List.setIfInBounds_toArray, List.set_cons_zero, List.set_cons_succ, i64_w, i32_w]
               rfl
              refine pure_ (i := 6) (N := some 37) (v := ?_) (a' := ?_) #[true, true, true, true, true, true, true, false, false, false, false, false, false, false, false, false, false, false, false, false, false, false, false, false, false, false, false] rfl rfl (any_of HT_.out (by kernel_rfl)) (fun _ _ _ h => h) (Or.inl ⟨by rfl, ?_⟩) ?_ ?_
              rotate_left
              ·intro w'
               go_simp
               with_reducible rfl
              rotate_left
              ·simp only [Act.put, List.setIfInBounds_toArray, List.set_cons_zero, List.set_cons_succ, i64_w, i32_w]
               rfl
              refine pure_ (i := 7) (N := some 38) (v := ?_) (a' := ?_) #[true, true, true, true, true, true, true, true, false, false, false, false, false, false, false, false, false, false, false, false, false, false, false, false, false, false, false] rfl rfl (any_of HT_.out (by kernel_rfl)) (fun _ _ _ h => h) (Or.inl ⟨by rfl, ?_⟩) ?_ ?_
              rotate_left
              ·intro w'
               go_simp
               with_reducible rfl
              rotate_left
              ·simp only [Act.put, List.setIfInBounds_toArray, List.set_cons_zero, List.set_cons_succ, i64_w, i32_w]
               rfl
              refine one_ (i := 8) (N := some 39) #[true, true, true, true, true, true, true, true, true, false, false, false, false, false, false, false, false, false, false, false, false, false, false, false, false, false, false] rfl rfl (one_of HT_.out (by kernel_rfl)) (by decide) (fun K hK => ?_)
              refine goes_ Try.func35 (by kernel_rfl) rfl #[.int .i64 (rd l1 x5_2), .int .i64 0, .int .i64 (wrap64 ((l0_0.length : Int) - 1))] (by rfl) rfl rfl (by (try simp only [List.map_toArray, List.map_cons, List.map_nil]); first | done | rfl | (simp only [List.length_drop, List.length_take]; rfl)) ?_
              with_reducible refine (spec_l6In.calls (rd l1 x5_2) 0 (wrap64 ((l0_0.length : Int) - 1)) true _ A21.out).mono ?_
              rintro e w' ⟨rfl, ⟨nd, rfl⟩⟩
              refine ⟨_, rfl, ?_⟩
              refine hK.out _ _ ⟨(blk_cell BK127.out 0).trans rfl, ((HB.out.cell (World.block_lt_of_cell? w _ hw132_0)).trans hw132_0), ((HB.out.cell (World.block_lt_of_cell? w _ hw134_0)).trans hw134_0), ((HB.out.cell (World.block_lt_of_cell? w _ hw135_0)).trans hw135_0), ((HB.out.cell (World.block_lt_of_cell? w _ hw135_1)).trans hw135_1), ((HB.out.cell (World.block_lt_of_cell? w _ hw135_2)).trans hw135_2), ((HB.out.cell (World.block_lt_of_cell? w _ hw135_3)).trans hw135_3), ((HB.out.cell (World.block_lt_of_cell? w _ hw135_4)).trans hw135_4), ((HB.out.cell (World.block_lt_of_cell? w _ hw135_5)).trans hw135_5), ((HB.out.cell (World.block_lt_of_cell? w _ hw135_6)).trans hw135_6), ((HB.out.cell (World.block_lt_of_cell? w _ hw135_7)).trans hw135_7), ((HB.out.cell (World.block_lt_of_cell? w _ hw136_0)).trans hw136_0)⟩ (fun hHeld => ?_)
              clear hK K
              refine norm_ (a' := ?_) ?_ ?_
              rotate_left
              ·show Act.put _ (some 39) _ = _
               simp only [Act.put, List.setIfInBounds_toArray, List.set_cons_zero, List.set_cons_succ, i64_w, i32_w]
               rfl
              refine pure_ (i := 9) (N := some 40) (v := ?_) (a' := ?_) #[true, true, true, true, true, true, true, true, true, true, false, false, false, false, false, false, false, false, false, false, false, false, false, false, false, false, false] rfl rfl (any_of HT_.out (by kernel_rfl)) (fun _ _ _ h => h) (Or.inl ⟨by rfl, ?_⟩) ?_ ?_
              rotate_left
              ·intro w'
               go_simp
               with_reducible rfl
              rotate_left
              ·simp only [Act.put, List.setIfInBounds_toArray, List.set_cons_zero, List.set_cons_succ, i64_w, i32_w]
               rfl
              refine pure_ (i := 10) (N := some 41) (v := ?_) (a' := ?_) #[true, true, true, true, true, true, true, true, true, true, true, false, false, false, false, false, false, false, false, false, false, false, false, false, false, false, false] rfl rfl (any_of HT_.out (by kernel_rfl)) (fun _ _ _ h => h) (Or.inl ⟨by rfl, ?_⟩) ?_ ?_
              rotate_left
              ·intro w'
               go_simp
               with_reducible rfl
              rotate_left
              ·simp only [Act.put, List.setIfInBounds_toArray, List.set_cons_zero, List.set_cons_succ, i64_w, i32_w]
               rfl
              refine pure_ (i := 11) (N := some 42) (v := ?_) (a' := ?_) #[true, true, true, true, true, true, true, true, true, true, true, true, false, false, false, false, false, false, false, false, false, false, false, false, false, false, false] rfl rfl (any_of HT_.out (by kernel_rfl)) (fun _ _ _ h => h) (Or.inl ⟨by rfl, ?_⟩) ?_ ?_
              rotate_left
              ·intro w'
               go_simp
               with_reducible rfl
              rotate_left
              ·simp only [Act.put, List.setIfInBounds_toArray, List.set_cons_zero, List.set_cons_succ, i64_w, i32_w]
               rfl
              refine pure_ (i := 13) (N := some 44) (v := ?_) (a' := ?_) #[true, true, true, true, true, true, true, true, true, true, true, true, false, true, false, false, false, false, false, false, false, false, false, false, false, false, false] rfl rfl (any_of HT_.out (by kernel_rfl)) (fun _ _ _ h => h) (Or.inl ⟨by rfl, ?_⟩) ?_ ?_
              rotate_left
              ·intro w'
               go_simp
               with_reducible rfl
              rotate_left
              ·simp only [Act.put, List.setIfInBounds_toArray, List.set_cons_zero, List.set_cons_succ, i64_w, i32_w]
               rfl
              refine pure_ (i := 14) (N := some 45) (v := ?_) (a' := ?_) #[true, true, true, true, true, true, true, true, true, true, true, true, false, true, true, false, false, false, false, false, false, false, false, false, false, false, false] rfl rfl (any_of HT_.out (by kernel_rfl)) (fun _ _ _ h => h) (Or.inl ⟨by rfl, ?_⟩) ?_ ?_
              rotate_left
              ·intro w'
               go_simp
               with_reducible rfl
              rotate_left
              ·simp only [Act.put, List.setIfInBounds_toArray, List.set_cons_zero, List.set_cons_succ, i64_w, i32_w]
               rfl
              refine pure_ (i := 15) (N := some 46) (v := ?_) (a' := ?_) #[true, true, true, true, true, true, true, true, true, true, true, true, false, true, true, true, false, false, false, false, false, false, false, false, false, false, false] rfl rfl (any_of HT_.out (by kernel_rfl)) (fun _ _ _ h => h) (Or.inl ⟨by rfl, ?_⟩) ?_ ?_
              rotate_left
              ·intro w'
               go_simp
               with_reducible rfl
              rotate_left
              ·simp only [Act.put, List.setIfInBounds_toArray, List.set_cons_zero, List.set_cons_succ, i64_w, i32_w]
               rfl
              refine pure_ (i := 16) (N := some 47) (v := ?_) (a' := ?_) #[true, true, true, true, true, true, true, true, true, true, true, true, false, true, true, true, true, false, false, false, false, false, false, false, false, false, false] rfl rfl (any_of HT_.out (by kernel_rfl)) (fun _ _ _ h => h) (Or.inl ⟨by rfl, ?_⟩) ?_ ?_
              rotate_left
              ·intro w'
               go_simp
               with_reducible rfl
              rotate_left
              ·simp only [Act.put, List.setIfInBounds_toArray, List.set_cons_zero, List.set_cons_succ, i64_w, i32_w]
               rfl
              refine pure_ (i := 20) (N := some 51) (v := ?_) (a' := ?_) #[true, true, true, true, true, true, true, true, true, true, true, true, false, true, true, true, true, false, false, false, true, false, false, false, false, false, false] rfl rfl (any_of HT_.out (by kernel_rfl)) (fun _ _ _ h => h) (Or.inl ⟨by rfl, ?_⟩) ?_ ?_
              rotate_left
              ·intro w'
               go_simp
               with_reducible rfl
              rotate_left
              ·simp only [Act.put, List.setIfInBounds_toArray, List.set_cons_zero, List.set_cons_succ, i64_w, i32_w]
               rfl
              refine pure_ (i := 21) (N := some 52) (v := ?_) (a' := ?_) #[true, true, true, true, true, true, true, true, true, true, true, true, false, true, true, true, true, false, false, false, true, true, false, false, false, false, false] rfl rfl (any_of HT_.out (by kernel_rfl)) (fun _ _ _ h => h) (Or.inl ⟨by rfl, ?_⟩) ?_ ?_
              rotate_left
              ·intro w'
               go_simp
               with_reducible rfl
              rotate_left
              ·simp only [Act.put, List.setIfInBounds_toArray, List.set_cons_zero, List.set_cons_succ, i64_w, i32_w]
               rfl
              refine pure_ (i := 22) (N := some 53) (v := ?_) (a' := ?_) #[true, true, true, true, true, true, true, true, true, true, true, true, false, true, true, true, true, false, false, false, true, true, true, false, false, false, false] rfl rfl (any_of HT_.out (by kernel_rfl)) (fun _ _ _ h => h) (Or.inl ⟨by rfl, ?_⟩) ?_ ?_
              rotate_left
              ·intro w'
               go_simp
               with_reducible rfl
              rotate_left
              ·simp only [Act.put, List.setIfInBounds_toArray, List.set_cons_zero, List.set_cons_succ, i64_w, i32_w]
               rfl
              refine take_ (i := 12) (N := some 43) (v := ?_) (a' := ?_) #[true, true, true, true, true, true, true, true, true, true, true, true, true, true, true, true, true, false, false, false, true, true, true, false, false, false, false] rfl rfl (take_ofW HT_.out HW_.out (by kernel_rfl)) (fun _ _ _ h => h) (Or.inl ⟨by rfl, ?_⟩) hHeld ?_ ?_
              rotate_left
              ·rintro w' ⟨s0, s1, s2, s3, s4, s5, s6, s7, s8, s9, s10, s11⟩
               go_simp
               with_reducible rfl
              rotate_left
              ·simp only [Act.put, List.setIfInBounds_toArray, List.set_cons_zero, List.set_cons_succ, i64_w, i32_w]
               rfl
              refine take_ (i := 17) (N := some 48) (v := ?_) (a' := ?_) #[true, true, true, true, true, true, true, true, true, true, true, true, true, true, true, true, true, true, false, false, true, true, true, false, false, false, false] rfl rfl (take_ofW HT_.out HW_.out (by kernel_rfl)) (fun _ _ _ h => h) (Or.inl ⟨by rfl, ?_⟩) hHeld ?_ ?_
              rotate_left
              ·rintro w' ⟨s0, s1, s2, s3, s4, s5, s6, s7, s8, s9, s10, s11⟩
               go_simp
               with_reducible rfl
              rotate_left
              ·simp only [Act.put, List.setIfInBounds_toArray, List.set_cons_zero, List.set_cons_succ, i64_w, i32_w]
               rfl
              refine pure_ (i := 18) (N := some 49) (v := ?_) (a' := ?_) #[true, true, true, true, true, true, true, true, true, true, true, true, true, true, true, true, true, true, true, false, true, true, true, false, false, false, false] rfl rfl (any_of HT_.out (by kernel_rfl)) (fun _ _ _ h => h) (Or.inl ⟨by rfl, ?_⟩) ?_ ?_
              rotate_left
              ·intro w'
               go_simp
               with_reducible rfl
              rotate_left
              ·simp only [Act.put, List.setIfInBounds_toArray, List.set_cons_zero, List.set_cons_succ, i64_w, i32_w]
               rfl
              refine take_ (i := 19) (N := some 50) (v := ?_) (a' := ?_) #[true, true, true, true, true, true, true, true, true, true, true, true, true, true, true, true, true, true, true, true, true, true, true, false, false, false, false] rfl rfl (take_ofW HT_.out HW_.out (by kernel_rfl)) (fun _ _ _ h => h) (Or.inl ⟨by rfl, ?_⟩) hHeld ?_ ?_
              rotate_left
              ·rintro w' ⟨s0, s1, s2, s3, s4, s5, s6, s7, s8, s9, s10, s11⟩
               go_simp
               with_reducible rfl
              rotate_left
              ·simp only [Act.put, List.setIfInBounds_toArray, List.set_cons_zero, List.set_cons_succ, i64_w, i32_w]
               rfl
              refine take_ (i := 23) (N := some 54) (v := ?_) (a' := ?_) #[true, true, true, true, true, true, true, true, true, true, true, true, true, true, true, true, true, true, true, true, true, true, true, true, false, false, false] rfl rfl (take_ofW HT_.out HW_.out (by kernel_rfl)) (fun _ _ _ h => h) (Or.inl ⟨by rfl, ?_⟩) hHeld ?_ ?_
              rotate_left
              ·rintro w' ⟨s0, s1, s2, s3, s4, s5, s6, s7, s8, s9, s10, s11⟩
               go_simp
               with_reducible rfl
              rotate_left
              ·simp only [Act.put, List.setIfInBounds_toArray, List.set_cons_zero, List.set_cons_succ, i64_w, i32_w]
               rfl
              refine one_ (i := 24) (N := some 55) #[true, true, true, true, true, true, true, true, true, true, true, true, true, true, true, true, true, true, true, true, true, true, true, true, true, false, false] rfl rfl (one_of HT_.out (by kernel_rfl)) (by decide) (fun K hK => ?_)
              refine goes_ Try.func36 (by kernel_rfl) rfl #[.agg #[.int .i64 ((rd_T69 l0_0 (rd l1 (ji23))).f0), .int .i64 ((rd_T69 l0_0 (rd l1 (ji23))).f1), .int .i64 ((rd_T69 l0_0 (rd l1 (ji23))).f2), .int .i64 ((rd_T69 l0_0 (rd l1 (ji23))).f3.f0), .int .i64 ((rd_T69 l0_0 (rd l1 (ji23))).f3.f1), .int .i64 ((rd_T69 l0_0 (rd l1 (ji23))).f4.f0), .int .i64 ((rd_T69 l0_0 (rd l1 (ji23))).f4.f1), .slice A135_7 ((rd_T69 l0_0 (rd l1 (ji23))).f5).length c135_7], .int .i64 (rd l1 x5_2)] (by rfl) rfl rfl (by (try simp only [List.map_toArray, List.map_cons, List.map_nil]); first | done | (simp only [hji23]; rfl) | rfl | (simp only [List.length_drop, List.length_take]; rfl)) ?_
              with_reducible refine (spec_l2Goes.calls k2 ((rd_T69 l0_0 (rd l1 (ji23))).f0) ((rd_T69 l0_0 (rd l1 (ji23))).f1) ((rd_T69 l0_0 (rd l1 (ji23))).f2) ((rd_T69 l0_0 (rd l1 (ji23))).f3.f0) ((rd_T69 l0_0 (rd l1 (ji23))).f3.f1) ((rd_T69 l0_0 (rd l1 (ji23))).f4.f0) ((rd_T69 l0_0 (rd l1 (ji23))).f4.f1) _ _ ((rd_T69 l0_0 (rd l1 (ji23))).f5) (rd l1 x5_2) false _ ?side1 ?side2 A28.out).mono ?_
              (case side1 => repeat (first | exact (Kd.C_below HR135_7.out (by repeat (first | (with_reducible first | exact HB.out | apply below_alloc | apply pw_below_drewN | apply below_drew1 | refine below_set ?_ GE127.out) | exact HB.out))) | (with_reducible refine Kd.C_alloc ?_ _) | (with_reducible refine Kd.C_drewN ?_ _) | (with_reducible refine Kd.C_drew ?_)))
              (case side2 => exact HC135_7.out)
              rintro e w33 ⟨rfl, hb⟩
              refine ⟨_, rfl, ?_⟩
              have n0_ := Aside0.mk (blk_below (g := gb127) (o := .cells #[.slice (some ad135) l0_0.length c0_0] 30 (0, 0)) (by (with_reducible repeat (first | refine blk_drewN ?_ _ | refine blk_drew ?_ | refine blk_alloc ?_ _)); exact BK127.out) hb)
              have n1_ := Aside0.mk (below_step (by repeat (first | (with_reducible first | exact HB.out | apply below_alloc | apply pw_below_drewN | apply below_drew1 | refine below_set ?_ GE127.out) | exact HB.out)) hb)
              clear BK127
              clear HB
              have BK127 := n0_
              have HB := n1_
              clear n0_ n1_
              (try clear hb)
              (try clear hb2)
              (try clear hk)
              (try clear hi)
              refine hK.out _ _ ⟨(blk_cell BK127.out 0).trans rfl, ((HB.out.cell (World.block_lt_of_cell? w _ hw132_0)).trans hw132_0), ((HB.out.cell (World.block_lt_of_cell? w _ hw134_0)).trans hw134_0), ((HB.out.cell (World.block_lt_of_cell? w _ hw135_0)).trans hw135_0), ((HB.out.cell (World.block_lt_of_cell? w _ hw135_1)).trans hw135_1), ((HB.out.cell (World.block_lt_of_cell? w _ hw135_2)).trans hw135_2), ((HB.out.cell (World.block_lt_of_cell? w _ hw135_3)).trans hw135_3), ((HB.out.cell (World.block_lt_of_cell? w _ hw135_4)).trans hw135_4), ((HB.out.cell (World.block_lt_of_cell? w _ hw135_5)).trans hw135_5), ((HB.out.cell (World.block_lt_of_cell? w _ hw135_6)).trans hw135_6), ((HB.out.cell (World.block_lt_of_cell? w _ hw135_7)).trans hw135_7), ((HB.out.cell (World.block_lt_of_cell? w _ hw136_0)).trans hw136_0)⟩ (fun hHeld => ?_)
              clear hK K
              refine norm_ (a' := ?_) ?_ ?_
              rotate_left
              ·show Act.put _ (some 55) _ = _
               simp only [Act.put, List.setIfInBounds_toArray, List.set_cons_zero, List.set_cons_succ, i64_w, i32_w]
               rfl
              refine pure_ (i := 25) (N := some 56) (v := ?_) (a' := ?_) #[true, true, true, true, true, true, true, true, true, true, true, true, true, true, true, true, true, true, true, true, true, true, true, true, true, true, false] rfl rfl (any_of HT_.out (by kernel_rfl)) (fun _ _ _ h => h) (Or.inl ⟨by rfl, ?_⟩) ?_ ?_
              rotate_left
              ·intro w'
               go_simp
               with_reducible rfl
              rotate_left
              ·simp only [Act.put, List.setIfInBounds_toArray, List.set_cons_zero, List.set_cons_succ, i64_w, i32_w]
               rfl
              refine pure_ (i := 26) (N := some 57) (v := ?_) (a' := ?_) #[true, true, true, true, true, true, true, true, true, true, true, true, true, true, true, true, true, true, true, true, true, true, true, true, true, true, true] rfl rfl (any_of HT_.out (by kernel_rfl)) (fun _ _ _ h => h) (Or.inl ⟨by rfl, ?_⟩) ?_ ?_
              rotate_left
              ·intro w'
               go_simp
               with_reducible rfl
              rotate_left
              ·simp only [Act.put, List.setIfInBounds_toArray, List.set_cons_zero, List.set_cons_succ, i64_w, i32_w]
               rfl
              refine done_ (done_of HT_.out (by kernel_rfl)) ?_
              try go_wp2
              go_ret
              exact ⟨by first | rfl | (simp [errW_none, errW_some] <;> rfl) | (simp only [← hji23]; first | rfl | (simp [errW_none, errW_some] <;> rfl)) | (simp [*, errW_none, errW_some] <;> rfl), by repeat (first | (with_reducible first | exact HB.out | apply below_alloc | apply pw_below_drewN | apply below_drew1 | refine below_set ?_ GE127.out) | exact HB.out)⟩
            ·rw [if_neg c27] at H
             exact absurd H (by simp)
           ·rw [if_neg c26] at H
            exact absurd H (by simp)
          ·rw [if_neg c25] at H
           exact absurd H (by simp)
         ·rw [if_neg c24] at H
          exact absurd H (by simp)
        ·replace c22 := Bool.eq_false_iff.mpr c22
         subst c22
         have H1 : (some false) = some r := by rw [if_neg (show ¬ (false = true) by decide)] at H; exact H
         clear H
         have H := H1
         clear H1
         obtain rfl := Option.some.inj H
         try go_wp2
         have n0_ := Aside0.mk (blk_drew BK127.out)
         have n1_ := Aside0.mk (below_drew1 HB.out)
         clear BK127
         clear HB
         have BK127 := n0_
         have HB := n1_
         clear n0_ n1_
         have p132 : 0 ≤ (x5_2 : Int) := of_decide_eq_true (by first | (with_reducible assumption) | assumption)
         have q132 : x5_2 < (l1.length : Int) := of_decide_eq_true (by first | (with_reducible assumption) | assumption)
         obtain ⟨ad132, e132, hx132_0⟩ := Kd.at_int HR1.out x5_2 p132 q132
         have hw132_0 := hx132_0
         cases e132
         replace hx132_0 := (HB.out.cell (World.block_lt_of_cell? w _ hx132_0)).trans hx132_0
         replace p132 := eq_true p132
         replace q132 := eq_true q132
         refine start_ (n := 27) (S := fun w' => w'.cell? ⟨gb127, 0, none⟩ = some (.slice A0_0 l0_0.length c0_0) ∧ w'.cell? (ad132.add (x5_2).toNat) = some (.int .i64 (rd l1 x5_2))) (ds := []) #[false, false, false, false, false, false, false, false, false, false, false, false, false, false, false, false, false, false, false, false, false, false, false, false, false, false, false] (by kernel_rfl) rfl rfl ⟨(blk_cell BK127.out 0).trans rfl, ((HB.out.cell (World.block_lt_of_cell? w _ hw132_0)).trans hw132_0)⟩ (fun hHeld => ?_); refine with_tabW spec_PathOk.tab6 spec_PathOk.bits6 (fun HT_ HW_ => ?_)
         generalize wr.drew = w34 at BK127 HB hx132_0 hHeld ⊢
         refine pure_ (i := 0) (N := some 31) (v := ?_) (a' := ?_) #[true, false, false, false, false, false, false, false, false, false, false, false, false, false, false, false, false, false, false, false, false, false, false, false, false, false, false] rfl rfl (any_of HT_.out (by kernel_rfl)) (fun _ _ _ h => h) (Or.inl ⟨by rfl, ?_⟩) ?_ ?_
         rotate_left
         ·intro w'
          go_simp
          with_reducible rfl
         rotate_left
         ·simp only [Act.put, List.setIfInBounds_toArray, List.set_cons_zero, List.set_cons_succ, i64_w, i32_w]
          rfl
         refine pure_ (i := 1) (N := some 32) (v := ?_) (a' := ?_) #[true, true, false, false, false, false, false, false, false, false, false, false, false, false, false, false, false, false, false, false, false, false, false, false, false, false, false] rfl rfl (any_of HT_.out (by kernel_rfl)) (fun _ _ _ h => h) (Or.inl ⟨by rfl, ?_⟩) ?_ ?_
         rotate_left
         ·intro w'
          go_simp
          with_reducible rfl
         rotate_left
         ·simp only [Act.put, List.setIfInBounds_toArray, List.set_cons_zero, List.set_cons_succ, i64_w, i32_w]
          rfl
         refine pure_ (i := 2) (N := some 33) (v := ?_) (a' := ?_) #[true, true, true, false, false, false, false, false, false, false, false, false, false, false, false, false, false, false, false, false, false, false, false, false, false, false, false] rfl rfl (any_of HT_.out (by kernel_rfl)) (fun _ _ _ h => h) (Or.inl ⟨by rfl, ?_⟩) ?_ ?_
         rotate_left
         ·intro w'
          go_simp
          with_reducible rfl
         rotate_left
         ·simp only [Act.put, List.setIfInBounds_toArray, List.set_cons_zero, List.set_cons_succ, i64_w, i32_w]
          rfl
         refine pure_ (i := 4) (N := some 35) (v := ?_) (a' := ?_) #[true, true, true, false, true, false, false, false, false, false, false, false, false, false, false, false, false, false, false, false, false, false, false, false, false, false, false] rfl rfl (any_of HT_.out (by kernel_rfl)) (fun _ _ _ h => h) (Or.inl ⟨by rfl, ?_⟩) ?_ ?_
         rotate_left
         ·intro w'
          go_simp
          with_reducible rfl
         rotate_left
         ·simp only [Act.put, List.setIfInBounds_toArray, List.set_cons_zero, List.set_cons_succ, i64_w, i32_w]
          rfl
         refine take_ (i := 3) (N := some 34) (v := ?_) (a' := ?_) #[true, true, true, true, true, false, false, false, false, false, false, false, false, false, false, false, false, false, false, false, false, false, false, false, false, false, false] rfl rfl (take_ofW HT_.out HW_.out (by kernel_rfl)) (fun _ _ _ h => h) (Or.inl ⟨by rfl, ?_⟩) hHeld ?_ ?_
         rotate_left
         ·rintro w' ⟨s0, s1⟩
          go_simp
          with_reducible rfl
         rotate_left
         ·simp only [Act.put, List.setIfInBounds_toArray, List.set_cons_zero, List.set_cons_succ, i64_w, i32_w]
          rfl
         refine take_ (i := 5) (N := some 36) (v := ?_) (a' := ?_) #[true, true, true, true, true, true, false, false, false, false, false, false, false, false, false, false, false, false, false, false, false, false, false, false, false, false, false] rfl rfl (take_ofW HT_.out HW_.out (by kernel_rfl)) (fun _ _ _ h => h) (Or.inl ⟨by rfl, ?_⟩) hHeld ?_ ?_
         rotate_left
         ·rintro w' ⟨s0, s1⟩
          go_simp
          with_reducible rfl
         rotate_left
         ·simp only [Act.put, List.setIfInBounds_toArray, List.set_cons_zero, List.set_cons_succ, i64_w, i32_w]
          rfl
         refine pure_ (i := 6) (N := some 37) (v := ?_) (a' := ?_) #[true, true, true, true, true, true, true, false, false, false, false, false, false, false, false, false, false, false, false, false, false, false, false, false, false, false, false] rfl rfl (any_of HT_.out (by kernel_rfl)) (fun _ _ _ h => h) (Or.inl ⟨by rfl, ?_⟩) ?_ ?_
         rotate_left
         ·intro w'
          go_simp
          with_reducible rfl
         rotate_left
         ·simp only [Act.put, List.setIfInBounds_toArray, List.set_cons_zero, List.set_cons_succ, i64_w, i32_w]
          rfl
         refine pure_ (i := 7) (N := some 38) (v := ?_) (a' := ?_) #[true, true, true, true, true, true, true, true, false, false, false, false, false, false, false, false, false, false, false, false, false, false, false, false, false, false, false] rfl rfl (any_of HT_.out (by kernel_rfl)) (fun _ _ _ h => h) (Or.inl ⟨by rfl, ?_⟩) ?_ ?_
         rotate_left
         ·intro w'
          go_simp
          with_reducible rfl
         rotate_left
         ·simp only [Act.put, List.setIfInBounds_toArray, List.set_cons_zero, List.set_cons_succ, i64_w, i32_w]
          rfl
         refine one_ (i := 8) (N := some 39) #[true, true, true, true, true, true, true, true, true, false, false, false, false, false, false, false, false, false, false, false, false, false, false, false, false, false, false] rfl rfl (one_of HT_.out (by kernel_rfl)) (by decide) (fun K hK => ?_)
         refine goes_ Try.func35 (by kernel_rfl) rfl #[.int .i64 (rd l1 x5_2), .int .i64 0, .int .i64 (wrap64 ((l0_0.length : Int) - 1))] (by rfl) rfl rfl (by (try simp only [List.map_toArray, List.map_cons, List.map_nil]); first | done | rfl | (simp only [List.length_drop, List.length_take]; rfl)) ?_
         with_reducible refine (spec_l6In.calls (rd l1 x5_2) 0 (wrap64 ((l0_0.length : Int) - 1)) false _ A21.out).mono ?_
         rintro e w' ⟨rfl, ⟨nd, rfl⟩⟩
         refine ⟨_, rfl, ?_⟩
         refine hK.out _ _ ⟨(blk_cell BK127.out 0).trans rfl, ((HB.out.cell (World.block_lt_of_cell? w _ hw132_0)).trans hw132_0)⟩ (fun hHeld => ?_)
         clear hK K
         refine norm_ (a' := ?_) ?_ ?_
         rotate_left
         ·show Act.put _ (some 39) _ = _
          simp only [Act.put, List.setIfInBounds_toArray, List.set_cons_zero, List.set_cons_succ, i64_w, i32_w]
          rfl
         refine pure_ (i := 9) (N := some 40) (v := ?_) (a' := ?_) #[true, true, true, true, true, true, true, true, true, true, false, false, false, false, false, false, false, false, false, false, false, false, false, false, false, false, false] rfl rfl (any_of HT_.out (by kernel_rfl)) (fun _ _ _ h => h) (Or.inl ⟨by rfl, ?_⟩) ?_ ?_
         rotate_left
         ·intro w'
          go_simp
          with_reducible rfl
         rotate_left
         ·simp only [Act.put, List.setIfInBounds_toArray, List.set_cons_zero, List.set_cons_succ, i64_w, i32_w]
          rfl
         refine pure_ (i := 10) (N := some 41) (v := ?_) (a' := ?_) #[true, true, true, true, true, true, true, true, true, true, true, false, false, false, false, false, false, false, false, false, false, false, false, false, false, false, false] rfl rfl (any_of HT_.out (by kernel_rfl)) (fun _ _ _ h => h) (Or.inl ⟨by rfl, ?_⟩) ?_ ?_
         rotate_left
         ·intro w'
          go_simp
          with_reducible rfl
         rotate_left
         ·simp only [Act.put, List.setIfInBounds_toArray, List.set_cons_zero, List.set_cons_succ, i64_w, i32_w]
          rfl
         refine pure_ (i := 11) (N := some 42) (v := undef) (a' := ?_) #[true, true, true, true, true, true, true, true, true, true, true, true, false, false, false, false, false, false, false, false, false, false, false, false, false, false, false] rfl rfl (any_of HT_.out (by kernel_rfl)) (fun _ _ _ h => h) (Or.inr ⟨by rfl, rfl⟩) ?_ ?_
         rotate_left
         ·simp only [Act.put, List.setIfInBounds_toArray, List.set_cons_zero, List.set_cons_succ, i64_w, i32_w]
          rfl
         refine pure_ (i := 12) (N := some 43) (v := undef) (a' := ?_) #[true, true, true, true, true, true, true, true, true, true, true, true, true, false, false, false, false, false, false, false, false, false, false, false, false, false, false] rfl rfl (any_of HT_.out (by kernel_rfl)) (fun _ _ _ h => h) (Or.inr ⟨by rfl, rfl⟩) ?_ ?_
         rotate_left
         ·simp only [Act.put, List.setIfInBounds_toArray, List.set_cons_zero, List.set_cons_succ, i64_w, i32_w]
          rfl
         refine pure_ (i := 13) (N := some 44) (v := undef) (a' := ?_) #[true, true, true, true, true, true, true, true, true, true, true, true, true, true, false, false, false, false, false, false, false, false, false, false, false, false, false] rfl rfl (any_of HT_.out (by kernel_rfl)) (fun _ _ _ h => h) (Or.inr ⟨by rfl, rfl⟩) ?_ ?_
         rotate_left
         ·simp only [Act.put, List.setIfInBounds_toArray, List.set_cons_zero, List.set_cons_succ, i64_w, i32_w]
          rfl
         refine pure_ (i := 14) (N := some 45) (v := undef) (a' := ?_) #[true, true, true, true, true, true, true, true, true, true, true, true, true, true, true, false, false, false, false, false, false, false, false, false, false, false, false] rfl rfl (any_of HT_.out (by kernel_rfl)) (fun _ _ _ h => h) (Or.inr ⟨by rfl, rfl⟩) ?_ ?_
         rotate_left
         ·simp only [Act.put, List.setIfInBounds_toArray, List.set_cons_zero, List.set_cons_succ, i64_w, i32_w]
          rfl
         refine pure_ (i := 15) (N := some 46) (v := undef) (a' := ?_) #[true, true, true, true, true, true, true, true, true, true, true, true, true, true, true, true, false, false, false, false, false, false, false, false, false, false, false] rfl rfl (any_of HT_.out (by kernel_rfl)) (fun _ _ _ h => h) (Or.inr ⟨by rfl, rfl⟩) ?_ ?_
         rotate_left
         ·simp only [Act.put, List.setIfInBounds_toArray, List.set_cons_zero, List.set_cons_succ, i64_w, i32_w]
          rfl
         refine pure_ (i := 16) (N := some 47) (v := undef) (a' := ?_) #[true, true, true, true, true, true, true, true, true, true, true, true, true, true, true, true, true, false, false, false, false, false, false, false, false, false, false] rfl rfl (any_of HT_.out (by kernel_rfl)) (fun _ _ _ h => h) (Or.inr ⟨by rfl, rfl⟩) ?_ ?_
         rotate_left
         ·simp only [Act.put, List.setIfInBounds_toArray, List.set_cons_zero, List.set_cons_succ, i64_w, i32_w]
          rfl
         refine pure_ (i := 17) (N := some 48) (v := undef) (a' := ?_) #[true, true, true, true, true, true, true, true, true, true, true, true, true, true, true, true, true, true, false, false, false, false, false, false, false, false, false] rfl rfl (any_of HT_.out (by kernel_rfl)) (fun _ _ _ h => h) (Or.inr ⟨by rfl, rfl⟩) ?_ ?_
         rotate_left
         ·simp only [Act.put, List.setIfInBounds_toArray, List.set_cons_zero, List.set_cons_succ, i64_w, i32_w]
          rfl
         refine pure_ (i := 18) (N := some 49) (v := undef) (a' := ?_) #[true, true, true, true, true, true, true, true, true, true, true, true, true, true, true, true, true, true, true, false, false, false, false, false, false, false, false] rfl rfl (any_of HT_.out (by kernel_rfl)) (fun _ _ _ h => h) (Or.inr ⟨by rfl, rfl⟩) ?_ ?_
         rotate_left
         ·simp only [Act.put, List.setIfInBounds_toArray, List.set_cons_zero, List.set_cons_succ, i64_w, i32_w]
          rfl
         refine pure_ (i := 19) (N := some 50) (v := undef) (a' := ?_) #[true, true, true, true, true, true, true, true, true, true, true, true, true, true, true, true, true, true, true, true, false, false, false, false, false, false, false] rfl rfl (any_of HT_.out (by kernel_rfl)) (fun _ _ _ h => h) (Or.inr ⟨by rfl, rfl⟩) ?_ ?_
         rotate_left
         ·simp only [Act.put, List.setIfInBounds_toArray, List.set_cons_zero, List.set_cons_succ, i64_w, i32_w]
          rfl
         refine pure_ (i := 20) (N := some 51) (v := undef) (a' := ?_) #[true, true, true, true, true, true, true, true, true, true, true, true, true, true, true, true, true, true, true, true, true, false, false, false, false, false, false] rfl rfl (any_of HT_.out (by kernel_rfl)) (fun _ _ _ h => h) (Or.inr ⟨by rfl, rfl⟩) ?_ ?_
         rotate_left
         ·simp only [Act.put, List.setIfInBounds_toArray, List.set_cons_zero, List.set_cons_succ, i64_w, i32_w]
          rfl
         refine pure_ (i := 21) (N := some 52) (v := undef) (a' := ?_) #[true, true, true, true, true, true, true, true, true, true, true, true, true, true, true, true, true, true, true, true, true, true, false, false, false, false, false] rfl rfl (any_of HT_.out (by kernel_rfl)) (fun _ _ _ h => h) (Or.inr ⟨by rfl, rfl⟩) ?_ ?_
         rotate_left
         ·simp only [Act.put, List.setIfInBounds_toArray, List.set_cons_zero, List.set_cons_succ, i64_w, i32_w]
          rfl
         refine pure_ (i := 22) (N := some 53) (v := undef) (a' := ?_) #[true, true, true, true, true, true, true, true, true, true, true, true, true, true, true, true, true, true, true, true, true, true, true, false, false, false, false] rfl rfl (any_of HT_.out (by kernel_rfl)) (fun _ _ _ h => h) (Or.inr ⟨by rfl, rfl⟩) ?_ ?_
         rotate_left
         ·simp only [Act.put, List.setIfInBounds_toArray, List.set_cons_zero, List.set_cons_succ, i64_w, i32_w]
          rfl
         refine pure_ (i := 23) (N := some 54) (v := undef) (a' := ?_) #[true, true, true, true, true, true, true, true, true, true, true, true, true, true, true, true, true, true, true, true, true, true, true, true, false, false, false] rfl rfl (any_of HT_.out (by kernel_rfl)) (fun _ _ _ h => h) (Or.inr ⟨by rfl, rfl⟩) ?_ ?_
         rotate_left
         ·simp only [Act.put, List.setIfInBounds_toArray, List.set_cons_zero, List.set_cons_succ, i64_w, i32_w]
          rfl
         refine pure_ (i := 24) (N := some 55) (v := undef) (a' := ?_) #[true, true, true, true, true, true, true, true, true, true, true, true, true, true, true, true, true, true, true, true, true, true, true, true, true, false, false] rfl rfl (any_of HT_.out (by kernel_rfl)) (fun _ _ _ h => h) (Or.inr ⟨by rfl, rfl⟩) ?_ ?_
         rotate_left
         ·simp only [Act.put, List.setIfInBounds_toArray, List.set_cons_zero, List.set_cons_succ, i64_w, i32_w]
          rfl
         refine pure_ (i := 25) (N := some 56) (v := undef) (a' := ?_) #[true, true, true, true, true, true, true, true, true, true, true, true, true, true, true, true, true, true, true, true, true, true, true, true, true, true, false] rfl rfl (any_of HT_.out (by kernel_rfl)) (fun _ _ _ h => h) (Or.inr ⟨by rfl, rfl⟩) ?_ ?_
         rotate_left
         ·simp only [Act.put, List.setIfInBounds_toArray, List.set_cons_zero, List.set_cons_succ, i64_w, i32_w]
          rfl
         refine pure_ (i := 26) (N := some 57) (v := ?_) (a' := ?_) #[true, true, true, true, true, true, true, true, true, true, true, true, true, true, true, true, true, true, true, true, true, true, true, true, true, true, true] rfl rfl (any_of HT_.out (by kernel_rfl)) (fun _ _ _ h => h) (Or.inl ⟨by rfl, ?_⟩) ?_ ?_
         rotate_left
         ·intro w'
          go_simp
          with_reducible rfl
         rotate_left
         ·simp only [Act.put, List.setIfInBounds_toArray, List.set_cons_zero, List.set_cons_succ, i64_w, i32_w]
          rfl
         refine done_ (done_of HT_.out (by kernel_rfl)) ?_
         try go_wp2
         go_ret
         exact ⟨by first | rfl | (simp [errW_none, errW_some] <;> rfl) | (simp [*, errW_none, errW_some] <;> rfl), by repeat (first | (with_reducible first | exact HB.out | apply below_alloc | apply pw_below_drewN | apply below_drew1 | refine below_set ?_ GE127.out) | exact HB.out)⟩
       ·rw [if_neg c20] at H
        exact absurd H (by simp)
      ·rw [if_neg c19] at H
       have c19b0 : decide (x5_2 < (l1.length : Int)) = false := decide_eq_false c19
       clear c19
       obtain ⟨ji35, hji35⟩ : ∃ j_ : Int, (wrap64 ((l1.length : Int) - 1)) = j_ := ⟨_, rfl⟩
       replace H : (if 0 ≤ (ji35) then (if (ji35) < (l1.length : Int) then (if 0 ≤ (rd l1 (ji35)) then (if (rd l1 (ji35)) < (l0_0.length : Int) then (some (((rd_T69 l0_0 (rd l1 (ji35))).f0) == 7)) else (none)) else (none)) else (none)) else (none)) = some r := by first | (rw [hji35] at H; exact H) | (simp only [hji35] at H ⊢; exact H)
       have hji35w : (IntKind.i64.wrap ((l1.length : Int) - 1)) = ji35 := (i64_w _).trans hji35
       by_cases c36 : 0 ≤ (ji35)
       ·rw [if_pos c36] at H
        have c36b0 : decide (0 ≤ (ji35)) = true := decide_eq_true c36
        clear c36
        by_cases c37 : (ji35) < (l1.length : Int)
        ·rw [if_pos c37] at H
         have c37b0 : decide ((ji35) < (l1.length : Int)) = true := decide_eq_true c37
         clear c37
         by_cases c38 : 0 ≤ (rd l1 (ji35))
         ·rw [if_pos c38] at H
          have c38b0 : decide (0 ≤ (rd l1 (ji35))) = true := decide_eq_true c38
          clear c38
          by_cases c39 : (rd l1 (ji35)) < (l0_0.length : Int)
          ·rw [if_pos c39] at H
           have c39b0 : decide ((rd l1 (ji35)) < (l0_0.length : Int)) = true := decide_eq_true c39
           clear c39
           obtain rfl := Option.some.inj H
           try go_wp2
           have n0_ := Aside0.mk (blk_drew BK127.out)
           have n1_ := Aside0.mk (below_drew1 HB.out)
           clear BK127
           clear HB
           have BK127 := n0_
           have HB := n1_
           clear n0_ n1_
           have p130 : 0 ≤ ((ji35) : Int) := of_decide_eq_true (by first | (with_reducible assumption) | assumption)
           have q130 : (ji35) < (l1.length : Int) := of_decide_eq_true (by first | (with_reducible assumption) | assumption)
           obtain ⟨ad130, e130, hx130_0⟩ := Kd.at_int HR1.out (ji35) p130 q130
           have hw130_0 := hx130_0
           cases e130
           replace hx130_0 := (HB.out.cell (World.block_lt_of_cell? w _ hx130_0)).trans hx130_0
           replace p130 := eq_true p130
           replace q130 := eq_true q130
           have p131 : 0 ≤ ((rd l1 (ji35)) : Int) := of_decide_eq_true (by first | (with_reducible assumption) | assumption)
           have q131 : (rd l1 (ji35)) < (l0_0.length : Int) := of_decide_eq_true (by first | (with_reducible assumption) | assumption)
           obtain ⟨ad131, A131_7, c131_7, e131, hx131_0, hx131_1, hx131_2, hx131_3, hx131_4, hx131_5, hx131_6, hx131_7, hl131_7, hi131_7⟩ := at_T69 HR0_0.out (rd l1 (ji35)) p131 q131
           have hw131_7 := hx131_7
           have hw131_6 := hx131_6
           have hw131_5 := hx131_5
           have hw131_4 := hx131_4
           have hw131_3 := hx131_3
           have hw131_2 := hx131_2
           have hw131_1 := hx131_1
           have hw131_0 := hx131_0
           cases e131
           replace hx131_0 := (HB.out.cell (World.block_lt_of_cell? w _ hx131_0)).trans hx131_0
           replace hx131_1 := (HB.out.cell (World.block_lt_of_cell? w _ hx131_1)).trans hx131_1
           replace hx131_2 := (HB.out.cell (World.block_lt_of_cell? w _ hx131_2)).trans hx131_2
           replace hx131_3 := (HB.out.cell (World.block_lt_of_cell? w _ hx131_3)).trans hx131_3
           replace hx131_4 := (HB.out.cell (World.block_lt_of_cell? w _ hx131_4)).trans hx131_4
           replace hx131_5 := (HB.out.cell (World.block_lt_of_cell? w _ hx131_5)).trans hx131_5
           replace hx131_6 := (HB.out.cell (World.block_lt_of_cell? w _ hx131_6)).trans hx131_6
           replace hx131_7 := (HB.out.cell (World.block_lt_of_cell? w _ hx131_7)).trans hx131_7
           have HR131_7 := Aside0.mk hi131_7
           have HC131_7 := Aside0.mk hl131_7
           clear hi131_7 hl131_7
           replace p131 := eq_true p131
           replace q131 := eq_true q131
           refine start_ (n := 13) (S := fun w' => w'.cell? ⟨gb127, 0, none⟩ = some (.slice (some ad131) l0_0.length c0_0) ∧ w'.cell? (ad130.add ((ji35)).toNat) = some (.int .i64 (rd l1 (ji35))) ∧ w'.cell? (ad131.add (((rd l1 (ji35))).toNat * 8)) = some (.int .i64 ((rd_T69 l0_0 (rd l1 (ji35))).f0)) ∧ w'.cell? ⟨(ad131.add (((rd l1 (ji35))).toNat * 8)).block, (ad131.add (((rd l1 (ji35))).toNat * 8)).off + 1, none⟩ = some (.int .i64 ((rd_T69 l0_0 (rd l1 (ji35))).f1)) ∧ w'.cell? ⟨(ad131.add (((rd l1 (ji35))).toNat * 8)).block, (ad131.add (((rd l1 (ji35))).toNat * 8)).off + 2, none⟩ = some (.int .i64 ((rd_T69 l0_0 (rd l1 (ji35))).f2)) ∧ w'.cell? ⟨(ad131.add (((rd l1 (ji35))).toNat * 8)).block, (ad131.add (((rd l1 (ji35))).toNat * 8)).off + 3, none⟩ = some (.int .i64 ((rd_T69 l0_0 (rd l1 (ji35))).f3.f0)) ∧ w'.cell? ⟨(ad131.add (((rd l1 (ji35))).toNat * 8)).block, (ad131.add (((rd l1 (ji35))).toNat * 8)).off + 4, none⟩ = some (.int .i64 ((rd_T69 l0_0 (rd l1 (ji35))).f3.f1)) ∧ w'.cell? ⟨(ad131.add (((rd l1 (ji35))).toNat * 8)).block, (ad131.add (((rd l1 (ji35))).toNat * 8)).off + 5, none⟩ = some (.int .i64 ((rd_T69 l0_0 (rd l1 (ji35))).f4.f0)) ∧ w'.cell? ⟨(ad131.add (((rd l1 (ji35))).toNat * 8)).block, (ad131.add (((rd l1 (ji35))).toNat * 8)).off + 6, none⟩ = some (.int .i64 ((rd_T69 l0_0 (rd l1 (ji35))).f4.f1)) ∧ w'.cell? ⟨(ad131.add (((rd l1 (ji35))).toNat * 8)).block, (ad131.add (((rd l1 (ji35))).toNat * 8)).off + 7, none⟩ = some (.slice A131_7 ((rd_T69 l0_0 (rd l1 (ji35))).f5).length c131_7)) (ds := []) #[false, false, false, false, false, false, false, false, false, false, false, false, false] (by kernel_rfl) rfl rfl ⟨(blk_cell BK127.out 0).trans rfl, ((HB.out.cell (World.block_lt_of_cell? w _ hw130_0)).trans hw130_0), ((HB.out.cell (World.block_lt_of_cell? w _ hw131_0)).trans hw131_0), ((HB.out.cell (World.block_lt_of_cell? w _ hw131_1)).trans hw131_1), ((HB.out.cell (World.block_lt_of_cell? w _ hw131_2)).trans hw131_2), ((HB.out.cell (World.block_lt_of_cell? w _ hw131_3)).trans hw131_3), ((HB.out.cell (World.block_lt_of_cell? w _ hw131_4)).trans hw131_4), ((HB.out.cell (World.block_lt_of_cell? w _ hw131_5)).trans hw131_5), ((HB.out.cell (World.block_lt_of_cell? w _ hw131_6)).trans hw131_6), ((HB.out.cell (World.block_lt_of_cell? w _ hw131_7)).trans hw131_7)⟩ (fun hHeld => ?_); refine with_tabW spec_PathOk.tab8 spec_PathOk.bits8 (fun HT_ HW_ => ?_)
           generalize wr.drew = w40 at BK127 HB HR131_7 hx130_0 hx131_0 hx131_1 hx131_2 hx131_3 hx131_4 hx131_5 hx131_6 hx131_7 hHeld ⊢
           refine pure_ (i := 0) (N := some 58) (v := ?_) (a' := ?_) #[true, false, false, false, false, false, false, false, false, false, false, false, false] rfl rfl (any_of HT_.out (by kernel_rfl)) (fun _ _ _ h => h) (Or.inl ⟨by rfl, ?_⟩) ?_ ?_
           rotate_left
           ·intro w'
            go_simp
            with_reducible rfl
           rotate_left
           ·simp only [Act.put, List.setIfInBounds_toArray, List.set_cons_zero, List.set_cons_succ, i64_w, i32_w]
            rfl
           refine pure_ (i := 2) (N := some 60) (v := ?_) (a' := ?_) #[true, false, true, false, false, false, false, false, false, false, false, false, false] rfl rfl (any_of HT_.out (by kernel_rfl)) (fun _ _ _ h => h) (Or.inl ⟨by rfl, ?_⟩) ?_ ?_
           rotate_left
           ·intro w'
            go_simp
            with_reducible rfl
           rotate_left
           ·simp only [Act.put, List.setIfInBounds_toArray, List.set_cons_zero, List.set_cons_succ, i64_w, i32_w]
            rfl
           refine pure_ (i := 3) (N := some 61) (v := ?_) (a' := ?_) #[true, false, true, true, false, false, false, false, false, false, false, false, false] rfl rfl (any_of HT_.out (by kernel_rfl)) (fun _ _ _ h => h) (Or.inl ⟨by rfl, ?_⟩) ?_ ?_
           rotate_left
           ·intro w'
            go_simp
            with_reducible rfl
           rotate_left
           ·simp only [Act.put, List.setIfInBounds_toArray, List.set_cons_zero, List.set_cons_succ, i64_w, i32_w]
            rfl
           refine pure_ (i := 4) (N := some 62) (v := ?_) (a' := ?_) #[true, false, true, true, true, false, false, false, false, false, false, false, false] rfl rfl (any_of HT_.out (by kernel_rfl)) (fun _ _ _ h => h) (Or.inl ⟨by rfl, ?_⟩) ?_ ?_
           rotate_left
           ·intro w'
            go_simp
            with_reducible rfl
           rotate_left
           ·simp only [Act.put, List.setIfInBounds_toArray, List.set_cons_zero, List.set_cons_succ, i64_w, i32_w]
            rfl
           refine pure_ (i := 5) (N := some 63) (v := ?_) (a' := ?_) #[true, false, true, true, true, true, false, false, false, false, false, false, false] rfl rfl (any_of HT_.out (by kernel_rfl)) (fun _ _ _ h => h) (Or.inl ⟨by rfl, ?_⟩) ?_ ?_
           rotate_left
           ·intro w'
            go_simp
            with_reducible rfl
           rotate_left
           ·simp only [Act.put, List.setIfInBounds_toArray, List.set_cons_zero, List.set_cons_succ, i64_w, i32_w]
            rfl
           refine pure_ (i := 6) (N := some 64) (v := ?_) (a' := ?_) #[true, false, true, true, true, true, true, false, false, false, false, false, false] rfl rfl (any_of HT_.out (by kernel_rfl)) (fun _ _ _ h => h) (Or.inl ⟨by rfl, ?_⟩) ?_ ?_
           rotate_left
           ·intro w'
            go_simp
            with_reducible rfl
           rotate_left
           ·simp only [Act.put, List.setIfInBounds_toArray, List.set_cons_zero, List.set_cons_succ, i64_w, i32_w]
            rfl
           refine take_ (i := 1) (N := some 59) (v := ?_) (a' := ?_) #[true, true, true, true, true, true, true, false, false, false, false, false, false] rfl rfl (take_ofW HT_.out HW_.out (by kernel_rfl)) (fun _ _ _ h => h) (Or.inl ⟨by rfl, ?_⟩) hHeld ?_ ?_
           rotate_left
           ·rintro w' ⟨s0, s1, s2, s3, s4, s5, s6, s7, s8, s9⟩
            go_simp
            with_reducible rfl
           rotate_left
           ·simp only [Act.put, List.setIfInBounds_toArray, List.set_cons_zero, List.set_cons_succ, i64_w, i32_w]
            rfl
           refine take_ (i := 7) (N := some 65) (v := ?_) (a' := ?_) #[true, true, true, true, true, true, true, true, false, false, false, false, false] rfl rfl (take_ofW HT_.out HW_.out (by kernel_rfl)) (fun _ _ _ h => h) (Or.inl ⟨by rfl, ?_⟩) hHeld ?_ ?_
           rotate_left
           ·rintro w' ⟨s0, s1, s2, s3, s4, s5, s6, s7, s8, s9⟩
            go_simp
            with_reducible rfl
           rotate_left
           ·simp only [Act.put, List.setIfInBounds_toArray, List.set_cons_zero, List.set_cons_succ, i64_w, i32_w]
            rfl
           refine pure_ (i := 8) (N := some 66) (v := ?_) (a' := ?_) #[true, true, true, true, true, true, true, true, true, false, false, false, false] rfl rfl (any_of HT_.out (by kernel_rfl)) (fun _ _ _ h => h) (Or.inl ⟨by rfl, ?_⟩) ?_ ?_
           rotate_left
           ·intro w'
            go_simp
            with_reducible rfl
           rotate_left
           ·simp only [Act.put, List.setIfInBounds_toArray, List.set_cons_zero, List.set_cons_succ, i64_w, i32_w]
            rfl
           refine pure_ (i := 9) (N := some 67) (v := ?_) (a' := ?_) #[true, true, true, true, true, true, true, true, true, true, false, false, false] rfl rfl (any_of HT_.out (by kernel_rfl)) (fun _ _ _ h => h) (Or.inl ⟨by rfl, ?_⟩) ?_ ?_
           rotate_left
           ·intro w'
            go_simp
            with_reducible rfl
           rotate_left
           ·simp only [Act.put, List.setIfInBounds_toArray, List.set_cons_zero, List.set_cons_succ, i64_w, i32_w]
            rfl
           refine take_ (i := 10) (N := some 68) (v := ?_) (a' := ?_) #[true, true, true, true, true, true, true, true, true, true, true, false, false] rfl rfl (take_ofW HT_.out HW_.out (by kernel_rfl)) (fun _ _ _ h => h) (Or.inl ⟨by rfl, ?_⟩) hHeld ?_ ?_
           rotate_left
           ·rintro w' ⟨s0, s1, s2, s3, s4, s5, s6, s7, s8, s9⟩
            go_simp
            with_reducible rfl
           rotate_left
           ·simp only [Act.put, List.setIfInBounds_toArray, List.set_cons_zero, List.set_cons_succ, i64_w, i32_w]
            rfl
           refine pure_ (i := 11) (N := some 69) (v := ?_) (a' := ?_) #[true, true, true, true, true, true, true, true, true, true, true, true, false] rfl rfl (any_of HT_.out (by kernel_rfl)) (fun _ _ _ h => h) (Or.inl ⟨by rfl, ?_⟩) ?_ ?_
           rotate_left
           ·intro w'
            go_simp
            with_reducible rfl
           rotate_left
           ·simp only [Act.put, List.setIfInBounds_toArray, List.set_cons_zero, List.set_cons_succ, i64_w, i32_w]
            rfl
           refine pure_ (i := 12) (N := some 4) (v := ?_) (a' := ?_) #[true, true, true, true, true, true, true, true, true, true, true, true, true] rfl rfl (any_of HT_.out (by kernel_rfl)) (fun _ _ _ h => h) (Or.inl ⟨by rfl, ?_⟩) ?_ ?_
           rotate_left
           ·intro w'
            go_simp
            with_reducible rfl
           rotate_left
           ·simp only [Act.put, List.setIfInBounds_toArray, List.set_cons_zero, List.set_cons_succ, i64_w, i32_w]
            rfl
           refine done_ (done_of HT_.out (by kernel_rfl)) ?_
           try go_wp2
           go_ret
           exact ⟨by first | rfl | (simp [errW_none, errW_some] <;> rfl) | (simp only [← hji35]; first | rfl | (simp [errW_none, errW_some] <;> rfl)) | (simp [*, errW_none, errW_some] <;> rfl), by repeat (first | (with_reducible first | exact HB.out | apply below_alloc | apply pw_below_drewN | apply below_drew1 | refine below_set ?_ GE127.out) | exact HB.out)⟩
          ·rw [if_neg c39] at H
           exact absurd H (by simp)
         ·rw [if_neg c38] at H
          exact absurd H (by simp)
        ·rw [if_neg c37] at H
         exact absurd H (by simp)
       ·rw [if_neg c36] at H
        exact absurd H (by simp)
end Go.Proofs.Ytodgfmmoaabhhaa.P
namespace Go.Proofs.Ytodgfmmoaabhhaa.P
open Go.RowKit Go.Proofs.YtodgfmmoaabhhaaW.PrintWords Go.Proofs.YtodgfmmoaabhhaaW.PrintLast Go.Proofs.YtodgfmmoaabhhaaW.PrintMore
attribute [local go_sem] max2_int min2_int max_two min_two max_three min_three max_four min_four
set_option linter.unusedVariables false
set_option linter.unusedSimpArgs false
def slices_Index_int_int.l0 : Nat → List Int → Int → Int → Int → Option (Int)
 | 0, _, _, _, _ => none
 | k + 1, x0, x1, x7, x8 => if x8 < x7 then (if 0 ≤ x8 then (if x8 < (x0.length : Int) then (if x1 = (rd x0 x8) then (some x8) else (slices_Index_int_int.l0 k x0 x1 x7 (wrap64 (x8 + 1)))) else (none)) else (none)) else (some (-1))
def slices_Index_int_int.f (k : Nat) (l0 : List Int) (a1 : Int) : Option (Int) := slices_Index_int_int.l0 k l0 a1 (l0.length : Int) 0
set_option maxHeartbeats 8000000 in
set_option maxRecDepth 100000 in
theorem slices_Index_int_int.calls (k : Nat) (A0 : Option Addr) (c0 : Nat) (l0 : List Int) (a1 : Int) (r : Int) (w : World) (hr0 : Kd.C (Kd.int .i64) w A0 l0.length l0) (hc0 : l0.length ≤ c0) (h : slices_Index_int_int.f k l0 a1 = some r) :
  Calls Try.prog 57 #[.slice A0 l0.length c0, .int .i64 a1] w fun e w' => e = .returned (.int .i64 r) ∧ Drawn0 w w' := by
 have HR0 := Aside0.mk hr0
 have HC0 := Aside0.mk hc0
 clear hr0 hc0
 have H : (slices_Index_int_int.l0 k l0 a1 (l0.length : Int) 0) = some r := h
 clear h
 have H' := Aside0.mk H
 clear H
 go_enter Try.func57, Try.ntmps57
 go_wp2
 go_loopg [8] k (fun kq v8 w' => ∃ (x8_1 : Int), v8 = .int .i64 x8_1 ∧ Aside0 (slices_Index_int_int.l0 kq l0 a1 (l0.length : Int) x8_1 = some r) ∧ Aside0 (kq ≤ k) ∧ Drawn0 w w')
 case atStart => exact ⟨(0), (by first | rfl | (simp; done) | (simp [*]; done)), H', ⟨Nat.le_refl _⟩, by repeat (first | exact Drawn0.refl _ | apply Drawn0.step)⟩
 case round =>
  clear H'
  try clear p2
  obtain ⟨x8_1, rfl, HA, HK1, ⟨m1, rfl⟩⟩ := hrel
  cases gk with
  | zero => exact absurd HA.out (by intro h_; first | (cases h_; done) | (simp [slices_Index_int_int.l0] at h_))
  | succ k1 =>
   have H := HA.out
   clear HA
   simp only [slices_Index_int_int.l0] at H
   by_cases c3 : x8_1 < (l0.length : Int)
   ·rw [if_pos c3] at H
    have c3b0 : decide (x8_1 < (l0.length : Int)) = true := decide_eq_true c3
    clear c3
    by_cases c4 : 0 ≤ x8_1
    ·rw [if_pos c4] at H
     have c4b0 : decide (0 ≤ x8_1) = true := decide_eq_true c4
     clear c4
     by_cases c5 : x8_1 < (l0.length : Int)
     ·rw [if_pos c5] at H
      have c5b0 : decide (x8_1 < (l0.length : Int)) = true := decide_eq_true c5
      clear c5
      by_cases c6 : a1 = (rd l0 x8_1)
      ·rw [if_pos c6] at H
       have c6b0 : (a1 == (rd l0 x8_1)) = true := beq_iff_eq.mpr c6
       have c6b1 : (a1 != (rd l0 x8_1)) = false := bne_eq_false_iff_eq.mpr c6
       clear c6
       obtain rfl := Option.some.inj H
       have p177 : 0 ≤ (x8_1 : Int) := of_decide_eq_true (by first | (with_reducible assumption) | assumption)
       have q177 : x8_1 < (l0.length : Int) := of_decide_eq_true (by first | (with_reducible assumption) | assumption)
       obtain ⟨ad177, e177, hx177_0⟩ := Kd.at_int HR0.out x8_1 p177 q177
       cases e177
       replace p177 := eq_true p177
       replace q177 := eq_true q177
       go_wp2
       go_ret
       exact ⟨by first | rfl | (simp; done) | (simp [*]; done), by repeat (first | exact Drawn0.refl _ | apply Drawn0.step)⟩
      ·rw [if_neg c6] at H
       have c6b0 : (a1 == (rd l0 x8_1)) = false := beq_eq_false_iff_ne.mpr c6
       have c6b1 : (a1 != (rd l0 x8_1)) = true := bne_iff_ne.mpr c6
       have H' := Aside0.mk H
       clear H
       have p177 : 0 ≤ (x8_1 : Int) := of_decide_eq_true (by first | (with_reducible assumption) | assumption)
       have q177 : x8_1 < (l0.length : Int) := of_decide_eq_true (by first | (with_reducible assumption) | assumption)
       obtain ⟨ad177, e177, hx177_0⟩ := Kd.at_int HR0.out x8_1 p177 q177
       cases e177
       replace p177 := eq_true p177
       replace q177 := eq_true q177
       go_wp2
       go_roundg k1
       case measure => have := HK1.out; omega
       case rel => exact ⟨(wrap64 (x8_1 + 1)), (by first | rfl | (simp; done) | (simp [*]; done)), H', ⟨by have := HK1.out; omega⟩, by repeat (first | exact Drawn0.refl _ | apply Drawn0.step)⟩
     ·rw [if_neg c5] at H
      exact absurd H (by simp)
    ·rw [if_neg c4] at H
     exact absurd H (by simp)
   ·rw [if_neg c3] at H
    have c3b0 : decide (x8_1 < (l0.length : Int)) = false := decide_eq_false c3
    clear c3
    obtain rfl := Option.some.inj H
    go_wp2
    go_ret
    exact ⟨by first | rfl | (simp; done) | (simp [*]; done), by repeat (first | exact Drawn0.refl _ | apply Drawn0.step)⟩
end Go.Proofs.Ytodgfmmoaabhhaa.P
namespace Go.Proofs.Ytodgfmmoaabhhaa.P
open Go.RowKit Go.Proofs.YtodgfmmoaabhhaaW.PrintWords Go.Proofs.YtodgfmmoaabhhaaW.PrintLast Go.Proofs.YtodgfmmoaabhhaaW.PrintMore
attribute [local go_sem] max2_int min2_int max_two min_two max_three min_three max_four min_four
set_option linter.unusedVariables false
set_option linter.unusedSimpArgs false
def slices_Contains_int_int.f (k : Nat) (l0 : List Int) (a1 : Int) : Option (Bool) := (slices_Index_int_int.f k l0 a1).bind fun t178 => (some (decide (t178 ≥ 0)))
set_option maxHeartbeats 8000000 in
set_option maxRecDepth 100000 in
theorem slices_Contains_int_int.calls (k : Nat) (A0 : Option Addr) (c0 : Nat) (l0 : List Int) (a1 : Int) (r : Bool) (w : World) (hr0 : Kd.C (Kd.int .i64) w A0 l0.length l0) (hc0 : l0.length ≤ c0) (h : slices_Contains_int_int.f k l0 a1 = some r) :
  Calls Try.prog 40 #[.slice A0 l0.length c0, .int .i64 a1] w fun e w' => e = .returned (.bool r) ∧ Drawn0 w w' := by
 have HR0 := Aside0.mk hr0
 have HC0 := Aside0.mk hc0
 clear hr0 hc0
 have H : ((slices_Index_int_int.f k l0 a1).bind fun t178 => (some (decide (t178 ≥ 0)))) = some r := h
 clear h
 replace H := Option.bind_eq_some_iff.mp H
 obtain ⟨t178, A30, H⟩ := H
 replace H : (some (decide (t178 ≥ 0))) = some r := H
 have A3 := Aside0.mk A30
 clear A30
 obtain rfl := Option.some.inj H
 go_enter Try.func40, Try.ntmps40
 go_wp2_with (first | ((with_reducible refine gate_callee (f := 57) rfl ?_); refine goesL_ (some 7) rfl rfl Try.func57 (by kernel_rfl) rfl #[.slice A0 l0.length c0, .int .i64 a1] rfl (by (try simp only [List.map_toArray, List.map_cons, List.map_nil]); first | done | rfl | (simp only [List.length_drop, List.length_take]; rfl)) ?_; (with_reducible refine (slices_Index_int_int.calls k _ _ l0 a1 t178 _ ?side1 ?side2 A3.out).mono ?_); (case side1 => repeat (first | exact HR0.out | (with_reducible refine Kd.C_alloc ?_ _) | (with_reducible refine Kd.C_drewN ?_ _) | (with_reducible refine Kd.C_drew ?_))); (case side2 => exact HC0.out); rintro e w' ⟨rfl, ⟨nd, rfl⟩⟩; refine ⟨_, rfl, ?_⟩))
 go_ret
 exact ⟨by first | rfl | (simp; done) | (simp [*]; done), by repeat (first | exact Drawn0.refl _ | apply Drawn0.step)⟩
end Go.Proofs.Ytodgfmmoaabhhaa.P
namespace Go.Proofs.Ytodgfmmoaabhhaa.P
open Go.RowKit Go.Proofs.YtodgfmmoaabhhaaW.PrintWords Go.Proofs.YtodgfmmoaabhhaaW.PrintLast Go.Proofs.YtodgfmmoaabhhaaW.PrintMore
attribute [local go_sem] max2_int min2_int max_two min_two max_three min_three max_four min_four
set_option linter.unusedVariables false
set_option linter.unusedSimpArgs false
mutual
def impl_PathOk.j0 : Nat → List Int → Bool → List (S69) → Option (Bool)
 | 0, _, _, _ => none
 | k + 1, x1, x20, x180000 => if x20 = true then (some false) else (impl_PathOk.l0 k x1 1 x180000)
def impl_PathOk.l0 : Nat → List Int → Int → List (S69) → Option (Bool)
 | 0, _, _, _ => none
 | k + 1, x1, x5, x180000 => if x5 < (x1.length : Int) then (if 0 ≤ (wrap64 (x5 - 1)) then (if (wrap64 (x5 - 1)) < (x1.length : Int) then (if 0 ≤ (rd x1 (wrap64 (x5 - 1))) then (if (rd x1 (wrap64 (x5 - 1))) < (x180000.length : Int) then (if 0 ≤ x5 then ((slices_Contains_int_int.f k ((rd_T69 x180000 (rd x1 (wrap64 (x5 - 1)))).f5) (rd x1 x5)).bind fun t186 => (if t186 = true then (impl_PathOk.l0 k x1 (wrap64 (x5 + 1)) x180000) else (some false))) else (none)) else (none)) else (none)) else (none)) else (none)) else (if 0 ≤ (wrap64 ((x1.length : Int) - 1)) then (if (wrap64 ((x1.length : Int) - 1)) < (x1.length : Int) then (if 0 ≤ (rd x1 (wrap64 ((x1.length : Int) - 1))) then (if (rd x1 (wrap64 ((x1.length : Int) - 1))) < (x180000.length : Int) then (some (((rd_T69 x180000 (rd x1 (wrap64 ((x1.length : Int) - 1)))).f0) == 7)) else (none)) else (none)) else (none)) else (none))
end
def impl_PathOk.f (k : Nat) (l0_0 : List (S69)) (l1 : List Int) : Option (Bool) := (impl_ProgOk.f l0_0).bind fun t180 => (if t180 = true then ((impl_in.f (l1.length : Int) 1 200).bind fun t181 => (if t181 = true then (if 0 < (l1.length : Int) then (impl_PathOk.j0 k l1 ((rd l1 0) != 0) l0_0) else (none)) else (impl_PathOk.j0 k l1 true l0_0))) else (impl_PathOk.j0 k l1 true l0_0))
set_option maxHeartbeats 8000000 in
set_option maxRecDepth 100000 in
theorem impl_PathOk.calls (k : Nat) (A0_0 : Option Addr) (c0_0 : Nat) (l0_0 : List (S69)) (A1 : Option Addr) (c1 : Nat) (l1 : List Int) (r : Bool) (w : World) (hr0_0 : Kd.C k69 w A0_0 l0_0.length l0_0) (hc0_0 : l0_0.length ≤ c0_0) (hr1 : Kd.C (Kd.int .i64) w A1 l1.length l1) (hc1 : l1.length ≤ c1) (h : impl_PathOk.f k l0_0 l1 = some r) :
  Calls Try.prog 11 #[.agg #[.slice A0_0 l0_0.length c0_0], .slice A1 l1.length c1] w fun e w' => e = .returned (.bool r) ∧ Below w.heap.size w w' := by
 have hu30 := Try.underlying30
 have HR0_0 := Aside0.mk hr0_0
 have HC0_0 := Aside0.mk hc0_0
 clear hr0_0 hc0_0
 have HR1 := Aside0.mk hr1
 have HC1 := Aside0.mk hc1
 clear hr1 hc1
 have HB := Aside0.mk (Below.refl w.heap.size w)
 have H : ((impl_ProgOk.f l0_0).bind fun t180 => (if t180 = true then ((impl_in.f (l1.length : Int) 1 200).bind fun t181 => (if t181 = true then (if 0 < (l1.length : Int) then (impl_PathOk.j0 k l1 ((rd l1 0) != 0) l0_0) else (none)) else (impl_PathOk.j0 k l1 true l0_0))) else (impl_PathOk.j0 k l1 true l0_0))) = some r := h
 clear h
 have HC3 := Aside0.mk H
 clear H
 go_enter Try.func11, Try.ntmps11
 go_upto_region 1 with (first | ((with_reducible refine gate_dst (N := 2) rfl ?_); (try (refine gate_guard (by rfl) ?_; dsimp only)); refine box_event ?hg (N := 2) ?hd (cs := #[.slice A0_0 l0_0.length c0_0]) (t := 30) ?hr ?_; (case hd => rfl); (case hg => rfl); (case hr => first | (go_simp; done) | (go_simp; rfl) | (go_simp; rfl)); intro gb179 hg w4 hbox hb; have n0_ := Aside0.mk (below_step (by repeat (first | (with_reducible first | exact HB.out | apply below_alloc | apply pw_below_drewN | apply below_drew1) | exact HB.out)) hb); have n1_ := Aside0.mk (hbox); have n2_ := Aside0.mk ((by rw [hg]; exact (below_size (by repeat (first | (with_reducible first | exact HB.out | apply below_alloc | apply pw_below_drewN | apply below_drew1) | exact HB.out))) : w.heap.size ≤ gb179)); have n3_ := Aside0.mk ((by rw [hg]; exact (below_size (by repeat (first | (with_reducible first | exact HB.out | apply below_alloc | apply pw_below_drewN | apply below_drew1) | exact HB.out))) : w.heap.size ≤ gb179)); clear HB; have HB := n0_; have BK179 := n1_; have GW179 := n2_; have GE179 := n3_; clear n0_ n1_ n2_ n3_; clear hb hbox hg))
 repeat (go_quiet (first | ((with_reducible refine gate_dst (N := 2) rfl ?_); (try (refine gate_guard (by rfl) ?_; dsimp only)); refine box_event ?hg (N := 2) ?hd (cs := #[.slice A0_0 l0_0.length c0_0]) (t := 30) ?hr ?_; (case hd => rfl); (case hg => rfl); (case hr => first | (go_simp; done) | (go_simp; rfl) | (go_simp; rfl)); intro gb179 hg w4 hbox hb; have n0_ := Aside0.mk (below_step (by repeat (first | (with_reducible first | exact HB.out | apply below_alloc | apply pw_below_drewN | apply below_drew1) | exact HB.out)) hb); have n1_ := Aside0.mk (hbox); have n2_ := Aside0.mk ((by rw [hg]; exact (below_size (by repeat (first | (with_reducible first | exact HB.out | apply below_alloc | apply pw_below_drewN | apply below_drew1) | exact HB.out))) : w.heap.size ≤ gb179)); have n3_ := Aside0.mk ((by rw [hg]; exact (below_size (by repeat (first | (with_reducible first | exact HB.out | apply below_alloc | apply pw_below_drewN | apply below_drew1) | exact HB.out))) : w.heap.size ≤ gb179)); clear HB; have HB := n0_; have BK179 := n1_; have GW179 := n2_; have GE179 := n3_; clear n0_ n1_ n2_ n3_; clear hb hbox hg)); go_upto_region 1 with (first | ((with_reducible refine gate_dst (N := 2) rfl ?_); (try (refine gate_guard (by rfl) ?_; dsimp only)); refine box_event ?hg (N := 2) ?hd (cs := #[.slice A0_0 l0_0.length c0_0]) (t := 30) ?hr ?_; (case hd => rfl); (case hg => rfl); (case hr => first | (go_simp; done) | (go_simp; rfl) | (go_simp; rfl)); intro gb179 hg w4 hbox hb; have n0_ := Aside0.mk (below_step (by repeat (first | (with_reducible first | exact HB.out | apply below_alloc | apply pw_below_drewN | apply below_drew1) | exact HB.out)) hb); have n1_ := Aside0.mk (hbox); have n2_ := Aside0.mk ((by rw [hg]; exact (below_size (by repeat (first | (with_reducible first | exact HB.out | apply below_alloc | apply pw_below_drewN | apply below_drew1) | exact HB.out))) : w.heap.size ≤ gb179)); have n3_ := Aside0.mk ((by rw [hg]; exact (below_size (by repeat (first | (with_reducible first | exact HB.out | apply below_alloc | apply pw_below_drewN | apply below_drew1) | exact HB.out))) : w.heap.size ≤ gb179)); clear HB; have HB := n0_; have BK179 := n1_; have GW179 := n2_; have GE179 := n3_; clear n0_ n1_ n2_ n3_; clear hb hbox hg)))
 (try simp only [Act.put, List.setIfInBounds_toArray, List.set_cons_zero, List.set_cons_succ])
 go_cut [20] (fun v20 wc => ∃ (kq : Nat) (x20_2 : Bool), v20 = .bool x20_2 ∧ Aside0 (impl_PathOk.j0 kq l1 x20_2 l0_0 = some r) ∧ Aside0 (kq ≤ k) ∧ Aside0 (wc.heap[gb179]? = some (.cells #[(.slice A0_0 l0_0.length c0_0)] 30 (0, 0))) ∧ Aside0 (Below w.heap.size w wc))
 case first =>
  have H := HC3.out
  clear HC3
  replace H := Option.bind_eq_some_iff.mp H
  obtain ⟨t180, A50, H⟩ := H
  replace H : (if t180 = true then ((impl_in.f (l1.length : Int) 1 200).bind fun t181 => (if t181 = true then (if 0 < (l1.length : Int) then (impl_PathOk.j0 k l1 ((rd l1 0) != 0) l0_0) else (none)) else (impl_PathOk.j0 k l1 true l0_0))) else (impl_PathOk.j0 k l1 true l0_0)) = some r := H
  have A5 := Aside0.mk A50
  clear A50
  by_cases c6 : t180 = true
  ·subst c6
   have H1 : ((impl_in.f (l1.length : Int) 1 200).bind fun t181 => (if t181 = true then (if 0 < (l1.length : Int) then (impl_PathOk.j0 k l1 ((rd l1 0) != 0) l0_0) else (none)) else (impl_PathOk.j0 k l1 true l0_0))) = some r := by rw [if_pos rfl] at H; exact H
   clear H
   have H := H1
   clear H1
   replace H := Option.bind_eq_some_iff.mp H
   obtain ⟨t181, A70, H⟩ := H
   replace H : (if t181 = true then (if 0 < (l1.length : Int) then (impl_PathOk.j0 k l1 ((rd l1 0) != 0) l0_0) else (none)) else (impl_PathOk.j0 k l1 true l0_0)) = some r := H
   have A7 := Aside0.mk A70
   clear A70
   by_cases c8 : t181 = true
   ·subst c8
    have H1 : (if 0 < (l1.length : Int) then (impl_PathOk.j0 k l1 ((rd l1 0) != 0) l0_0) else (none)) = some r := by rw [if_pos rfl] at H; exact H
    clear H
    have H := H1
    clear H1
    by_cases c9 : 0 < (l1.length : Int)
    ·rw [if_pos c9] at H
     have c9b0 : decide (0 < (l1.length : Int)) = true := decide_eq_true c9
     have c9b1 : decide (0 < l1.length) = true := decide_eq_true (by omega)
     clear c9
     (first | rw [c9b0] | (simp only [i64_w, i32_w]; rw [c9b0]) | skip)
     have H' := Aside0.mk H
     clear H
     have hcz10_0 : w4.cell? ⟨gb179, 0, none⟩ = some (.slice A0_0 l0_0.length c0_0) := (blk_cell BK179.out 0).trans rfl
     have hfz10_0 := blk_frozen BK179.out 0
     go_wp2_with (first | (go_at_call 38; (with_reducible refine (impl_ProgOk.calls _ _ l0_0 true _ ?side1 ?side2 A5.out).mono ?_); (case side1 => repeat (first | exact (Kd.C_below HR0_0.out HB.out) | (with_reducible refine Kd.C_alloc ?_ _) | (with_reducible refine Kd.C_drewN ?_ _) | (with_reducible refine Kd.C_drew ?_))); (case side2 => exact HC0_0.out); rintro e w11 ⟨rfl, hb⟩; have n0_ := Aside0.mk (blk_below (g := gb179) (o := .cells #[.slice A0_0 l0_0.length c0_0] 30 (0, 0)) (by (with_reducible repeat (first | refine blk_drewN ?_ _ | refine blk_drew ?_ | refine blk_alloc ?_ _)); exact BK179.out) hb); have n1_ := Aside0.mk (below_step (by repeat (first | (with_reducible first | exact HB.out | apply below_alloc | apply pw_below_drewN | apply below_drew1 | refine below_set ?_ GE179.out) | exact HB.out)) hb); clear BK179; clear HB; have BK179 := n0_; have HB := n1_; clear n0_ n1_; (try clear hb); (try clear hb2); (try clear hk); (try clear hi)) | (go_at_call 39; (with_reducible refine (impl_in.calls (l1.length : Int) 1 200 true _ A7.out).mono ?_); rintro e w' ⟨rfl, ⟨nd, rfl⟩⟩; (try first | exact ⟨rfl, _, World.drewN_drewN _ _ _⟩ | exact ⟨rfl, _, Eq.trans (World.drewN_drewN _ _ _) (congrArg (World.drewN _) (Nat.add_assoc _ _ _))⟩); have p182 : 0 ≤ (0 : Int) := (by omega); have q182 : 0 < (l1.length : Int) := of_decide_eq_true (by first | (with_reducible assumption) | assumption); obtain ⟨ad182, e182, hx182_0⟩ := Kd.at_int HR1.out 0 p182 q182; cases e182; have qi182 : (0 < l1.length) = True := eq_true (by omega); (try rw [show ((0 : Int)).toNat = 0 from rfl] at hx182_0); (try rw [Addr.add_zero'] at hx182_0); replace hx182_0 := (HB.out.cell (World.block_lt_of_cell? w _ hx182_0)).trans hx182_0; replace p182 := eq_true p182; replace q182 := eq_true q182))
     repeat (go_quiet (first | (go_at_call 38; (with_reducible refine (impl_ProgOk.calls _ _ l0_0 true _ ?side1 ?side2 A5.out).mono ?_); (case side1 => repeat (first | exact (Kd.C_below HR0_0.out HB.out) | (with_reducible refine Kd.C_alloc ?_ _) | (with_reducible refine Kd.C_drewN ?_ _) | (with_reducible refine Kd.C_drew ?_))); (case side2 => exact HC0_0.out); rintro e w11 ⟨rfl, hb⟩; have n0_ := Aside0.mk (blk_below (g := gb179) (o := .cells #[.slice A0_0 l0_0.length c0_0] 30 (0, 0)) (by (with_reducible repeat (first | refine blk_drewN ?_ _ | refine blk_drew ?_ | refine blk_alloc ?_ _)); exact BK179.out) hb); have n1_ := Aside0.mk (below_step (by repeat (first | (with_reducible first | exact HB.out | apply below_alloc | apply pw_below_drewN | apply below_drew1 | refine below_set ?_ GE179.out) | exact HB.out)) hb); clear BK179; clear HB; have BK179 := n0_; have HB := n1_; clear n0_ n1_; (try clear hb); (try clear hb2); (try clear hk); (try clear hi)) | (go_at_call 39; (with_reducible refine (impl_in.calls (l1.length : Int) 1 200 true _ A7.out).mono ?_); rintro e w' ⟨rfl, ⟨nd, rfl⟩⟩; (try first | exact ⟨rfl, _, World.drewN_drewN _ _ _⟩ | exact ⟨rfl, _, Eq.trans (World.drewN_drewN _ _ _) (congrArg (World.drewN _) (Nat.add_assoc _ _ _))⟩); have p182 : 0 ≤ (0 : Int) := (by omega); have q182 : 0 < (l1.length : Int) := of_decide_eq_true (by first | (with_reducible assumption) | assumption); obtain ⟨ad182, e182, hx182_0⟩ := Kd.at_int HR1.out 0 p182 q182; cases e182; have qi182 : (0 < l1.length) = True := eq_true (by omega); (try rw [show ((0 : Int)).toNat = 0 from rfl] at hx182_0); (try rw [Addr.add_zero'] at hx182_0); replace hx182_0 := (HB.out.cell (World.block_lt_of_cell? w _ hx182_0)).trans hx182_0; replace p182 := eq_true p182; replace q182 := eq_true q182)); try go_wp2_with (first | (go_at_call 38; (with_reducible refine (impl_ProgOk.calls _ _ l0_0 true _ ?side1 ?side2 A5.out).mono ?_); (case side1 => repeat (first | exact (Kd.C_below HR0_0.out HB.out) | (with_reducible refine Kd.C_alloc ?_ _) | (with_reducible refine Kd.C_drewN ?_ _) | (with_reducible refine Kd.C_drew ?_))); (case side2 => exact HC0_0.out); rintro e w11 ⟨rfl, hb⟩; have n0_ := Aside0.mk (blk_below (g := gb179) (o := .cells #[.slice A0_0 l0_0.length c0_0] 30 (0, 0)) (by (with_reducible repeat (first | refine blk_drewN ?_ _ | refine blk_drew ?_ | refine blk_alloc ?_ _)); exact BK179.out) hb); have n1_ := Aside0.mk (below_step (by repeat (first | (with_reducible first | exact HB.out | apply below_alloc | apply pw_below_drewN | apply below_drew1 | refine below_set ?_ GE179.out) | exact HB.out)) hb); clear BK179; clear HB; have BK179 := n0_; have HB := n1_; clear n0_ n1_; (try clear hb); (try clear hb2); (try clear hk); (try clear hi)) | (go_at_call 39; (with_reducible refine (impl_in.calls (l1.length : Int) 1 200 true _ A7.out).mono ?_); rintro e w' ⟨rfl, ⟨nd, rfl⟩⟩; (try first | exact ⟨rfl, _, World.drewN_drewN _ _ _⟩ | exact ⟨rfl, _, Eq.trans (World.drewN_drewN _ _ _) (congrArg (World.drewN _) (Nat.add_assoc _ _ _))⟩); have p182 : 0 ≤ (0 : Int) := (by omega); have q182 : 0 < (l1.length : Int) := of_decide_eq_true (by first | (with_reducible assumption) | assumption); obtain ⟨ad182, e182, hx182_0⟩ := Kd.at_int HR1.out 0 p182 q182; cases e182; have qi182 : (0 < l1.length) = True := eq_true (by omega); (try rw [show ((0 : Int)).toNat = 0 from rfl] at hx182_0); (try rw [Addr.add_zero'] at hx182_0); replace hx182_0 := (HB.out.cell (World.block_lt_of_cell? w _ hx182_0)).trans hx182_0; replace p182 := eq_true p182; replace q182 := eq_true q182)))
     go_meet
     case rel => exact ⟨_, (((rd l1 0) != 0)), (by first | rfl | (simp; done) | (simp [*]; done)), H', ⟨by first | omega | exact Nat.le_refl _⟩, ⟨by (with_reducible repeat (first | refine blk_drewN ?_ _ | refine blk_drew ?_ | refine blk_alloc ?_ _)); exact BK179.out⟩, ⟨by repeat (first | (with_reducible first | exact HB.out | apply below_alloc | apply pw_below_drewN | apply below_drew1 | refine below_set ?_ GE179.out) | exact HB.out)⟩⟩
    ·rw [if_neg c9] at H
     exact absurd H (by simp)
   ·replace c8 := Bool.eq_false_iff.mpr c8
    subst c8
    have H1 : (impl_PathOk.j0 k l1 true l0_0) = some r := by rw [if_neg (show ¬ (false = true) by decide)] at H; exact H
    clear H
    have H := H1
    clear H1
    have H' := Aside0.mk H
    clear H
    have hcz12_0 : w4.cell? ⟨gb179, 0, none⟩ = some (.slice A0_0 l0_0.length c0_0) := (blk_cell BK179.out 0).trans rfl
    have hfz12_0 := blk_frozen BK179.out 0
    go_wp2_with (first | (go_at_call 38; (with_reducible refine (impl_ProgOk.calls _ _ l0_0 true _ ?side1 ?side2 A5.out).mono ?_); (case side1 => repeat (first | exact (Kd.C_below HR0_0.out HB.out) | (with_reducible refine Kd.C_alloc ?_ _) | (with_reducible refine Kd.C_drewN ?_ _) | (with_reducible refine Kd.C_drew ?_))); (case side2 => exact HC0_0.out); rintro e w13 ⟨rfl, hb⟩; have n0_ := Aside0.mk (blk_below (g := gb179) (o := .cells #[.slice A0_0 l0_0.length c0_0] 30 (0, 0)) (by (with_reducible repeat (first | refine blk_drewN ?_ _ | refine blk_drew ?_ | refine blk_alloc ?_ _)); exact BK179.out) hb); have n1_ := Aside0.mk (below_step (by repeat (first | (with_reducible first | exact HB.out | apply below_alloc | apply pw_below_drewN | apply below_drew1 | refine below_set ?_ GE179.out) | exact HB.out)) hb); clear BK179; clear HB; have BK179 := n0_; have HB := n1_; clear n0_ n1_; (try clear hb); (try clear hb2); (try clear hk); (try clear hi)) | (go_at_call 39; (with_reducible refine (impl_in.calls (l1.length : Int) 1 200 false _ A7.out).mono ?_); rintro e w' ⟨rfl, ⟨nd, rfl⟩⟩; (try first | exact ⟨rfl, _, World.drewN_drewN _ _ _⟩ | exact ⟨rfl, _, Eq.trans (World.drewN_drewN _ _ _) (congrArg (World.drewN _) (Nat.add_assoc _ _ _))⟩)))
    repeat (go_quiet (first | (go_at_call 38; (with_reducible refine (impl_ProgOk.calls _ _ l0_0 true _ ?side1 ?side2 A5.out).mono ?_); (case side1 => repeat (first | exact (Kd.C_below HR0_0.out HB.out) | (with_reducible refine Kd.C_alloc ?_ _) | (with_reducible refine Kd.C_drewN ?_ _) | (with_reducible refine Kd.C_drew ?_))); (case side2 => exact HC0_0.out); rintro e w13 ⟨rfl, hb⟩; have n0_ := Aside0.mk (blk_below (g := gb179) (o := .cells #[.slice A0_0 l0_0.length c0_0] 30 (0, 0)) (by (with_reducible repeat (first | refine blk_drewN ?_ _ | refine blk_drew ?_ | refine blk_alloc ?_ _)); exact BK179.out) hb); have n1_ := Aside0.mk (below_step (by repeat (first | (with_reducible first | exact HB.out | apply below_alloc | apply pw_below_drewN | apply below_drew1 | refine below_set ?_ GE179.out) | exact HB.out)) hb); clear BK179; clear HB; have BK179 := n0_; have HB := n1_; clear n0_ n1_; (try clear hb); (try clear hb2); (try clear hk); (try clear hi)) | (go_at_call 39; (with_reducible refine (impl_in.calls (l1.length : Int) 1 200 false _ A7.out).mono ?_); rintro e w' ⟨rfl, ⟨nd, rfl⟩⟩; (try first | exact ⟨rfl, _, World.drewN_drewN _ _ _⟩ | exact ⟨rfl, _, Eq.trans (World.drewN_drewN _ _ _) (congrArg (World.drewN _) (Nat.add_assoc _ _ _))⟩))); try go_wp2_with (first | (go_at_call 38; (with_reducible refine (impl_ProgOk.calls _ _ l0_0 true _ ?side1 ?side2 A5.out).mono ?_); (case side1 => repeat (first | exact (Kd.C_below HR0_0.out HB.out) | (with_reducible refine Kd.C_alloc ?_ _) | (with_reducible refine Kd.C_drewN ?_ _) | (with_reducible refine Kd.C_drew ?_))); (case side2 => exact HC0_0.out); rintro e w13 ⟨rfl, hb⟩; have n0_ := Aside0.mk (blk_below (g := gb179) (o := .cells #[.slice A0_0 l0_0.length c0_0] 30 (0, 0)) (by (with_reducible repeat (first | refine blk_drewN ?_ _ | refine blk_drew ?_ | refine blk_alloc ?_ _)); exact BK179.out) hb); have n1_ := Aside0.mk (below_step (by repeat (first | (with_reducible first | exact HB.out | apply below_alloc | apply pw_below_drewN | apply below_drew1 | refine below_set ?_ GE179.out) | exact HB.out)) hb); clear BK179; clear HB; have BK179 := n0_; have HB := n1_; clear n0_ n1_; (try clear hb); (try clear hb2); (try clear hk); (try clear hi)) | (go_at_call 39; (with_reducible refine (impl_in.calls (l1.length : Int) 1 200 false _ A7.out).mono ?_); rintro e w' ⟨rfl, ⟨nd, rfl⟩⟩; (try first | exact ⟨rfl, _, World.drewN_drewN _ _ _⟩ | exact ⟨rfl, _, Eq.trans (World.drewN_drewN _ _ _) (congrArg (World.drewN _) (Nat.add_assoc _ _ _))⟩))))
    go_meet
    case rel => exact ⟨_, (true), (by first | rfl | (simp; done) | (simp [*]; done)), H', ⟨by first | omega | exact Nat.le_refl _⟩, ⟨by (with_reducible repeat (first | refine blk_drewN ?_ _ | refine blk_drew ?_ | refine blk_alloc ?_ _)); exact BK179.out⟩, ⟨by repeat (first | (with_reducible first | exact HB.out | apply below_alloc | apply pw_below_drewN | apply below_drew1 | refine below_set ?_ GE179.out) | exact HB.out)⟩⟩
  ·replace c6 := Bool.eq_false_iff.mpr c6
   subst c6
   have H1 : (impl_PathOk.j0 k l1 true l0_0) = some r := by rw [if_neg (show ¬ (false = true) by decide)] at H; exact H
   clear H
   have H := H1
   clear H1
   have H' := Aside0.mk H
   clear H
   have hcz14_0 : w4.cell? ⟨gb179, 0, none⟩ = some (.slice A0_0 l0_0.length c0_0) := (blk_cell BK179.out 0).trans rfl
   have hfz14_0 := blk_frozen BK179.out 0
   go_wp2_with (first | (go_at_call 38; (with_reducible refine (impl_ProgOk.calls _ _ l0_0 false _ ?side1 ?side2 A5.out).mono ?_); (case side1 => repeat (first | exact (Kd.C_below HR0_0.out HB.out) | (with_reducible refine Kd.C_alloc ?_ _) | (with_reducible refine Kd.C_drewN ?_ _) | (with_reducible refine Kd.C_drew ?_))); (case side2 => exact HC0_0.out); rintro e w15 ⟨rfl, hb⟩; have n0_ := Aside0.mk (blk_below (g := gb179) (o := .cells #[.slice A0_0 l0_0.length c0_0] 30 (0, 0)) (by (with_reducible repeat (first | refine blk_drewN ?_ _ | refine blk_drew ?_ | refine blk_alloc ?_ _)); exact BK179.out) hb); have n1_ := Aside0.mk (below_step (by repeat (first | (with_reducible first | exact HB.out | apply below_alloc | apply pw_below_drewN | apply below_drew1 | refine below_set ?_ GE179.out) | exact HB.out)) hb); clear BK179; clear HB; have BK179 := n0_; have HB := n1_; clear n0_ n1_; (try clear hb); (try clear hb2); (try clear hk); (try clear hi)))
   repeat (go_quiet (first | (go_at_call 38; (with_reducible refine (impl_ProgOk.calls _ _ l0_0 false _ ?side1 ?side2 A5.out).mono ?_); (case side1 => repeat (first | exact (Kd.C_below HR0_0.out HB.out) | (with_reducible refine Kd.C_alloc ?_ _) | (with_reducible refine Kd.C_drewN ?_ _) | (with_reducible refine Kd.C_drew ?_))); (case side2 => exact HC0_0.out); rintro e w15 ⟨rfl, hb⟩; have n0_ := Aside0.mk (blk_below (g := gb179) (o := .cells #[.slice A0_0 l0_0.length c0_0] 30 (0, 0)) (by (with_reducible repeat (first | refine blk_drewN ?_ _ | refine blk_drew ?_ | refine blk_alloc ?_ _)); exact BK179.out) hb); have n1_ := Aside0.mk (below_step (by repeat (first | (with_reducible first | exact HB.out | apply below_alloc | apply pw_below_drewN | apply below_drew1 | refine below_set ?_ GE179.out) | exact HB.out)) hb); clear BK179; clear HB; have BK179 := n0_; have HB := n1_; clear n0_ n1_; (try clear hb); (try clear hb2); (try clear hk); (try clear hi))); try go_wp2_with (first | (go_at_call 38; (with_reducible refine (impl_ProgOk.calls _ _ l0_0 false _ ?side1 ?side2 A5.out).mono ?_); (case side1 => repeat (first | exact (Kd.C_below HR0_0.out HB.out) | (with_reducible refine Kd.C_alloc ?_ _) | (with_reducible refine Kd.C_drewN ?_ _) | (with_reducible refine Kd.C_drew ?_))); (case side2 => exact HC0_0.out); rintro e w15 ⟨rfl, hb⟩; have n0_ := Aside0.mk (blk_below (g := gb179) (o := .cells #[.slice A0_0 l0_0.length c0_0] 30 (0, 0)) (by (with_reducible repeat (first | refine blk_drewN ?_ _ | refine blk_drew ?_ | refine blk_alloc ?_ _)); exact BK179.out) hb); have n1_ := Aside0.mk (below_step (by repeat (first | (with_reducible first | exact HB.out | apply below_alloc | apply pw_below_drewN | apply below_drew1 | refine below_set ?_ GE179.out) | exact HB.out)) hb); clear BK179; clear HB; have BK179 := n0_; have HB := n1_; clear n0_ n1_; (try clear hb); (try clear hb2); (try clear hk); (try clear hi))))
   go_meet
   case rel => exact ⟨_, (true), (by first | rfl | (simp; done) | (simp [*]; done)), H', ⟨by first | omega | exact Nat.le_refl _⟩, ⟨by (with_reducible repeat (first | refine blk_drewN ?_ _ | refine blk_drew ?_ | refine blk_alloc ?_ _)); exact BK179.out⟩, ⟨by repeat (first | (with_reducible first | exact HB.out | apply below_alloc | apply pw_below_drewN | apply below_drew1 | refine below_set ?_ GE179.out) | exact HB.out)⟩⟩
 case rest =>
  clear HC3
  try clear c1
  try clear p1
  try clear q1
  try clear hx1
  try clear qi1
  try clear p2
  try clear c6
  try clear c8
  try clear c9
  try clear c9b0
  try clear c9b1
  try clear c11
  try clear hcz10_0
  try clear hcz12_0
  try clear hcz14_0
  try clear hfz10_0
  try clear hfz12_0
  try clear hfz14_0
  try clear hx182_0
  try clear p182
  try clear q182
  obtain ⟨kq, x20_2, rfl, HA, HJ2, BK179, HB⟩ := hcut
  cases kq with
  | zero => exact absurd HA.out (by intro h_; first | (cases h_; done) | (simp [impl_PathOk.j0] at h_))
  | succ kj2 =>
   have H := HA.out
   clear HA
   simp only [impl_PathOk.j0] at H
   by_cases c16 : x20_2 = true
   ·subst c16
    have H1 : (some false) = some r := by rw [if_pos rfl] at H; exact H
    clear H
    have H := H1
    clear H1
    obtain rfl := Option.some.inj H
    go_wp2
    repeat (go_quiet (fail); try go_wp2)
    go_ret
    exact ⟨by first | rfl | (simp [errW_none, errW_some] <;> rfl) | (simp [*, errW_none, errW_some] <;> rfl), by repeat (first | (with_reducible first | exact HB.out | apply below_alloc | apply pw_below_drewN | apply below_drew1 | refine below_set ?_ GE179.out) | exact HB.out)⟩
   ·replace c16 := Bool.eq_false_iff.mpr c16
    subst c16
    have H1 : (impl_PathOk.l0 kj2 l1 1 l0_0) = some r := by rw [if_neg (show ¬ (false = true) by decide)] at H; exact H
    clear H
    have H := H1
    clear H1
    have H' := Aside0.mk H
    clear H
    go_wp2
    repeat (go_quiet (fail); try go_wp2)
    go_loopg [5] kj2 (fun kq v5 w' => ∃ (x5_2 : Int), v5 = .int .i64 x5_2 ∧ Aside0 (impl_PathOk.l0 kq l1 x5_2 l0_0 = some r) ∧ Aside0 (kq ≤ kj2) ∧ Aside0 (w'.heap[gb179]? = some (.cells #[(.slice A0_0 l0_0.length c0_0)] 30 (0, 0))) ∧ Aside0 (Below w.heap.size w w'))
    case atStart => exact ⟨(1), (by first | rfl | (simp; done) | (simp [*]; done)), H', ⟨Nat.le_refl _⟩, ⟨by (with_reducible repeat (first | refine blk_drewN ?_ _ | refine blk_drew ?_ | refine blk_alloc ?_ _)); exact BK179.out⟩, ⟨by repeat (first | (with_reducible first | exact HB.out | apply below_alloc | apply pw_below_drewN | apply below_drew1 | refine below_set ?_ GE179.out) | exact HB.out)⟩⟩
    case round =>
     clear H'
     try clear c1
     try clear p1
     try clear q1
     try clear hx1
     try clear qi1
     try clear p2
     try clear c6
     try clear c8
     try clear c9
     try clear c9b0
     try clear c9b1
     try clear c11
     try clear c16
     try clear hcz10_0
     try clear hcz12_0
     try clear hcz14_0
     try clear hfz10_0
     try clear hfz12_0
     try clear hfz14_0
     try clear hx182_0
     try clear p1
     try clear p182
     try clear p2
     try clear q1
     try clear q182
     obtain ⟨x5_2, rfl, HA, HK2, BK179, HB⟩ := hrel
     cases gk with
     | zero => exact absurd HA.out (by intro h_; first | (cases h_; done) | (simp [impl_PathOk.l0] at h_))
     | succ k2 =>
      have H := HA.out
      clear HA
      simp only [impl_PathOk.l0] at H
      by_cases c17 : x5_2 < (l1.length : Int)
      ·rw [if_pos c17] at H
       have c17b0 : decide (x5_2 < (l1.length : Int)) = true := decide_eq_true c17
       clear c17
       obtain ⟨ji18, hji18⟩ : ∃ j_ : Int, (wrap64 (x5_2 - 1)) = j_ := ⟨_, rfl⟩
       replace H : (if 0 ≤ (ji18) then (if (ji18) < (l1.length : Int) then (if 0 ≤ (rd l1 (ji18)) then (if (rd l1 (ji18)) < (l0_0.length : Int) then (if 0 ≤ x5_2 then ((slices_Contains_int_int.f k2 ((rd_T69 l0_0 (rd l1 (ji18))).f5) (rd l1 x5_2)).bind fun t186 => (if t186 = true then (impl_PathOk.l0 k2 l1 (wrap64 (x5_2 + 1)) l0_0) else (some false))) else (none)) else (none)) else (none)) else (none)) else (none)) = some r := by first | (rw [hji18] at H; exact H) | (simp only [hji18] at H ⊢; exact H)
       have hji18w : (IntKind.i64.wrap (x5_2 - 1)) = ji18 := (i64_w _).trans hji18
       by_cases c19 : 0 ≤ (ji18)
       ·rw [if_pos c19] at H
        have c19b0 : decide (0 ≤ (ji18)) = true := decide_eq_true c19
        clear c19
        by_cases c20 : (ji18) < (l1.length : Int)
        ·rw [if_pos c20] at H
         have c20b0 : decide ((ji18) < (l1.length : Int)) = true := decide_eq_true c20
         clear c20
         by_cases c21 : 0 ≤ (rd l1 (ji18))
         ·rw [if_pos c21] at H
          have c21b0 : decide (0 ≤ (rd l1 (ji18))) = true := decide_eq_true c21
          clear c21
          by_cases c22 : (rd l1 (ji18)) < (l0_0.length : Int)
          ·rw [if_pos c22] at H
           have c22b0 : decide ((rd l1 (ji18)) < (l0_0.length : Int)) = true := decide_eq_true c22
           clear c22
           by_cases c23 : 0 ≤ x5_2
           ·rw [if_pos c23] at H
            have c23b0 : decide (0 ≤ x5_2) = true := decide_eq_true c23
            clear c23
            replace H := Option.bind_eq_some_iff.mp H
            obtain ⟨t186, A240, H⟩ := H
            replace H : (if t186 = true then (impl_PathOk.l0 k2 l1 (wrap64 (x5_2 + 1)) l0_0) else (some false)) = some r := H
            have A24 := Aside0.mk A240
            clear A240
            by_cases c25 : t186 = true
            ·subst c25
             have H1 : (impl_PathOk.l0 k2 l1 (wrap64 (x5_2 + 1)) l0_0) = some r := by rw [if_pos rfl] at H; exact H
             clear H
             have H := H1
             clear H1
             have H' := Aside0.mk H
             clear H
             have hcz26_0 : wr.cell? ⟨gb179, 0, none⟩ = some (.slice A0_0 l0_0.length c0_0) := (blk_cell BK179.out 0).trans rfl
             have hfz26_0 := blk_frozen BK179.out 0
             have p183 : 0 ≤ ((ji18) : Int) := of_decide_eq_true (by first | (with_reducible assumption) | assumption)
             have q183 : (ji18) < (l1.length : Int) := of_decide_eq_true (by first | (with_reducible assumption) | assumption)
             obtain ⟨ad183, e183, hx183_0⟩ := Kd.at_int HR1.out (ji18) p183 q183
             cases e183
             replace hx183_0 := (HB.out.cell (World.block_lt_of_cell? w _ hx183_0)).trans hx183_0
             replace p183 := eq_true p183
             replace q183 := eq_true q183
             have p184 : 0 ≤ ((rd l1 (ji18)) : Int) := of_decide_eq_true (by first | (with_reducible assumption) | assumption)
             have q184 : (rd l1 (ji18)) < (l0_0.length : Int) := of_decide_eq_true (by first | (with_reducible assumption) | assumption)
             obtain ⟨ad184, A184_7, c184_7, e184, hx184_0, hx184_1, hx184_2, hx184_3, hx184_4, hx184_5, hx184_6, hx184_7, hl184_7, hi184_7⟩ := at_T69 HR0_0.out (rd l1 (ji18)) p184 q184
             cases e184
             replace hx184_0 := (HB.out.cell (World.block_lt_of_cell? w _ hx184_0)).trans hx184_0
             replace hx184_1 := (HB.out.cell (World.block_lt_of_cell? w _ hx184_1)).trans hx184_1
             replace hx184_2 := (HB.out.cell (World.block_lt_of_cell? w _ hx184_2)).trans hx184_2
             replace hx184_3 := (HB.out.cell (World.block_lt_of_cell? w _ hx184_3)).trans hx184_3
             replace hx184_4 := (HB.out.cell (World.block_lt_of_cell? w _ hx184_4)).trans hx184_4
             replace hx184_5 := (HB.out.cell (World.block_lt_of_cell? w _ hx184_5)).trans hx184_5
             replace hx184_6 := (HB.out.cell (World.block_lt_of_cell? w _ hx184_6)).trans hx184_6
             replace hx184_7 := (HB.out.cell (World.block_lt_of_cell? w _ hx184_7)).trans hx184_7
             have HR184_7 := Aside0.mk hi184_7
             have HC184_7 := Aside0.mk hl184_7
             clear hi184_7 hl184_7
             replace p184 := eq_true p184
             replace q184 := eq_true q184
             have p185 : 0 ≤ (x5_2 : Int) := of_decide_eq_true (by first | (with_reducible assumption) | assumption)
             have q185 : x5_2 < (l1.length : Int) := of_decide_eq_true (by first | (with_reducible assumption) | assumption)
             obtain ⟨ad185, e185, hx185_0⟩ := Kd.at_int HR1.out x5_2 p185 q185
             obtain rfl : ad183 = ad185 := (by injection e185)
             replace hx185_0 := (HB.out.cell (World.block_lt_of_cell? w _ hx185_0)).trans hx185_0
             replace p185 := eq_true p185
             replace q185 := eq_true q185
             go_wp2_with (first | (go_at_call 40; (with_reducible refine (slices_Contains_int_int.calls k2 _ _ ((rd_T69 l0_0 (rd l1 (ji18))).f5) (rd l1 x5_2) true _ ?side1 ?side2 A24.out).mono ?_); (case side1 => repeat (first | exact (Kd.C_below HR184_7.out HB.out) | (with_reducible refine Kd.C_alloc ?_ _) | (with_reducible refine Kd.C_drewN ?_ _) | (with_reducible refine Kd.C_drew ?_))); (case side2 => exact HC184_7.out); rintro e w' ⟨rfl, ⟨nd, rfl⟩⟩; (try first | exact ⟨rfl, _, World.drewN_drewN _ _ _⟩ | exact ⟨rfl, _, Eq.trans (World.drewN_drewN _ _ _) (congrArg (World.drewN _) (Nat.add_assoc _ _ _))⟩)))
             repeat (go_quiet (first | (go_at_call 40; (with_reducible refine (slices_Contains_int_int.calls k2 _ _ ((rd_T69 l0_0 (rd l1 (ji18))).f5) (rd l1 x5_2) true _ ?side1 ?side2 A24.out).mono ?_); (case side1 => repeat (first | exact (Kd.C_below HR184_7.out HB.out) | (with_reducible refine Kd.C_alloc ?_ _) | (with_reducible refine Kd.C_drewN ?_ _) | (with_reducible refine Kd.C_drew ?_))); (case side2 => exact HC184_7.out); rintro e w' ⟨rfl, ⟨nd, rfl⟩⟩; (try first | exact ⟨rfl, _, World.drewN_drewN _ _ _⟩ | exact ⟨rfl, _, Eq.trans (World.drewN_drewN _ _ _) (congrArg (World.drewN _) (Nat.add_assoc _ _ _))⟩))); try go_wp2_with (first | (go_at_call 40; (with_reducible refine (slices_Contains_int_int.calls k2 _ _ ((rd_T69 l0_0 (rd l1 (ji18))).f5) (rd l1 x5_2) true _ ?side1 ?side2 A24.out).mono ?_); (case side1 => repeat (first | exact (Kd.C_below HR184_7.out HB.out) | (with_reducible refine Kd.C_alloc ?_ _) | (with_reducible refine Kd.C_drewN ?_ _) | (with_reducible refine Kd.C_drew ?_))); (case side2 => exact HC184_7.out); rintro e w' ⟨rfl, ⟨nd, rfl⟩⟩; (try first | exact ⟨rfl, _, World.drewN_drewN _ _ _⟩ | exact ⟨rfl, _, Eq.trans (World.drewN_drewN _ _ _) (congrArg (World.drewN _) (Nat.add_assoc _ _ _))⟩))))
             go_roundg k2
             case measure => have := HJ2.out; have := HK2.out; omega
             case rel => exact ⟨(wrap64 (x5_2 + 1)), (by first | rfl | (simp; done) | (simp [*]; done)), H', ⟨by have := HJ2.out; have := HK2.out; omega⟩, ⟨by (with_reducible repeat (first | refine blk_drewN ?_ _ | refine blk_drew ?_ | refine blk_alloc ?_ _)); exact BK179.out⟩, ⟨by repeat (first | (with_reducible first | exact HB.out | apply below_alloc | apply pw_below_drewN | apply below_drew1 | refine below_set ?_ GE179.out) | exact HB.out)⟩⟩
            ·replace c25 := Bool.eq_false_iff.mpr c25
             subst c25
             have H1 : (some false) = some r := by rw [if_neg (show ¬ (false = true) by decide)] at H; exact H
             clear H
             have H := H1
             clear H1
             obtain rfl := Option.some.inj H
             have hcz27_0 : wr.cell? ⟨gb179, 0, none⟩ = some (.slice A0_0 l0_0.length c0_0) := (blk_cell BK179.out 0).trans rfl
             have hfz27_0 := blk_frozen BK179.out 0
             have p183 : 0 ≤ ((ji18) : Int) := of_decide_eq_true (by first | (with_reducible assumption) | assumption)
             have q183 : (ji18) < (l1.length : Int) := of_decide_eq_true (by first | (with_reducible assumption) | assumption)
             obtain ⟨ad183, e183, hx183_0⟩ := Kd.at_int HR1.out (ji18) p183 q183
             cases e183
             replace hx183_0 := (HB.out.cell (World.block_lt_of_cell? w _ hx183_0)).trans hx183_0
             replace p183 := eq_true p183
             replace q183 := eq_true q183
             have p184 : 0 ≤ ((rd l1 (ji18)) : Int) := of_decide_eq_true (by first | (with_reducible assumption) | assumption)
             have q184 : (rd l1 (ji18)) < (l0_0.length : Int) := of_decide_eq_true (by first | (with_reducible assumption) | assumption)
             obtain ⟨ad184, A184_7, c184_7, e184, hx184_0, hx184_1, hx184_2, hx184_3, hx184_4, hx184_5, hx184_6, hx184_7, hl184_7, hi184_7⟩ := at_T69 HR0_0.out (rd l1 (ji18)) p184 q184
             cases e184
             replace hx184_0 := (HB.out.cell (World.block_lt_of_cell? w _ hx184_0)).trans hx184_0
             replace hx184_1 := (HB.out.cell (World.block_lt_of_cell? w _ hx184_1)).trans hx184_1
             replace hx184_2 := (HB.out.cell (World.block_lt_of_cell? w _ hx184_2)).trans hx184_2
             replace hx184_3 := (HB.out.cell (World.block_lt_of_cell? w _ hx184_3)).trans hx184_3
             replace hx184_4 := (HB.out.cell (World.block_lt_of_cell? w _ hx184_4)).trans hx184_4
             replace hx184_5 := (HB.out.cell (World.block_lt_of_cell? w _ hx184_5)).trans hx184_5
             replace hx184_6 := (HB.out.cell (World.block_lt_of_cell? w _ hx184_6)).trans hx184_6
             replace hx184_7 := (HB.out.cell (World.block_lt_of_cell? w _ hx184_7)).trans hx184_7
             have HR184_7 := Aside0.mk hi184_7
             have HC184_7 := Aside0.mk hl184_7
             clear hi184_7 hl184_7
             replace p184 := eq_true p184
             replace q184 := eq_true q184
             have p185 : 0 ≤ (x5_2 : Int) := of_decide_eq_true (by first | (with_reducible assumption) | assumption)
             have q185 : x5_2 < (l1.length : Int) := of_decide_eq_true (by first | (with_reducible assumption) | assumption)
             obtain ⟨ad185, e185, hx185_0⟩ := Kd.at_int HR1.out x5_2 p185 q185
             obtain rfl : ad183 = ad185 := (by injection e185)
             replace hx185_0 := (HB.out.cell (World.block_lt_of_cell? w _ hx185_0)).trans hx185_0
             replace p185 := eq_true p185
             replace q185 := eq_true q185
             go_wp2_with (first | (go_at_call 40; (with_reducible refine (slices_Contains_int_int.calls k2 _ _ ((rd_T69 l0_0 (rd l1 (ji18))).f5) (rd l1 x5_2) false _ ?side1 ?side2 A24.out).mono ?_); (case side1 => repeat (first | exact (Kd.C_below HR184_7.out HB.out) | (with_reducible refine Kd.C_alloc ?_ _) | (with_reducible refine Kd.C_drewN ?_ _) | (with_reducible refine Kd.C_drew ?_))); (case side2 => exact HC184_7.out); rintro e w' ⟨rfl, ⟨nd, rfl⟩⟩; (try first | exact ⟨rfl, _, World.drewN_drewN _ _ _⟩ | exact ⟨rfl, _, Eq.trans (World.drewN_drewN _ _ _) (congrArg (World.drewN _) (Nat.add_assoc _ _ _))⟩)))
             repeat (go_quiet (first | (go_at_call 40; (with_reducible refine (slices_Contains_int_int.calls k2 _ _ ((rd_T69 l0_0 (rd l1 (ji18))).f5) (rd l1 x5_2) false _ ?side1 ?side2 A24.out).mono ?_); (case side1 => repeat (first | exact (Kd.C_below HR184_7.out HB.out) | (with_reducible refine Kd.C_alloc ?_ _) | (with_reducible refine Kd.C_drewN ?_ _) | (with_reducible refine Kd.C_drew ?_))); (case side2 => exact HC184_7.out); rintro e w' ⟨rfl, ⟨nd, rfl⟩⟩; (try first | exact ⟨rfl, _, World.drewN_drewN _ _ _⟩ | exact ⟨rfl, _, Eq.trans (World.drewN_drewN _ _ _) (congrArg (World.drewN _) (Nat.add_assoc _ _ _))⟩))); try go_wp2_with (first | (go_at_call 40; (with_reducible refine (slices_Contains_int_int.calls k2 _ _ ((rd_T69 l0_0 (rd l1 (ji18))).f5) (rd l1 x5_2) false _ ?side1 ?side2 A24.out).mono ?_); (case side1 => repeat (first | exact (Kd.C_below HR184_7.out HB.out) | (with_reducible refine Kd.C_alloc ?_ _) | (with_reducible refine Kd.C_drewN ?_ _) | (with_reducible refine Kd.C_drew ?_))); (case side2 => exact HC184_7.out); rintro e w' ⟨rfl, ⟨nd, rfl⟩⟩; (try first | exact ⟨rfl, _, World.drewN_drewN _ _ _⟩ | exact ⟨rfl, _, Eq.trans (World.drewN_drewN _ _ _) (congrArg (World.drewN _) (Nat.add_assoc _ _ _))⟩))))
             go_ret
             exact ⟨by first | rfl | (simp [errW_none, errW_some] <;> rfl) | (simp only [← hji18]; first | rfl | (simp [errW_none, errW_some] <;> rfl)) | (simp [*, errW_none, errW_some] <;> rfl), by repeat (first | (with_reducible first | exact HB.out | apply below_alloc | apply pw_below_drewN | apply below_drew1 | refine below_set ?_ GE179.out) | exact HB.out)⟩
           ·rw [if_neg c23] at H
            exact absurd H (by simp)
          ·rw [if_neg c22] at H
           exact absurd H (by simp)
         ·rw [if_neg c21] at H
          exact absurd H (by simp)
        ·rw [if_neg c20] at H
         exact absurd H (by simp)
       ·rw [if_neg c19] at H
        exact absurd H (by simp)
      ·rw [if_neg c17] at H
       have c17b0 : decide (x5_2 < (l1.length : Int)) = false := decide_eq_false c17
       clear c17
       obtain ⟨ji28, hji28⟩ : ∃ j_ : Int, (wrap64 ((l1.length : Int) - 1)) = j_ := ⟨_, rfl⟩
       replace H : (if 0 ≤ (ji28) then (if (ji28) < (l1.length : Int) then (if 0 ≤ (rd l1 (ji28)) then (if (rd l1 (ji28)) < (l0_0.length : Int) then (some (((rd_T69 l0_0 (rd l1 (ji28))).f0) == 7)) else (none)) else (none)) else (none)) else (none)) = some r := by first | (rw [hji28] at H; exact H) | (simp only [hji28] at H ⊢; exact H)
       have hji28w : (IntKind.i64.wrap ((l1.length : Int) - 1)) = ji28 := (i64_w _).trans hji28
       by_cases c29 : 0 ≤ (ji28)
       ·rw [if_pos c29] at H
        have c29b0 : decide (0 ≤ (ji28)) = true := decide_eq_true c29
        clear c29
        by_cases c30 : (ji28) < (l1.length : Int)
        ·rw [if_pos c30] at H
         have c30b0 : decide ((ji28) < (l1.length : Int)) = true := decide_eq_true c30
         clear c30
         by_cases c31 : 0 ≤ (rd l1 (ji28))
         ·rw [if_pos c31] at H
          have c31b0 : decide (0 ≤ (rd l1 (ji28))) = true := decide_eq_true c31
          clear c31
          by_cases c32 : (rd l1 (ji28)) < (l0_0.length : Int)
          ·rw [if_pos c32] at H
           have c32b0 : decide ((rd l1 (ji28)) < (l0_0.length : Int)) = true := decide_eq_true c32
           clear c32
           obtain rfl := Option.some.inj H
           have hcz33_0 : wr.cell? ⟨gb179, 0, none⟩ = some (.slice A0_0 l0_0.length c0_0) := (blk_cell BK179.out 0).trans rfl
           have hfz33_0 := blk_frozen BK179.out 0
           have p187 : 0 ≤ ((ji28) : Int) := of_decide_eq_true (by first | (with_reducible assumption) | assumption)
           have q187 : (ji28) < (l1.length : Int) := of_decide_eq_true (by first | (with_reducible assumption) | assumption)
           obtain ⟨ad187, e187, hx187_0⟩ := Kd.at_int HR1.out (ji28) p187 q187
           cases e187
           replace hx187_0 := (HB.out.cell (World.block_lt_of_cell? w _ hx187_0)).trans hx187_0
           replace p187 := eq_true p187
           replace q187 := eq_true q187
           have p188 : 0 ≤ ((rd l1 (ji28)) : Int) := of_decide_eq_true (by first | (with_reducible assumption) | assumption)
           have q188 : (rd l1 (ji28)) < (l0_0.length : Int) := of_decide_eq_true (by first | (with_reducible assumption) | assumption)
           obtain ⟨ad188, A188_7, c188_7, e188, hx188_0, hx188_1, hx188_2, hx188_3, hx188_4, hx188_5, hx188_6, hx188_7, hl188_7, hi188_7⟩ := at_T69 HR0_0.out (rd l1 (ji28)) p188 q188
           cases e188
           replace hx188_0 := (HB.out.cell (World.block_lt_of_cell? w _ hx188_0)).trans hx188_0
           replace hx188_1 := (HB.out.cell (World.block_lt_of_cell? w _ hx188_1)).trans hx188_1
           replace hx188_2 := (HB.out.cell (World.block_lt_of_cell? w _ hx188_2)).trans hx188_2
           replace hx188_3 := (HB.out.cell (World.block_lt_of_cell? w _ hx188_3)).trans hx188_3
           replace hx188_4 := (HB.out.cell (World.block_lt_of_cell? w _ hx188_4)).trans hx188_4
           replace hx188_5 := (HB.out.cell (World.block_lt_of_cell? w _ hx188_5)).trans hx188_5
           replace hx188_6 := (HB.out.cell (World.block_lt_of_cell? w _ hx188_6)).trans hx188_6
           replace hx188_7 := (HB.out.cell (World.block_lt_of_cell? w _ hx188_7)).trans hx188_7
           have HR188_7 := Aside0.mk hi188_7
           have HC188_7 := Aside0.mk hl188_7
           clear hi188_7 hl188_7
           replace p188 := eq_true p188
           replace q188 := eq_true q188
           go_wp2
           repeat (go_quiet (fail); try go_wp2)
           go_ret
           exact ⟨by first | rfl | (simp [errW_none, errW_some] <;> rfl) | (simp only [← hji28]; first | rfl | (simp [errW_none, errW_some] <;> rfl)) | (simp [*, errW_none, errW_some] <;> rfl), by repeat (first | (with_reducible first | exact HB.out | apply below_alloc | apply pw_below_drewN | apply below_drew1 | refine below_set ?_ GE179.out) | exact HB.out)⟩
          ·rw [if_neg c32] at H
           exact absurd H (by simp)
         ·rw [if_neg c31] at H
          exact absurd H (by simp)
        ·rw [if_neg c30] at H
         exact absurd H (by simp)
       ·rw [if_neg c29] at H
        exact absurd H (by simp)
end Go.Proofs.Ytodgfmmoaabhhaa.P
namespace Go.Proofs.Ytodgfmmoaabhhaa.P
open Go.RowKit Go.Proofs.YtodgfmmoaabhhaaW.PrintWords Go.Proofs.YtodgfmmoaabhhaaW.PrintLast Go.Proofs.YtodgfmmoaabhhaaW.PrintMore
abbrev stp (p : List Stp) (a : Int) : Stp := rd_T69 p a
theorem implProgOk_eq (l : List Stp) : impl_ProgOk.f l = some (progOkB l) := rfl
theorem stp_mem {p : List Stp} {a : Int} (h0 : 0 ≤ a) (h1 : a < (p.length : Int)) : stp p a ∈ p := by
 obtain ⟨n, rfl⟩ : ∃ n : Nat, a = n := ⟨a.toNat, by omega⟩
 unfold stp; rw [rdS (by omega)]; exact List.getElem_mem _
theorem next_in {p : List Stp} (hp : progOkB p = true) {a b : Int} (h0 : 0 ≤ a) (h1 : a < (p.length : Int)) (h : b ∈ (stp p a).f5) : 0 ≤ b ∧ b < (p.length : Int) :=
 stepOk_next (progOk_step hp (stp_mem h0 h1)) h
end Go.Proofs.Ytodgfmmoaabhhaa.P
namespace Go.Proofs.Ytodgfmmoaabhhaa.P
open Go.RowKit Go.Proofs.YtodgfmmoaabhhaaW.PrintWords Go.Proofs.YtodgfmmoaabhhaaW.PrintLast Go.Proofs.YtodgfmmoaabhhaaW.PrintMore
def nextN (p : List Stp) (at_ : Int) (l : List Bool) : Nat := if (stp p at_).f0 = 5 ∧ l.head? = some true then 1 else 0
def restC (p : List Stp) (at_ : Int) (l : List Bool) : List Bool := if (stp p at_).f0 = 5 then l.drop 1 else l
theorem next_len {p : List Stp} (hp : progOkB p = true) {a : Int} (h0 : 0 ≤ a) (h1 : a < (p.length : Int)) (h7 : (stp p a).f0 ≠ 7) (l : List Bool) : nextN p a l < (stp p a).f5.length := by
 have h := stepOk_many (progOk_step hp (stp_mem h0 h1))
 unfold nextN
 unfold nextsZ at h
 split
 ·rename_i c; rw [if_pos c.1] at h; omega
 ·by_cases c : (stp p a).f0 = 5
  ·rw [if_pos c] at h; omega
  ·rw [if_neg c, if_neg h7] at h; omega
def pathF (p : List Stp) : Nat → List Int → Int → List Bool → List Int × Bool
 | 0, _, _, _ => ([], false)
 | d + 1, out, a, l => if (stp p a).f0 = 7 then (out ++ [a], true) else pathF p d (out ++ [a]) ((stp p a).f5.getD (nextN p a l) 0) (restC p a l)
theorem pathF_len (p : List Stp) : ∀ (d : Nat) (out : List Int) (a : Int) (l : List Bool), (pathF p d out a l).1.length ≤ out.length + d
 | 0, _, _, _ => by unfold pathF; simp
 | d + 1, out, a, l => by
  unfold pathF
  split
  ·simp
  ·have := pathF_len p d (out ++ [a]) ((stp p a).f5.getD (nextN p a l) 0) (restC p a l)
   rw [List.length_append] at this
   simp only [List.length_cons, List.length_nil] at this
   omega
theorem getD_mem {l : List Int} {i : Nat} (h : i < l.length) : l.getD i 0 ∈ l := by
 rw [List.getD_eq_getElem?_getD, List.getElem?_eq_getElem h]; exact List.getElem_mem h
theorem rd_nat (l : List Int) (i : Nat) : rd l (i : Int) = l.getD i 0 := by unfold rd; rw [Int.toNat_natCast]
theorem implPathOf_loop (p : List Stp) (hp : progOkB p = true) : ∀ (d : Nat) (out : List Int) (a : Int) (l : List Bool), out.length + d = 200 → 0 ≤ a → a < (p.length : Int) →
  Ev (fun k => impl_PathOf.l0 k l out a p) (pathF p d out a l)
 | 0, out, a, l, hd, h0, h1 => by
  refine Ev.step (fun k => by unfold impl_PathOf.l0; rfl) (Ev.neg (by omega) (Ev.now _))
 | d + 1, out, a, l, hd, h0, h1 => by
  refine Ev.step (fun k => by unfold impl_PathOf.l0; rfl) (Ev.pos (by omega) (Ev.pos (by omega) (Ev.put (Ev.pos h0 (Ev.pos h1 (Ev.cases (fun h7 => ?_) (fun h7 => ?_)))))))
  ·refine Ev.eq (Ev.now _) ?_
   unfold pathF
   rw [if_pos h7]
  ·have hn := next_len hp h0 h1 h7 l
   have hb := next_in hp h0 h1 (getD_mem hn)
   have ih := implPathOf_loop p hp d (out ++ [a]) ((stp p a).f5.getD (nextN p a l) 0) (restC p a l) (by rw [List.length_append]; simp only [List.length_cons, List.length_nil]; omega) hb.1 hb.2
   have e : pathF p (d + 1) out a l = pathF p d (out ++ [a]) ((stp p a).f5.getD (nextN p a l) 0) (restC p a l) := by rw [pathF, if_neg h7]
   rw [e]
   refine Ev.cases (fun h5 => ?_) (fun h5 => ?_)
   ·refine Ev.step (fun k => by unfold impl_PathOf.j1; rfl) ?_
    match l, hn, ih with
    | [], hn, ih =>
     have z : nextN p a [] = 0 := by unfold nextN; rw [if_neg (by simp)]
     have y : restC p a [] = [] := by unfold restC; split <;> rfl
     rw [z, y] at ih
     rw [z] at hn
     rw [z, y]
     refine Ev.neg (by simp) (Ev.pos (by omega) (Ev.pos (by unfold stp at hn; omega) ?_))
     rw [show rd (rd_T69 p a).f5 0 = (stp p a).f5.getD 0 0 from rd_nat _ 0]
     exact ih
    | b :: r, hn, ih =>
     have y : restC p a (b :: r) = r := by unfold restC; rw [if_pos h5]; rfl
     rw [y] at ih ⊢
     have n5 := stepOk_many (progOk_step hp (stp_mem h0 h1))
     unfold nextsZ at n5
     rw [if_pos h5] at n5
     refine Ev.pos (by simp) (Ev.pos (by simp only [List.length_cons]; omega) (Ev.cases (fun hb1 => ?_) (fun hb1 => ?_)))
     ·have z : nextN p a (b :: r) = 1 := by
       unfold nextN
       rw [if_pos ⟨h5, by rw [show b = true from hb1]; rfl⟩]
      rw [z] at ih ⊢
      refine Ev.pos (by simp only [List.length_cons]; omega) (Ev.pos (by unfold stp at n5; omega) ?_)
      exact ih
     ·have z : nextN p a (b :: r) = 0 := by
       unfold nextN
       rw [if_neg (by intro c; apply hb1; have := c.2; simp at this; rw [this]; rfl)]
      rw [z] at ih ⊢
      refine Ev.pos (by simp only [List.length_cons]; omega) (Ev.pos (by omega) (Ev.pos (by unfold stp at n5; omega) ?_))
      exact ih
   ·refine Ev.step (fun k => by unfold impl_PathOf.j1; rfl) ?_
    have z : nextN p a l = 0 := by unfold nextN; rw [if_neg (by intro c; exact h5 c.1)]
    have y : restC p a l = l := by unfold restC; rw [if_neg h5]
    rw [z, y] at ih
    rw [z] at hn
    rw [z, y]
    refine Ev.neg (by simp) (Ev.pos (by omega) (Ev.pos (by unfold stp at hn; omega) ?_))
    exact ih
theorem specPathOf_loop (p : List Stp) (hp : progOkB p = true) (l : List Bool) (hl : l.length ≤ 1048576) : ∀ (d : Nat) (out : List Int) (a : Int) (n : Nat), out.length + d + 1 = 200 → n ≤ out.length → 0 ≤ a → a < (p.length : Int) →
  Ev (fun k => spec_PathOf.l0 k l (out ++ [a]) a (n : Int) p) (pathF p (d + 1) out a (l.drop n))
 | d, out, a, n, hd, hno, h0, h1 => by
  have hlen : (out ++ [a]).length = out.length + 1 := by rw [List.length_append]; rfl
  refine Ev.step (fun k => by rw [spec_PathOf.l0]) (Ev.pos h0 (Ev.pos h1 (Ev.cases (fun h7 => ?_) (fun h7 => ?_))))
  ·refine Ev.eq (Ev.now _) ?_
   rw [pathF, if_pos h7]
  ·have e : pathF p (d + 1) out a (l.drop n) = pathF p d (out ++ [a]) ((stp p a).f5.getD (nextN p a (l.drop n)) 0) (restC p a (l.drop n)) := by rw [pathF, if_neg h7]
   rw [e]
   match d, hd with
   | 0, hd =>
    refine Ev.pos (by omega) (Ev.eq (Ev.now _) ?_)
    rw [pathF]
   | d + 1, hd =>
    have hn := next_len hp h0 h1 h7 (l.drop n)
    have hb := next_in hp h0 h1 (getD_mem hn)
    have n5 := stepOk_many (progOk_step hp (stp_mem h0 h1))
    unfold nextsZ at n5
    refine Ev.neg (by omega) (Ev.cases (fun h5 => ?_) (fun h5 => ?_))
    ·have y : restC p a (l.drop n) = l.drop (n + 1) := by unfold restC; rw [if_pos h5, List.drop_drop]
     have ih := specPathOf_loop p hp l hl d (out ++ [a]) ((stp p a).f5.getD (nextN p a (l.drop n)) 0) (n + 1) (by omega) (by omega) hb.1 hb.2
     rw [y]
     rw [if_pos h5] at n5
     rw [wrapN (by omega)]
     refine Ev.cases (fun hn1 => Ev.pos (by omega) (Ev.cases (fun ht => ?_) (fun ht => ?_))) (fun hn1 => ?_)
     ·have hn2 : n < l.length := by omega
      have z : nextN p a (l.drop n) = 1 := by
       unfold nextN
       rw [if_pos ⟨h5, by rw [drop_at hn2, List.head?_cons, ← rdB hn2, ht]⟩]
      rw [z] at ih ⊢
      exact Ev.pos (by unfold stp at n5; omega) (Ev.pos (by omega) ih)
     ·have hn2 : n < l.length := by omega
      have z : nextN p a (l.drop n) = 0 := by
       unfold nextN
       rw [if_neg (by intro c; apply ht; rw [rdB hn2]; have := c.2; rw [drop_at hn2, List.head?_cons] at this; exact Option.some.inj this)]
      rw [z] at ih ⊢
      exact Ev.pos (by unfold stp at n5; omega) (Ev.pos (by omega) ih)
     ·have z : nextN p a (l.drop n) = 0 := by
       unfold nextN
       rw [if_neg (by intro c; rw [List.drop_eq_nil_of_le (by omega)] at c; simp at c)]
      rw [z] at ih ⊢
      exact Ev.pos (by unfold stp at n5; omega) (Ev.pos (by omega) ih)
    ·have y : restC p a (l.drop n) = l.drop n := by unfold restC; rw [if_neg h5]
     have ih := specPathOf_loop p hp l hl d (out ++ [a]) ((stp p a).f5.getD (nextN p a (l.drop n)) 0) n (by omega) (by omega) hb.1 hb.2
     have z : nextN p a (l.drop n) = 0 := by unfold nextN; rw [if_neg (by intro c; exact h5 c.1)]
     rw [z] at hn
     rw [y]
     rw [z] at ih ⊢
     exact Ev.pos (by unfold stp at hn; omega) (Ev.pos (by omega) ih)
def pathOfB (p : List Stp) (l : List Bool) : List Int × Bool := if progOkB p = true then pathF p 200 [] 0 l else ([], false)
theorem pathOfB_len (p : List Stp) (l : List Bool) : (pathOfB p l).1.length ≤ 200 := by
 unfold pathOfB
 split
 ·have := pathF_len p 200 [] 0 l; simpa using this
 ·simp
theorem implPathOf_ev (p : List Stp) (l : List Bool) : Ev (fun k => impl_PathOf.f k p l) (pathOfB p l) := by
 unfold impl_PathOf.f pathOfB
 refine Ev.bind (Ev.const (implProgOk_eq p)) (Ev.cases (fun h => ?_) (fun h => ?_))
 ·have := progOk_len h
  rw [if_pos h]
  exact implPathOf_loop p h 200 [] 0 l rfl (Int.le_refl 0) (by omega)
 ·rw [if_neg h]; exact Ev.now _
theorem specPathOf_ev (p : List Stp) (l : List Bool) (hl : l.length ≤ 1048576) : Ev (fun k => spec_PathOf.f k p l) (pathOfB p l) := by
 unfold spec_PathOf.f pathOfB
 refine Ev.bind (specProgOk_ev p) (Ev.cases (fun h => ?_) (fun h => ?_))
 ·have := progOk_len h
  rw [if_pos h]
  exact specPathOf_loop p h l hl 199 [] 0 0 rfl (Nat.le_refl 0) (Int.le_refl 0) (by omega)
 ·rw [if_neg h]; exact Ev.now _
end Go.Proofs.Ytodgfmmoaabhhaa.P
namespace Go.Proofs.Ytodgfmmoaabhhaa.P
open Go.RowKit Go.Proofs.YtodgfmmoaabhhaaW.PrintWords Go.Proofs.YtodgfmmoaabhhaaW.PrintLast Go.Proofs.YtodgfmmoaabhhaaW.PrintMore
theorem exactPathOf_runs (A0 : Option Addr) (c0 : Nat) (l0 : List LStp) (A1 : Option Addr) (c1 : Nat) (l1 : List Bool) (w : World) (hr : Kd.C k82 w A0 l0.length l0) (hc : l0.length ≤ c0) (hr1 : Kd.C Kd.bool w A1 l1.length l1) (hc1 : l1.length ≤ c1) :
  Calls Try.prog 5 #[.agg #[.slice A0 l0.length c0], .slice A1 l1.length c1] w fun e w' => e = .returned (.bool true) ∧ Below w.heap.size w w' := by
 by_cases hl : l1.length ≤ 1048576
 ·obtain ⟨K0, e0⟩ := szProg_ev l0 (C_len hr) (lprog_few hr) 1048576 (by omega) (by omega)
  by_cases hz : (if (1048576 : Int) < (l0.length + szSum l0 : Int) then (-1 : Int) else 1048576 - (l0.length + szSum l0)) < 0
  ·exact xPathOf_many A0 A1 c0 c1 l0 l1 w hr hc hl K0 _ (e0 K0 (Nat.le_refl _)) hz
  ·obtain ⟨h2, h3⟩ := small_of hz
   have hpl : (l0.map toS).length ≤ 1048576 := by rw [List.length_map]; omega
   have hpf : ∀ s, s ∈ l0.map toS → s.f5.length ≤ 1048576 := fun s hs => by
    obtain ⟨x, hx, rfl⟩ := List.mem_map.1 hs
    exact h3 x hx
   have hq := pathOfB_len (l0.map toS) l1
   have hk : 0 ≤ markE (l0.map toS) 1 := Int.le_trans (by decide) (markE_le _ _)
   have hk2 : markE (l0.map toS) 1 ≤ 2251799813685248 := by
    have := markE_bound (l0.map toS) 1 1048576 hpf
    have h3 : ((l0.map toS).length : Int) * (7 + (1048576 : Nat)) ≤ 1048576 * (7 + (1048576 : Nat)) := Int.mul_le_mul_of_nonneg_right (by omega) (by omega)
    omega
   obtain ⟨K1, e1⟩ := toProg_ev l0 h2 h3
   obtain ⟨K2, e2⟩ := toBoolS_ev l1 (by omega)
   obtain ⟨K3, e3⟩ := specPathOf_ev (l0.map toS) l1 hl
   obtain ⟨K4, e4⟩ := implPathOf_ev (l0.map toS) l1
   obtain ⟨K5, e5⟩ := eqIntS_refl (pathOfB (l0.map toS) l1).1 (by omega)
   obtain ⟨K6, e6⟩ := eqBoolS_refl l1 (by omega)
   obtain ⟨K7, e7⟩ := eqProg_refl (l0.map toS) (by omega) (fun s hs => by have := hpf s hs; omega)
   obtain ⟨K8, e8⟩ := markBools_ev l1 (markE (l0.map toS) 1) hk (by omega)
   obtain ⟨K9, e9⟩ := markInts_ev (pathOfB (l0.map toS) l1).1 1 (by omega) (by omega)
   obtain ⟨K10, e10⟩ := heldInts_ev (pathOfB (l0.map toS) l1).1.length 1 (by omega) (by omega)
   generalize hK : K0 + K1 + K2 + K3 + K4 + K5 + K6 + K7 + K8 + K9 + K10 = K
   exact xPathOf_calls A0 A1 c0 c1 l0 l1 w hr hc hr1 hc1 hl K _ (e0 K (by omega)) (Int.not_lt.1 hz) _ (e1 K (by omega)) (e2 K (by omega)) _ _ (e3 K (by omega)) (e4 K (by omega)) (e5 K (by omega)) (e6 K (by omega)) (e7 K (by omega)) hpl hpf
    _ _ (e8 K (by omega)) (by omega) _ _ (e9 K (by omega)) (iotaI_len _ _).symm (e10 K (by omega)) (by omega)
 ·exact xPathOf_long A0 A1 c0 c1 l0 l1 w (by omega)
end Go.Proofs.Ytodgfmmoaabhhaa.P
namespace Go.Proofs.Ytodgfmmoaabhhaa.P
set_option linter.unusedSimpArgs false
set_option maxRecDepth 100000
open Go.RowKit Go.Proofs.YtodgfmmoaabhhaaW.PrintWords Go.Proofs.YtodgfmmoaabhhaaW.PrintLast Go.Proofs.YtodgfmmoaabhhaaW.PrintMore
def Opens (P : Program) (t : TypeId) {α : Type} (d : Kd α) : Prop :=
 ∀ (H : Type) (enc : TypeId × Value → H) (W : World) (base fuel : Nat) (cs : List Value) (x : DataW H × List MemPlace), DataW.trod enc P W base (fun _ => true) true fuel t cs = some x → ∃ v, d.K W v cs
theorem opens_int {P : Program} {t : TypeId} {k : IntKind} (ht : P.underlying t = some (.int k)) : Opens P t (Kd.int k) := fun H enc W base fuel cs x h => by
 obtain ⟨n, rfl, _, _⟩ := DataW.trod_int ht h
 exact ⟨n, rfl⟩
theorem opens_bool {P : Program} {t : TypeId} (ht : P.underlying t = some .bool) : Opens P t Kd.bool := fun H enc W base fuel cs x h => by
 obtain ⟨n, rfl, _⟩ := DataW.trod_bool ht h
 exact ⟨n, rfl⟩
theorem cells_at {w : World} {base n : Nat} {a : Addr} {cs : List Value} (h : w.cells? base a n = some cs) : cs.length = n ∧ ∀ i u, cs[i]? = some u → w.cell? (a.add i) = some u := by
 unfold World.cells? at h
 by_cases hb : base ≤ a.block
 ·rw [if_pos hb] at h
  have hl := mapM_some_length h
  rw [List.length_range] at hl
  refine ⟨hl, fun i u hu => ?_⟩
  have hi : i < n := by rw [← hl]; exact (List.getElem?_eq_some_iff.1 hu).1
  have := mapM_some_get h i i (by rw [List.getElem?_range hi])
  rw [this, hu]
 ·rw [if_neg hb] at h; cases h
theorem opens_slice {P : Program} {t e : TypeId} {α : Type} {d : Kd α} (ht : P.underlying t = some (.slice e)) (hc : P.cellsOf e = d.sz) (he : Opens P e d) : Opens P t (Kd.slice e d) := fun H enc W base fuel cs x h => by
 rcases Go.Deep.open_slice ht h with ⟨rfl, _⟩ | ⟨a, len, cap, m, n, D, Pl, rfl, hb, hl, hm, hmm, rfl, hx⟩
 ·exact ⟨[], none, 0, rfl, Nat.le_refl _, rfl, by simp, fun h => absurd h (by simp)⟩
 ·simp only [if_true] at hmm
  subst hmm
  have each : ∀ i, i < len → ∃ y : α × List Value, d.K W y.1 y.2 ∧ W.cells? base (a.add (i * P.cellsOf e)) (P.cellsOf e) = some y.2 := fun i hi => by
   obtain ⟨cs', h1, h2⟩ := hx i (by omega)
   obtain ⟨v, hv⟩ := he H enc W base n cs' _ h2
   exact ⟨(v, cs'), hv, h1⟩
  have : Nonempty (α × List Value) ∨ len = 0 := by
   by_cases h0 : len = 0
   ·exact .inr h0
   ·obtain ⟨y, _⟩ := each 0 (by omega); exact .inl ⟨y⟩
  rcases this with inh | rfl
  ·have := Classical.inhabited_of_nonempty inh
   obtain ⟨y, hy⟩ := Go.Deep.choose_lt each
   refine ⟨(List.range len).map fun i => (y i).1, some a, m, by simp, by simp; exact hl, by simp, by simp; unfold maxLen at hm; omega, fun _ => ⟨a, rfl, fun j p hp => ?_⟩⟩
   rw [List.getElem?_map] at hp
   have hj : j < len := by
    rcases Nat.lt_or_ge j len with h | h
    ·exact h
    ·rw [List.getElem?_eq_none (by simpa using h)] at hp; cases hp
   rw [List.getElem?_range hj] at hp
   obtain rfl := Option.some.inj hp
   obtain ⟨h1, h2⟩ := hy j hj
   obtain ⟨h3, h4⟩ := cells_at h2
   rw [hc] at h3 h4
   refine ⟨(y j).2, h3, h1, fun i u hu => ?_⟩
   rw [← Addr.add_add]
   exact h4 i u hu
  ·exact ⟨[], some a, m, rfl, Nat.zero_le _, rfl, by simp, fun h => absurd h (by simp)⟩
theorem opens_lopnd : Opens Try.prog 37 k37 := fun H enc W base fuel cs x h => by
 obtain ⟨y0, y1, n, _, hl, h0, h1⟩ := Go.ChangeShapes.trod_struct2 Try.underlying37 h
 have hc : Try.prog.cellsOf 37 = 2 := by kernel_rfl
 have hi : Try.prog.cellsOf 3 = 1 := by kernel_rfl
 rw [hc] at hl
 match cs, hl with
 | [a, b], _ =>
  simp only [hi, List.drop, List.take] at h0 h1
  obtain ⟨v0, e0, _⟩ := DataW.trod_int Try.underlying3 h0
  obtain ⟨v1, e1, _⟩ := DataW.trod_int Try.underlying3 h1
  injection e0 with e0 _
  injection e1 with e1 _
  subst e0 e1
  exact ⟨⟨v0, v1⟩, k37_mk W ⟨v0, v1⟩⟩
theorem opens_ints : Opens Try.prog 25 (Kd.slice 3 (Kd.int .i64)) := opens_slice Try.underlying25 (by kernel_rfl) (opens_int Try.underlying3)
theorem opens_bools : Opens Try.prog 40 (Kd.slice 4 Kd.bool) := opens_slice Try.underlying40 (by kernel_rfl) (opens_bool Try.underlying4)
theorem opens_lstep : Opens Try.prog 82 k82 := fun H enc W base fuel cs x h => by
 obtain ⟨xs, n, _, _, hl, hlen, hf⟩ := DataW.trod_struct Try.underlying82 h
 have hc : Try.prog.cellsOf 82 = 8 := by kernel_rfl
 have hi : Try.prog.cellsOf 3 = 1 := by kernel_rfl
 have ho : Try.prog.cellsOf 37 = 2 := by kernel_rfl
 have hs : Try.prog.cellsOf 25 = 1 := by kernel_rfl
 rw [hc] at hl
 match xs, hlen with
 | [y0, y1, y2, y3, y4, y5], _ =>
  match cs, hl with
  | [c0, c1, c2, c3, c4, c5, c6, c7], _ =>
   have g0 := hf 0 _ rfl
   have g1 := hf 1 _ rfl
   have g2 := hf 2 _ rfl
   have g3 := hf 3 _ rfl
   have g4 := hf 4 _ rfl
   have g5 := hf 5 _ rfl
   simp only [hi, List.drop, List.take, List.getElem?_cons_zero, List.getElem?_cons_succ] at g0
   simp only [hi, List.drop, List.take, List.getElem?_cons_zero, List.getElem?_cons_succ] at g1
   simp only [hi, List.drop, List.take, List.getElem?_cons_zero, List.getElem?_cons_succ] at g2
   simp only [ho, List.drop, List.take, List.getElem?_cons_zero, List.getElem?_cons_succ] at g3
   simp only [ho, List.drop, List.take, List.getElem?_cons_zero, List.getElem?_cons_succ] at g4
   simp only [hs, List.drop, List.take, List.getElem?_cons_zero, List.getElem?_cons_succ] at g5
   obtain ⟨v0, e0, _⟩ := DataW.trod_int Try.underlying3 g0
   obtain ⟨v1, e1, _⟩ := DataW.trod_int Try.underlying3 g1
   obtain ⟨v2, e2, _⟩ := DataW.trod_int Try.underlying3 g2
   obtain ⟨v3, e3⟩ := opens_lopnd H enc W base n _ _ g3
   obtain ⟨v4, e4⟩ := opens_lopnd H enc W base n _ _ g4
   obtain ⟨v5, A, c, e5, hcap, hC⟩ := opens_ints H enc W base n _ _ g5
   have q3 := k37_open e3
   have q4 := k37_open e4
   injection e0 with e0 _
   injection e1 with e1 _
   injection e2 with e2 _
   injection q3 with q3 r3
   injection r3 with r3 _
   injection q4 with q4 r4
   injection r4 with r4 _
   injection e5 with e5 _
   subst e0 e1 e2 q3 r3 q4 r4 e5
   exact ⟨⟨v0, v1, v2, v3, v4, v5⟩, k82_mk W ⟨v0, v1, v2, v3, v4, v5⟩ hcap hC⟩
theorem opens_lsteps : Opens Try.prog 22 (Kd.slice 82 k82) := opens_slice Try.underlying22 (by kernel_rfl) opens_lstep
theorem opens_one {P : Program} {t : TypeId} {f : Field} {α : Type} {d : Kd α} (ht : P.underlying t = some (.struct #[f])) (ho : f.offset = 0) (hc : P.cellsOf t = 1) (hf : P.cellsOf f.type = 1) (he : Opens P f.type d) : Opens P t d := fun H enc W base fuel cs x h => by
 obtain ⟨y0, n, _, hl, h0⟩ := Go.ChangeShapes.trod_struct1 ht h
 rw [hc] at hl
 rw [ho, hf, List.drop_zero, List.take_of_length_le (by omega)] at h0
 exact he H enc W base n cs _ h0
theorem opens_lprog : Opens Try.prog 24 (Kd.slice 82 k82) := opens_one Try.underlying24 rfl (by kernel_rfl) (by kernel_rfl) opens_lsteps
section
variable {H : Type} {enc : TypeId × Value → H} {W : World} {v : Value} {x : DataW H} {p : List MemPlace} {r : Reach} {base : Nat}
theorem open_slice_arg {P : Program} {t e : TypeId} {α : Type} {d : Kd α} (ht : P.underlying t = some (.slice e)) (ho : Opens P t (Kd.slice e d)) (hv : Value.okWide P W r base t v) (h : DataW.Trod enc P W 0 (fun _ => true) true t v x p) :
  ∃ (A : Option Addr) (c : Nat) (l : List α), v = .slice A l.length c ∧ l.length ≤ c ∧ d.C W A l.length l := by
 obtain ⟨a, len, cap, rfl⟩ := Go.WideShapes.okWide_slice ht hv
 obtain ⟨fuel, h⟩ := h
 obtain ⟨l, A, c, e, hc, hC⟩ := ho H enc W 0 fuel _ _ h
 simp only [Value.cells] at e
 injection e with e _
 exact ⟨A, c, l, e, hc, hC⟩
theorem open_one_arg {P : Program} {t e : TypeId} {fs : Array Field} {α : Type} {d : Kd α} (ht : P.underlying t = some (.struct fs)) (ho : Opens P t (Kd.slice e d)) (hv : Value.okWide P W r base t v) (h : DataW.Trod enc P W 0 (fun _ => true) true t v x p) :
  ∃ (A : Option Addr) (c : Nat) (l : List α), v = .agg #[.slice A l.length c] ∧ l.length ≤ c ∧ d.C W A l.length l := by
 obtain ⟨cs, rfl, _⟩ := Go.WideShapes.okWide_struct ht hv
 obtain ⟨fuel, h⟩ := h
 obtain ⟨l, A, c, e, hc, hC⟩ := ho H enc W 0 fuel _ _ h
 simp only [Value.cells] at e
 exact ⟨A, c, l, by rw [← Array.toArray_toList (xs := cs), e], hc, hC⟩
end
end Go.Proofs.Ytodgfmmoaabhhaa.P
namespace Go.Proofs.Ytodgfmmoaabhhaa.fnExactPathOf
open Go.ChangeShapes Go.WideShapes Go.ChangeAt Go.RowKit Go.Proofs.Ytodgfmmoaabhhaa.P Go.Proofs.YtodgfmmoaabhhaaW.PrintWords
set_option linter.unusedVariables false
theorem own : ownKnob Try.prog.godebug = none := by kernel_rfl
theorem laidOut : laidOutB Try.prog = true := by kernel_rfl
theorem walk (W : World) (A0 : Option Addr) (c0 : Nat) (l0 : List LStp) (A1 : Option Addr) (c1 : Nat) (l1 : List Bool) (hc0 : l0.length ≤ c0) (hr0 : Kd.C k82 W A0 l0.length l0) (hc1 : l1.length ≤ c1) (hr1 : Kd.C Kd.bool W A1 l1.length l1) :
  Calls Try.prog 5 #[.agg #[.slice A0 l0.length c0], .slice A1 l1.length c1] W fun e w' => e = .returned (.bool true) ∧ Below W.heap.size W w' := by
 exact exactPathOf_runs A0 c0 l0 A1 c1 l1 W hr0 hc0 hr1 hc1
set_option maxRecDepth 100000 in
theorem lifted (os : Os) (started : os.Started) (H : Type) (enc : TypeId × Value → H) :
  ReturnsInHanded {} Try.checked os 5 .any (Rows.fnExactPathOfSpec.pre6 enc Try.prog Try.f5 Rows.fnExactPathOfRow.domain false) (Rows.fnExactPathOfSpec.post enc Try.prog Try.f5 false true false false) := by
 refine returnsInHanded_of_change_sized (C := Try.checked) own started (by kernel_rfl) Try.func5
  (ChangeSpec.witness6 (enc := enc) (C := Try.checked) false ⟨#[], #[.agg #[.slice none 0 0], .slice none 0 0], []⟩ 8 (by kernel_rfl) (by kernel_rfl) (by kernel_rfl) (by kernel_rfl)) ?_
 intro W base args ds gs before hval0 hW hcnd hsz0 _
 have hval : ∀ (j : Nat) t v, Try.f5.params[j]? = some t → args[j]? = some v → Value.okWide Try.prog W .any base t v := hval0
 have hW' := hW
 obtain ⟨p, q, hA0, hV, rfl, hfz, hnd⟩ := hW
 have hA : DataW.TrodAll enc Try.prog W 0 (fun _ => true) true Try.f5.params.toList args.toList ds p := hA0
 rw [Try.params5] at hA hval
 obtain ⟨v0, vs0, d0, ds0, p0, q0, hargs, rfl, rfl, h0, r0⟩ := trodAll_cons hA
 obtain ⟨v1, vs1, d1, ds1, p1, q1, rfl, rfl, rfl, h1, r1⟩ := trodAll_cons r0
 obtain ⟨rfl, rfl, rfl⟩ := trodAll_nil r1
 obtain rfl : args = #[v0, v1] := by cases args; simp_all
 obtain ⟨rfl, rfl⟩ := trodVars_none hV
 have lt0 : ∀ x ∈ p0, x.block < W.heap.size := by obtain ⟨m, hm⟩ := h0; exact DataW.trod_lt m _ _ _ hm
 have k0 := h0
 obtain ⟨A0, c0, l0, rfl, hc0, hr0⟩ := open_one_arg Try.underlying24 opens_lprog (hval 0 24 v0 rfl rfl) h0
 have lt1 : ∀ x ∈ p1, x.block < W.heap.size := by obtain ⟨m, hm⟩ := h1; exact DataW.trod_lt m _ _ _ hm
 have k1 := h1
 obtain ⟨A1, c1, l1, rfl, hc1, hr1⟩ := open_slice_arg Try.underlying40 opens_bools (hval 1 40 v1 rfl rfl) h1
 clear hA0 hval0 hsz0
 refine (walk W A0 c0 l0 A1 c1 l1 hc0 hr0 hc1 hr1).mono fun e W' ⟨he, bel⟩ => ?_
 subst he
 exact ⟨_, rfl, _, _, _, [], _, [], hW', trodAll_mk1 (shut_bool Try.underlying4 _), (trodAll_cons_mk (Below.trod laidOut (by kernel_rfl) (of_decide_eq_true (by kernel_rfl)) k0 bel lt0) (trodAll_cons_mk (Below.trod laidOut (by kernel_rfl) (of_decide_eq_true (by kernel_rfl)) k1 bel lt1) trodAll_mk0)), rfl, bel.frame _, fun h => by cases h⟩
theorem over : Rows.fnExactPathOfRow.holds Try.pinned (OpenSpec.ofChange Rows.fnExactPathOfSpec) :=
 OpenClaim.holds_of_wide 5 Try.f5 rfl rfl rfl rfl rfl rfl rfl ⟨rfl, rfl, rfl, rfl, rfl⟩ rfl rfl rfl rfl rfl (by kernel_rfl) Try.func5 (by kernel_rfl)
  (of_decide_eq_true (by kernel_rfl)) (by unfold Func.isWrapper; first | (rw [if_pos (by decide +kernel)]; kernel_rfl) | (rw [if_neg (by decide +kernel)]; exact ⟨rfl, rfl⟩))
  (fun os started H enc _ => lifted os started H enc)
end Go.Proofs.Ytodgfmmoaabhhaa.fnExactPathOf
namespace Go.Proofs.Ytodgfmmoaabhhaa
theorem fnExactPathOf_holds : Rows.FnExactPathOfSaid := fnExactPathOf.over
end Go.Proofs.Ytodgfmmoaabhhaa
