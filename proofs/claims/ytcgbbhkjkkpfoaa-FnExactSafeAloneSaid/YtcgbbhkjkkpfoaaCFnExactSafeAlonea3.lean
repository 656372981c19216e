/- FnExactSafeAlone: for every argument the law returns true, and each argument reads behind the call as it read before; no condition. Part 4 of 6: written together by a program out of the session's texts and what the print wrote. -/
import Derived.Deep.RegionHeld3
import Derived.Test.YtcgbbhkjkkpfoaaCFnExactSafeAlonea2
namespace Go.Proofs.Ytcgbbhkjkkpfoaa.P
open Go.RowKit Go.Proofs.YtcgbbhkjkkpfoaaW.PrintWords Go.Proofs.YtcgbbhkjkkpfoaaW.PrintLast Go.Proofs.YtcgbbhkjkkpfoaaW.PrintMore Lcm Lcm.G
set_option linter.unusedVariables false
set_option linter.unusedSimpArgs false
section
variable {g : G} {p : List Stp} {w : World} {b : Nat} {A0 A1 A2 A3 A4 : Option Addr} {c0 c1 c2 c3 c4 : Nat}
theorem pred_all (hf : Fit g p) (i : Nat) (Q : Nat → Prop) : (∀ u, u ∈ preds g p.length i → Q u) ↔ ∀ u, g.Pred u i → Q u :=
 ⟨fun h u hu => h u (mem_preds.2 ⟨hf.reach u hu.1, hu⟩), fun h u hu => h u (mem_preds.1 hu).2⟩
set_option maxHeartbeats 4000000 in
set_option maxRecDepth 100000 in
theorem h_down1 (hf : Fit g p) (hs : Std g p w b A0 A1 A2 A3 A4 c0 c1 c2 c3 c4) {hx : Nat} (bx : w.heap[hx]? = some (.cells #[.pointer (some ⟨b, 0, none⟩)] 68 (0, 0))) (i : Nat) (hi : i < p.length) (An : Option Addr) (cn : Nat) (ln : List Bool) (hn : ln.length = p.length) (kn : Kd.C Kd.bool w An p.length ln) :
  Calls Try.prog 96 #[.int .i64 (i : Int), .slice An p.length cn, .pointer (some ⟨hx, 0, none⟩)] w fun e w' => e = .returned (.bool (yes (g.DownF (on ln) i))) ∧ Below w.heap.size w w' := by
 obtain ⟨acomp, rcomp, rfl, zcomp, qcomp⟩ := at_bl hs.comp i hi
 obtain ⟨akeeps, rkeeps, rfl, zkeeps, qkeeps⟩ := at_bl hs.keeps i hi
 obtain ⟨aL, AL, cL, rfl, zL, kL⟩ := at_next hf hs.steps i hi
 have HA : Aside0 (∀ h w1, Below w.heap.size w w1 → w1.heap[h]? = some (.cells #[.slice An p.length cn] 29 (0, 0)) → Calls Try.prog 97 #[.slice AL (g.next i).length cL, .func (.func 98) #[] #[.pointer (some ⟨h, 0, none⟩)]] w1 fun e w' => e = .returned (.bool (yes (∀ k, k ∈ (g.next i) → on ln k))) ∧ Below w1.heap.size w1 w') :=
  ⟨fun h w1 hb hh => all_calls _ _ AL cL _ w1 (Kd.C_below kL hb) (Nat.le_trans (hf.two i hi) (by decide)) fun w2 hb2 k hk => ⟨_, _, _, rfl, Try.func98, by kernel_rfl, rfl, h_down11 hf ((hs.below hb).below hb2) (blk_below hh hb2) (Kd.C_below (Kd.C_below kn hb) hb2) k (hf.lt i hi k hk)⟩⟩
 have qA := yes_iff (P := ∀ k, k ∈ (g.next i) → on ln k)
 generalize yes (∀ k, k ∈ (g.next i) → on ln k) = rA at HA qA
 have hF : g.DownF (on ln) i ↔ g.comp i ∨ g.keeps i ∧ 0 < (g.next i).length ∧ ∀ k, k ∈ g.next i → on ln k := by unfold G.DownF; rw [List.length_pos_iff]
 obtain ⟨rp, e1, e2, qp⟩ : ∃ rp : Bool, decide (0 < (g.next i).length) = rp ∧ decide ((0 : Int) < ((g.next i).length : Int)) = rp ∧ (rp = true ↔ 0 < (g.next i).length) := ⟨_, rfl, by simp, by simp⟩
 try rw [yes_eq (r := rcomp || (rkeeps && (rp && rA))) (by rw [hF]; simp [← qcomp, ← qkeeps, ← qA, ← qp])]
 have hmf : ∀ (fn : Fn) (first cap : Array Value) (w : World), (Instr.makeFunc fn first cap).run Try.prog w = .ok (.func fn first cap) w := fun _ _ _ _ => rfl
 have hu := Try.underlying74
 have hu2 := Try.underlying38
 have hu3 := Try.underlying77
 have HS := Aside0.mk hs.blk
 have Bx := Aside0.mk bx
 have HB := Aside0.mk (Fr.new w)
 clear hs hf hF kL kn qA bx qcomp qkeeps qp
 cases rcomp <;> cases rkeeps <;> cases rp <;> (go_enter Try.func96, Try.ntmps96; go_wp2_with (first | ((with_reducible refine gate_dst (N := 4) rfl ?_); refine fr_box HB (N := 4) rfl rfl (cs := #[.slice An p.length cn]) (t := 29) ?hr ?_; (case hr => first | (go_simp; done) | (go_simp; rfl)); intro h w1 _ HB; have zcomp := pw_cell_below HB.out.below zcomp; have zkeeps := pw_cell_below HB.out.below zkeeps; have zL := pw_cell_below HB.out.below zL; have zb := blk_cell (blk_below HS.out HB.out.below); have yx := blk_cell (blk_below Bx.out HB.out.below)) | ((with_reducible refine gate_callee (f := 97) rfl ?_); (try (refine gate_guard (by rfl) ?_; dsimp only)); refine goesL_ (some 39) rfl rfl Try.func97 (by kernel_rfl) rfl #[.slice AL (g.next i).length cL, .func (.func 98) #[] #[.pointer (some ⟨h, 0, none⟩)]] rfl (by simp only [List.map_toArray, List.map_cons, List.map_nil]; rfl) ?_; refine (HA.out h _ HB.out.below (HB.out.blk 0 rfl)).mono ?_; rintro e w2 ⟨rfl, hb⟩; refine ⟨_, rfl, ?_⟩; have HB2 := Aside0.mk (HB.out.step hb); clear hb)); go_ret; first | exact ⟨rfl, HB2.out.below⟩ | exact ⟨rfl, HB.out.below⟩)
set_option maxHeartbeats 4000000 in
set_option maxRecDepth 100000 in
theorem h_up1 (hf : Fit g p) (hs : Std g p w b A0 A1 A2 A3 A4 c0 c1 c2 c3 c4) {hx : Nat} (bx : w.heap[hx]? = some (.cells #[.pointer (some ⟨b, 0, none⟩)] 68 (0, 0))) (i : Nat) (hi : i < p.length) (An : Option Addr) (cn : Nat) (ln : List Bool) (hn : ln.length = p.length) (kn : Kd.C Kd.bool w An p.length ln) :
  Calls Try.prog 99 #[.int .i64 (i : Int), .slice An p.length cn, .pointer (some ⟨hx, 0, none⟩)] w fun e w' => e = .returned (.bool (yes (g.UpF (on ln) i))) ∧ Below w.heap.size w w' := by
 obtain ⟨aL, AL, cL, rfl, zL, kL⟩ := at_pred hs.preds i hi
 have HA : Aside0 (∀ h w1, Below w.heap.size w w1 → w1.heap[h]? = some (.cells #[.slice An p.length cn] 29 (0, 0)) → Calls Try.prog 97 #[.slice AL (preds g p.length i).length cL, .func (.func 100) #[] #[.pointer (some ⟨hx, 0, none⟩), .pointer (some ⟨h, 0, none⟩)]] w1 fun e w' => e = .returned (.bool (yes (∀ k, k ∈ (preds g p.length i) → g.keeps k ∧ (g.comp k ∨ on ln k)))) ∧ Below w1.heap.size w1 w') :=
  ⟨fun h w1 hb hh => all_calls _ _ AL cL _ w1 (Kd.C_below kL hb) (Nat.le_trans (preds_len g p.length i) (Nat.le_trans hf.few (by decide))) fun w2 hb2 k hk => ⟨_, _, _, rfl, Try.func100, by kernel_rfl, rfl, h_up11 hf ((hs.below hb).below hb2) (blk_below (blk_below bx hb) hb2) (blk_below hh hb2) (Kd.C_below (Kd.C_below kn hb) hb2) k ((mem_preds.1 hk).1)⟩⟩
 have qA := yes_iff (P := ∀ k, k ∈ (preds g p.length i) → g.keeps k ∧ (g.comp k ∨ on ln k))
 generalize yes (∀ k, k ∈ (preds g p.length i) → g.keeps k ∧ (g.comp k ∨ on ln k)) = rA at HA qA
 have hF : g.UpF (on ln) i ↔ 0 < i ∧ ∀ u, u ∈ preds g p.length i → g.keeps u ∧ (g.comp u ∨ on ln u) := by rw [pred_all hf]; rfl
 obtain ⟨rp, e1, e2, qp⟩ : ∃ rp : Bool, decide (0 < i) = rp ∧ decide ((0 : Int) < (i : Int)) = rp ∧ (rp = true ↔ 0 < i) := ⟨_, rfl, by simp, by simp⟩
 try rw [yes_eq (r := rp && rA) (by rw [hF]; simp [← qA, ← qp])]
 have hmf : ∀ (fn : Fn) (first cap : Array Value) (w : World), (Instr.makeFunc fn first cap).run Try.prog w = .ok (.func fn first cap) w := fun _ _ _ _ => rfl
 have hu := Try.underlying74
 have hu2 := Try.underlying38
 have hu3 := Try.underlying77
 have HS := Aside0.mk hs.blk
 have Bx := Aside0.mk bx
 have HB := Aside0.mk (Fr.new w)
 clear hs hf hF kL kn qA bx  qp
 cases rp <;> (go_enter Try.func99, Try.ntmps99; go_wp2_with (first | ((with_reducible refine gate_dst (N := 4) rfl ?_); refine fr_box HB (N := 4) rfl rfl (cs := #[.slice An p.length cn]) (t := 29) ?hr ?_; (case hr => first | (go_simp; done) | (go_simp; rfl)); intro h w1 _ HB; have zL := pw_cell_below HB.out.below zL; have zb := blk_cell (blk_below HS.out HB.out.below); have yx := blk_cell (blk_below Bx.out HB.out.below)) | ((with_reducible refine gate_callee (f := 97) rfl ?_); (try (refine gate_guard (by rfl) ?_; dsimp only)); refine goesL_ (some 17) rfl rfl Try.func97 (by kernel_rfl) rfl #[.slice AL (preds g p.length i).length cL, .func (.func 100) #[] #[.pointer (some ⟨hx, 0, none⟩), .pointer (some ⟨h, 0, none⟩)]] rfl (by simp only [List.map_toArray, List.map_cons, List.map_nil]; rfl) ?_; refine (HA.out h _ HB.out.below (HB.out.blk 0 rfl)).mono ?_; rintro e w2 ⟨rfl, hb⟩; refine ⟨_, rfl, ?_⟩; have HB2 := Aside0.mk (HB.out.step hb); clear hb)); go_ret; first | exact ⟨rfl, HB2.out.below⟩ | exact ⟨rfl, HB.out.below⟩)
set_option maxHeartbeats 4000000 in
set_option maxRecDepth 100000 in
theorem h_delay1 (hf : Fit g p) (hs : Std g p w b A0 A1 A2 A3 A4 c0 c1 c2 c3 c4) {he : Nat} {Ae : Option Addr} {ce : Nat} {le : List Bool} (be : w.heap[he]? = some (.cells #[.slice Ae p.length ce] 29 (0, 0))) (ke : Kd.C Kd.bool w Ae p.length le) {hx : Nat} (bx : w.heap[hx]? = some (.cells #[.pointer (some ⟨b, 0, none⟩)] 68 (0, 0))) (i : Nat) (hi : i < p.length) (An : Option Addr) (cn : Nat) (ln : List Bool) (hn : ln.length = p.length) (kn : Kd.C Kd.bool w An p.length ln) :
  Calls Try.prog 127 #[.int .i64 (i : Int), .slice An p.length cn, .pointer (some ⟨he, 0, none⟩), .pointer (some ⟨hx, 0, none⟩)] w fun e w' => e = .returned (.bool (yes ((fun S i => on le i ∨ 0 < i ∧ ∀ u, g.Pred u i → S u ∧ ¬ g.comp u) (on ln) i))) ∧ Below w.heap.size w w' := by
 obtain ⟨ae, re, rfl, ze, qe⟩ := at_b ke i hi
 obtain ⟨aL, AL, cL, rfl, zL, kL⟩ := at_pred hs.preds i hi
 have HA : Aside0 (∀ h w1, Below w.heap.size w w1 → w1.heap[h]? = some (.cells #[.slice An p.length cn] 29 (0, 0)) → Calls Try.prog 97 #[.slice AL (preds g p.length i).length cL, .func (.func 128) #[] #[.pointer (some ⟨h, 0, none⟩), .pointer (some ⟨hx, 0, none⟩)]] w1 fun e w' => e = .returned (.bool (yes (∀ k, k ∈ (preds g p.length i) → on ln k ∧ ¬ g.comp k))) ∧ Below w1.heap.size w1 w') :=
  ⟨fun h w1 hb hh => all_calls _ _ AL cL _ w1 (Kd.C_below kL hb) (Nat.le_trans (preds_len g p.length i) (Nat.le_trans hf.few (by decide))) fun w2 hb2 k hk => ⟨_, _, _, rfl, Try.func128, by kernel_rfl, rfl, h_delay11 hf ((hs.below hb).below hb2) (blk_below hh hb2) (Kd.C_below (Kd.C_below kn hb) hb2) (blk_below (blk_below bx hb) hb2) k ((mem_preds.1 hk).1)⟩⟩
 have qA := yes_iff (P := ∀ k, k ∈ (preds g p.length i) → on ln k ∧ ¬ g.comp k)
 generalize yes (∀ k, k ∈ (preds g p.length i) → on ln k ∧ ¬ g.comp k) = rA at HA qA
 have hF : (fun S i => on le i ∨ 0 < i ∧ ∀ u, g.Pred u i → S u ∧ ¬ g.comp u) (on ln) i ↔ on le i ∨ 0 < i ∧ ∀ u, u ∈ preds g p.length i → on ln u ∧ ¬ g.comp u := by rw [pred_all hf]
 obtain ⟨rp, e1, e2, qp⟩ : ∃ rp : Bool, decide (0 < i) = rp ∧ decide ((0 : Int) < (i : Int)) = rp ∧ (rp = true ↔ 0 < i) := ⟨_, rfl, by simp, by simp⟩
 try rw [yes_eq (r := re || (rp && rA)) (by rw [hF]; simp [← qe, ← qA, ← qp])]
 have hmf : ∀ (fn : Fn) (first cap : Array Value) (w : World), (Instr.makeFunc fn first cap).run Try.prog w = .ok (.func fn first cap) w := fun _ _ _ _ => rfl
 have hu := Try.underlying74
 have hu2 := Try.underlying38
 have hu3 := Try.underlying77
 have HS := Aside0.mk hs.blk
 have Be := Aside0.mk be
 have Bx := Aside0.mk bx
 have HB := Aside0.mk (Fr.new w)
 clear hs hf hF kL kn qA be bx qe qp
 cases re <;> cases rp <;> (go_enter Try.func127, Try.ntmps127; go_wp2_with (first | ((with_reducible refine gate_dst (N := 5) rfl ?_); refine fr_box HB (N := 5) rfl rfl (cs := #[.slice An p.length cn]) (t := 29) ?hr ?_; (case hr => first | (go_simp; done) | (go_simp; rfl)); intro h w1 _ HB; have ze := pw_cell_below HB.out.below ze; have zL := pw_cell_below HB.out.below zL; have zb := blk_cell (blk_below HS.out HB.out.below); have ye := blk_cell (blk_below Be.out HB.out.below); have yx := blk_cell (blk_below Bx.out HB.out.below)) | ((with_reducible refine gate_callee (f := 97) rfl ?_); (try (refine gate_guard (by rfl) ?_; dsimp only)); refine goesL_ (some 23) rfl rfl Try.func97 (by kernel_rfl) rfl #[.slice AL (preds g p.length i).length cL, .func (.func 128) #[] #[.pointer (some ⟨h, 0, none⟩), .pointer (some ⟨hx, 0, none⟩)]] rfl (by simp only [List.map_toArray, List.map_cons, List.map_nil]; rfl) ?_; refine (HA.out h _ HB.out.below (HB.out.blk 0 rfl)).mono ?_; rintro e w2 ⟨rfl, hb⟩; refine ⟨_, rfl, ?_⟩; have HB2 := Aside0.mk (HB.out.step hb); clear hb)); go_ret; first | exact ⟨rfl, HB2.out.below⟩ | exact ⟨rfl, HB.out.below⟩)
set_option maxHeartbeats 4000000 in
set_option maxRecDepth 100000 in
theorem h_alone1 (hf : Fit g p) (hs : Std g p w b A0 A1 A2 A3 A4 c0 c1 c2 c3 c4) {hx : Nat} (bx : w.heap[hx]? = some (.cells #[.pointer (some ⟨b, 0, none⟩)] 68 (0, 0))) {hv : Nat} {Av : Option Addr} {cv : Nat} {lv : List Bool} (bv : w.heap[hv]? = some (.cells #[.slice Av p.length cv] 29 (0, 0))) (kv : Kd.C Kd.bool w Av p.length lv) (i : Nat) (hi : i < p.length) (An : Option Addr) (cn : Nat) (ln : List Bool) (hn : ln.length = p.length) (kn : Kd.C Kd.bool w An p.length ln) :
  Calls Try.prog 107 #[.int .i64 (i : Int), .slice An p.length cn, .pointer (some ⟨hx, 0, none⟩), .pointer (some ⟨hv, 0, none⟩)] w fun e w' => e = .returned (.bool (yes ((fun S i => ∀ k, k ∈ g.next i → on lv k ∨ ¬ g.comp k ∧ S k) (on ln) i))) ∧ Below w.heap.size w w' := by
 obtain ⟨aL, AL, cL, rfl, zL, kL⟩ := at_next hf hs.steps i hi
 have HA : Aside0 (∀ h w1, Below w.heap.size w w1 → w1.heap[h]? = some (.cells #[.slice An p.length cn] 29 (0, 0)) → Calls Try.prog 97 #[.slice AL (g.next i).length cL, .func (.func 108) #[] #[.pointer (some ⟨hv, 0, none⟩), .pointer (some ⟨hx, 0, none⟩), .pointer (some ⟨h, 0, none⟩)]] w1 fun e w' => e = .returned (.bool (yes (∀ k, k ∈ (g.next i) → on lv k ∨ ¬ g.comp k ∧ on ln k))) ∧ Below w1.heap.size w1 w') :=
  ⟨fun h w1 hb hh => all_calls _ _ AL cL _ w1 (Kd.C_below kL hb) (Nat.le_trans (hf.two i hi) (by decide)) fun w2 hb2 k hk => ⟨_, _, _, rfl, Try.func108, by kernel_rfl, rfl, h_alone11 hf ((hs.below hb).below hb2) (blk_below (blk_below bv hb) hb2) (Kd.C_below (Kd.C_below kv hb) hb2) (blk_below (blk_below bx hb) hb2) (blk_below hh hb2) (Kd.C_below (Kd.C_below kn hb) hb2) k (hf.lt i hi k hk)⟩⟩
 have qA := yes_iff (P := ∀ k, k ∈ (g.next i) → on lv k ∨ ¬ g.comp k ∧ on ln k)
 generalize yes (∀ k, k ∈ (g.next i) → on lv k ∨ ¬ g.comp k ∧ on ln k) = rA at HA qA
 have hF : (fun S i => ∀ k, k ∈ g.next i → on lv k ∨ ¬ g.comp k ∧ S k) (on ln) i ↔ ∀ k, k ∈ g.next i → on lv k ∨ ¬ g.comp k ∧ on ln k := Iff.rfl
 try rw [yes_eq (r := rA) (by rw [hF]; simp [← qA])]
 have hmf : ∀ (fn : Fn) (first cap : Array Value) (w : World), (Instr.makeFunc fn first cap).run Try.prog w = .ok (.func fn first cap) w := fun _ _ _ _ => rfl
 have hu := Try.underlying74
 have hu2 := Try.underlying38
 have hu3 := Try.underlying77
 have HS := Aside0.mk hs.blk
 have Bx := Aside0.mk bx
 have Bv := Aside0.mk bv
 have HB := Aside0.mk (Fr.new w)
 clear hs hf hF kL kn qA bx bv
 (go_enter Try.func107, Try.ntmps107; go_wp2_with (first | ((with_reducible refine gate_dst (N := 5) rfl ?_); refine fr_box HB (N := 5) rfl rfl (cs := #[.slice An p.length cn]) (t := 29) ?hr ?_; (case hr => first | (go_simp; done) | (go_simp; rfl)); intro h w1 _ HB; have zL := pw_cell_below HB.out.below zL; have zb := blk_cell (blk_below HS.out HB.out.below); have yx := blk_cell (blk_below Bx.out HB.out.below); have yv := blk_cell (blk_below Bv.out HB.out.below)) | ((with_reducible refine gate_callee (f := 97) rfl ?_); (try (refine gate_guard (by rfl) ?_; dsimp only)); refine goesL_ (some 17) rfl rfl Try.func97 (by kernel_rfl) rfl #[.slice AL (g.next i).length cL, .func (.func 108) #[] #[.pointer (some ⟨hv, 0, none⟩), .pointer (some ⟨hx, 0, none⟩), .pointer (some ⟨h, 0, none⟩)]] rfl (by simp only [List.map_toArray, List.map_cons, List.map_nil]; rfl) ?_; refine (HA.out h _ HB.out.below (HB.out.blk 0 rfl)).mono ?_; rintro e w2 ⟨rfl, hb⟩; refine ⟨_, rfl, ?_⟩; have HB2 := Aside0.mk (HB.out.step hb); clear hb)); go_ret; first | exact ⟨rfl, HB2.out.below⟩ | exact ⟨rfl, HB.out.below⟩)
end
def Made (w : World) (n : Nat) (P : Nat → Prop) (e : Ending) (w' : World) : Prop := ∃ v : Value, e = .returned v ∧ Kd.R Kd.bool 4 w' w.heap.size (fun _ => True) v (bl n P) ∧ Below w.heap.size w w'
theorem Made.lower {w w1 : World} {n : Nat} {P : Nat → Prop} {e : Ending} {w' : World} (h : Made w1 n P e w') (hb : Below w.heap.size w w1) : Made w n P e w' :=
 let ⟨v, e1, hr, hb2⟩ := h; ⟨v, e1, Kd.R_lower hr hb.size, below_step hb hb2⟩
theorem Made.congr {w : World} {n : Nat} {P Q : Nat → Prop} {e : Ending} {w' : World} (h : Made w n P e w') (hq : ∀ i, i < n → (P i ↔ Q i)) : Made w n Q e w' :=
 let ⟨v, e1, hr, hb2⟩ := h; ⟨v, e1, bl_congr hq ▸ hr, hb2⟩
theorem made_row {w' : World} {n : Nat} {P : Nat → Prop} {v : Value} {b : Nat} (h : Kd.R Kd.bool 4 w' b (fun _ => True) v (bl n P)) : ∃ A c, v = .slice A n c ∧ n ≤ c ∧ Kd.C Kd.bool w' A n (bl n P) := by
 obtain ⟨A, c, rfl⟩ := Kd.R_slice h
 have h2 := Kd.R_reads' h
 rw [bl_len] at h2
 exact ⟨A, c, by rw [bl_len], h2.2.1, h2.2.2⟩
section
variable {g : G} {p : List Stp} {w : World} {b : Nat} {A0 A1 A2 A3 A4 : Option Addr} {c0 c1 c2 c3 c4 : Nat}
theorem great (hf : Fit g p) (hs : Std g p w b A0 A1 A2 A3 A4 c0 c1 c2 c3 c4) {F : (Nat → Prop) → Nat → Prop} (hm : Mono F) (gf : FuncId) (cap : Array Value) (ht : TestsG F p.length (.func (.func gf) #[] cap) w) :
  Calls Try.prog 95 #[.pointer (some ⟨b, 0, none⟩), .func (.func gf) #[] cap] w (Made w p.length (g.Gfp F)) :=
 (greatest_calls g F hm p.length hf.reach hf.pos hf.few b _ _ _ _ A1 c1 gf cap w hs.blk hs.reach ht).mono fun _ _ h => h
set_option maxHeartbeats 4000000 in
set_option maxRecDepth 100000 in
theorem m_down (hf : Fit g p) (hs : Std g p w b A0 A1 A2 A3 A4 c0 c1 c2 c3 c4) : Calls Try.prog 60 #[.pointer (some ⟨b, 0, none⟩)] w (Made w p.length g.Down) := by
 have HG : Aside0 (∀ h w1, Below w.heap.size w w1 → w1.heap[h]? = some (.cells #[.pointer (some ⟨b, 0, none⟩)] 68 (0, 0)) → Calls Try.prog 95 #[.pointer (some ⟨b, 0, none⟩), .func (.func 96) #[] #[.pointer (some ⟨h, 0, none⟩)]] w1 (Made w1 p.length g.Down)) :=
  ⟨fun h w1 hb hh => great hf (hs.below hb) g.downF_mono _ _ fun w2 hb2 i hi A c l hl hc kn => ⟨_, _, _, rfl, Try.func96, by kernel_rfl, rfl, h_down1 hf ((hs.below hb).below hb2) (blk_below hh hb2) i hi A c l hl (hl ▸ kn)⟩⟩
 have hmf : ∀ (fn : Fn) (first cap : Array Value) (w : World), (Instr.makeFunc fn first cap).run Try.prog w = .ok (.func fn first cap) w := fun _ _ _ _ => rfl
 have HB := Aside0.mk (Fr.new w)
 clear hs hf
 go_enter Try.func60, Try.ntmps60
 go_wp2_with (first | ((with_reducible refine gate_dst (N := 1) rfl ?_); refine fr_box HB (N := 1) rfl rfl (cs := #[.pointer (some ⟨b, 0, none⟩)]) (t := 68) ?hr ?_; (case hr => first | (go_simp; done) | (go_simp; rfl)); intro h w1 gh HB; have yh := HB.out.c0) | ((with_reducible refine gate_callee (f := 95) rfl ?_); refine goesL_ (some 5) rfl rfl Try.func95 (by kernel_rfl) rfl #[.pointer (some ⟨b, 0, none⟩), .func (.func 96) #[] #[.pointer (some ⟨h, 0, none⟩)]] rfl (by simp only [List.map_toArray, List.map_cons, List.map_nil]; rfl) ?_; refine (HG.out h _ HB.out.below (HB.out.blk 0 rfl)).mono ?_; rintro e w2 hm; obtain ⟨v, rfl, hr, hb⟩ := hm.lower HB.out.below; refine ⟨_, rfl, ?_⟩; have HM := Aside0.mk hr; have HB2 := Aside0.mk hb; clear hr hb hm))
 go_ret
 exact ⟨_, rfl, HM.out, HB2.out⟩
set_option maxHeartbeats 4000000 in
set_option maxRecDepth 100000 in
theorem m_up (hf : Fit g p) (hs : Std g p w b A0 A1 A2 A3 A4 c0 c1 c2 c3 c4) : Calls Try.prog 61 #[.pointer (some ⟨b, 0, none⟩)] w (Made w p.length g.Up) := by
 have HG : Aside0 (∀ h w1, Below w.heap.size w w1 → w1.heap[h]? = some (.cells #[.pointer (some ⟨b, 0, none⟩)] 68 (0, 0)) → Calls Try.prog 95 #[.pointer (some ⟨b, 0, none⟩), .func (.func 99) #[] #[.pointer (some ⟨h, 0, none⟩)]] w1 (Made w1 p.length g.Up)) :=
  ⟨fun h w1 hb hh => great hf (hs.below hb) g.upF_mono _ _ fun w2 hb2 i hi A c l hl hc kn => ⟨_, _, _, rfl, Try.func99, by kernel_rfl, rfl, h_up1 hf ((hs.below hb).below hb2) (blk_below hh hb2) i hi A c l hl (hl ▸ kn)⟩⟩
 have hmf : ∀ (fn : Fn) (first cap : Array Value) (w : World), (Instr.makeFunc fn first cap).run Try.prog w = .ok (.func fn first cap) w := fun _ _ _ _ => rfl
 have HB := Aside0.mk (Fr.new w)
 clear hs hf
 go_enter Try.func61, Try.ntmps61
 go_wp2_with (first | ((with_reducible refine gate_dst (N := 1) rfl ?_); refine fr_box HB (N := 1) rfl rfl (cs := #[.pointer (some ⟨b, 0, none⟩)]) (t := 68) ?hr ?_; (case hr => first | (go_simp; done) | (go_simp; rfl)); intro h w1 gh HB; have yh := HB.out.c0) | ((with_reducible refine gate_callee (f := 95) rfl ?_); refine goesL_ (some 5) rfl rfl Try.func95 (by kernel_rfl) rfl #[.pointer (some ⟨b, 0, none⟩), .func (.func 99) #[] #[.pointer (some ⟨h, 0, none⟩)]] rfl (by simp only [List.map_toArray, List.map_cons, List.map_nil]; rfl) ?_; refine (HG.out h _ HB.out.below (HB.out.blk 0 rfl)).mono ?_; rintro e w2 hm; obtain ⟨v, rfl, hr, hb⟩ := hm.lower HB.out.below; refine ⟨_, rfl, ?_⟩; have HM := Aside0.mk hr; have HB2 := Aside0.mk hb; clear hr hb hm))
 go_ret
 exact ⟨_, rfl, HM.out, HB2.out⟩
set_option maxHeartbeats 4000000 in
set_option maxRecDepth 100000 in
theorem m_delay (hf : Fit g p) (hs : Std g p w b A0 A1 A2 A3 A4 c0 c1 c2 c3 c4) (hin : ∀ w1, Below w.heap.size w w1 → Calls Try.prog 66 #[.pointer (some ⟨b, 0, none⟩)] w1 (Made w1 p.length g.Early)) : Calls Try.prog 105 #[.pointer (some ⟨b, 0, none⟩)] w (Made w p.length g.Delay) := by
 have HG : Aside0 (∀ h h2 w1 w1' A c, Below w.heap.size w w1 → Kd.C Kd.bool w1 A p.length (bl p.length g.Early) → Below w1.heap.size w1 w1' → w1'.heap[h]? = some (.cells #[.pointer (some ⟨b, 0, none⟩)] 68 (0, 0)) → w1'.heap[h2]? = some (.cells #[.slice A p.length c] 29 (0, 0)) → Calls Try.prog 95 #[.pointer (some ⟨b, 0, none⟩), .func (.func 127) #[] #[.pointer (some ⟨h2, 0, none⟩), .pointer (some ⟨h, 0, none⟩)]] w1' (Made w1' p.length g.Delay)) :=
  ⟨fun h h2 w1 w1' A c hb kA hb1 hh hh2 => great hf (hs.below (below_step hb hb1)) g.delayF_mono _ _ fun w2 hb2 i hi A c l hl hc kn => ⟨_, _, _, rfl, Try.func127, by kernel_rfl, rfl, (h_delay1 hf ((hs.below (below_step hb hb1)).below hb2) (blk_below hh2 hb2) (Kd.C_below (Kd.C_below kA hb1) hb2) (blk_below hh hb2) i hi A c l hl (hl ▸ kn)).mono fun e w3 h => ⟨h.1.trans (by rw [yes_congr]; show (on (bl p.length g.Early) i ∨ 0 < i ∧ ∀ u, g.Pred u i → on l u ∧ ¬ g.comp u) ↔ (g.Early i ∨ 0 < i ∧ ∀ u, g.Pred u i → on l u ∧ ¬ g.comp u); rw [on_bl]; exact ⟨Or.imp_left fun h => h.2, Or.imp_left fun h => ⟨hi, h⟩⟩), h.2⟩⟩⟩
 have HI := Aside0.mk hin
 have hmf : ∀ (fn : Fn) (first cap : Array Value) (w : World), (Instr.makeFunc fn first cap).run Try.prog w = .ok (.func fn first cap) w := fun _ _ _ _ => rfl
 have HB := Aside0.mk (Fr.new w)
 clear hs hf hin
 go_enter Try.func105, Try.ntmps105
 go_wp2_with (first | ((with_reducible refine gate_dst (N := 1) rfl ?_); refine fr_box HB (N := 1) rfl rfl (cs := #[.pointer (some ⟨b, 0, none⟩)]) (t := 68) ?hr ?_; (case hr => first | (go_simp; done) | (go_simp; rfl)); intro h w1 gh HB; have yh := HB.out.c0) | ((with_reducible refine gate_callee (f := 66) rfl ?_); refine goesL_ (some 5) rfl rfl Try.func66 (by kernel_rfl) rfl #[.pointer (some ⟨b, 0, none⟩)] rfl (by simp only [List.map_toArray, List.map_cons, List.map_nil]; rfl) ?_; refine (HI.out _ HB.out.below).mono ?_; rintro e w2 ⟨v, rfl, hr, hb⟩; refine ⟨_, rfl, ?_⟩; obtain ⟨A, c, rfl, hc, kA⟩ := made_row hr; have HBx := Aside0.mk (below_step HB.out.below hb); have HA := Aside0.mk kA; have HD := Aside0.mk (Fr.add1 (HB.out.step hb |>.blk 0 rfl)); clear hr hb hc kA) | ((with_reducible refine gate_dst (N := 3) rfl ?_); refine fr_box HD (N := 3) rfl rfl (cs := #[.slice none 0 0]) (t := 29) ?hr ?_; (case hr => first | (go_simp; done) | (go_simp; rfl)); intro h2 w3 gh2 HD; have yh := HD.out.c1; have yh2 := HD.out.c0; have fh2 := blk_frozen (HD.out.blk 0 rfl) 0) | ((with_reducible refine gate_store (t := 29) (p := 3) rfl ?_); refine fr_store HD gh2 rfl rfl rfl 0 (.slice A p.length c) ?hr ?_; (case hr => first | (go_simp; done) | (go_simp; rfl)); intro w4 HD; have yh := HD.out.c1; have yh2 := HD.out.c0) | ((with_reducible refine gate_callee (f := 95) rfl ?_); refine goesL_ (some 8) rfl rfl Try.func95 (by kernel_rfl) rfl #[.pointer (some ⟨b, 0, none⟩), .func (.func 127) #[] #[.pointer (some ⟨h2, 0, none⟩), .pointer (some ⟨h, 0, none⟩)]] rfl (by simp only [List.map_toArray, List.map_cons, List.map_nil]; rfl) ?_; refine (HG.out h h2 _ _ A c HBx.out HA.out HD.out.below (HD.out.blk 1 rfl) (HD.out.blk 0 rfl)).mono ?_; rintro e w2 hm; obtain ⟨v, rfl, hr, hb⟩ := hm.lower (below_step HBx.out HD.out.below); refine ⟨_, rfl, ?_⟩; have HM := Aside0.mk hr; have HB2 := Aside0.mk hb; clear hr hb hm))
 go_ret
 exact ⟨_, rfl, HM.out, HB2.out⟩
set_option maxHeartbeats 4000000 in
set_option maxRecDepth 100000 in
theorem m_alone (hf : Fit g p) (hs : Std g p w b A0 A1 A2 A3 A4 c0 c1 c2 c3 c4) (hin : ∀ w1, Below w.heap.size w w1 → Calls Try.prog 70 #[.pointer (some ⟨b, 0, none⟩)] w1 (Made w1 p.length g.Late)) : Calls Try.prog 72 #[.pointer (some ⟨b, 0, none⟩)] w (Made w p.length g.Alone) := by
 have HG : Aside0 (∀ h h2 w1 w1' A c, Below w.heap.size w w1 → Kd.C Kd.bool w1 A p.length (bl p.length g.Late) → Below w1.heap.size w1 w1' → w1'.heap[h]? = some (.cells #[.pointer (some ⟨b, 0, none⟩)] 68 (0, 0)) → w1'.heap[h2]? = some (.cells #[.slice A p.length c] 29 (0, 0)) → Calls Try.prog 95 #[.pointer (some ⟨b, 0, none⟩), .func (.func 107) #[] #[.pointer (some ⟨h, 0, none⟩), .pointer (some ⟨h2, 0, none⟩)]] w1' (Made w1' p.length g.Alone)) :=
  ⟨fun h h2 w1 w1' A c hb kA hb1 hh hh2 => great hf (hs.below (below_step hb hb1)) g.aloneF_mono _ _ fun w2 hb2 i hi A c l hl hc kn => ⟨_, _, _, rfl, Try.func107, by kernel_rfl, rfl, (h_alone1 hf ((hs.below (below_step hb hb1)).below hb2) (blk_below hh hb2) (blk_below hh2 hb2) (Kd.C_below (Kd.C_below kA hb1) hb2) i hi A c l hl (hl ▸ kn)).mono fun e w3 h => ⟨h.1.trans (by rw [yes_congr]; exact forall_congr' fun k => imp_congr_right fun hk => by rw [on_bl]; exact ⟨Or.imp_left fun h => h.2, Or.imp_left fun h => ⟨hf.lt i hi k hk, h⟩⟩), h.2⟩⟩⟩
 have HI := Aside0.mk hin
 have hmf : ∀ (fn : Fn) (first cap : Array Value) (w : World), (Instr.makeFunc fn first cap).run Try.prog w = .ok (.func fn first cap) w := fun _ _ _ _ => rfl
 have HB := Aside0.mk (Fr.new w)
 clear hs hf hin
 go_enter Try.func72, Try.ntmps72
 go_wp2_with (first | ((with_reducible refine gate_dst (N := 1) rfl ?_); refine fr_box HB (N := 1) rfl rfl (cs := #[.pointer (some ⟨b, 0, none⟩)]) (t := 68) ?hr ?_; (case hr => first | (go_simp; done) | (go_simp; rfl)); intro h w1 gh HB; have yh := HB.out.c0) | ((with_reducible refine gate_callee (f := 70) rfl ?_); refine goesL_ (some 5) rfl rfl Try.func70 (by kernel_rfl) rfl #[.pointer (some ⟨b, 0, none⟩)] rfl (by simp only [List.map_toArray, List.map_cons, List.map_nil]; rfl) ?_; refine (HI.out _ HB.out.below).mono ?_; rintro e w2 ⟨v, rfl, hr, hb⟩; refine ⟨_, rfl, ?_⟩; obtain ⟨A, c, rfl, hc, kA⟩ := made_row hr; have HBx := Aside0.mk (below_step HB.out.below hb); have HA := Aside0.mk kA; have HD := Aside0.mk (Fr.add1 (HB.out.step hb |>.blk 0 rfl)); clear hr hb hc kA) | ((with_reducible refine gate_dst (N := 3) rfl ?_); refine fr_box HD (N := 3) rfl rfl (cs := #[.slice none 0 0]) (t := 29) ?hr ?_; (case hr => first | (go_simp; done) | (go_simp; rfl)); intro h2 w3 gh2 HD; have yh := HD.out.c1; have yh2 := HD.out.c0; have fh2 := blk_frozen (HD.out.blk 0 rfl) 0) | ((with_reducible refine gate_store (t := 29) (p := 3) rfl ?_); refine fr_store HD gh2 rfl rfl rfl 0 (.slice A p.length c) ?hr ?_; (case hr => first | (go_simp; done) | (go_simp; rfl)); intro w4 HD; have yh := HD.out.c1; have yh2 := HD.out.c0) | ((with_reducible refine gate_callee (f := 95) rfl ?_); refine goesL_ (some 8) rfl rfl Try.func95 (by kernel_rfl) rfl #[.pointer (some ⟨b, 0, none⟩), .func (.func 107) #[] #[.pointer (some ⟨h, 0, none⟩), .pointer (some ⟨h2, 0, none⟩)]] rfl (by simp only [List.map_toArray, List.map_cons, List.map_nil]; rfl) ?_; refine (HG.out h h2 _ _ A c HBx.out HA.out HD.out.below (HD.out.blk 1 rfl) (HD.out.blk 0 rfl)).mono ?_; rintro e w2 hm; obtain ⟨v, rfl, hr, hb⟩ := hm.lower (below_step HBx.out HD.out.below); refine ⟨_, rfl, ?_⟩; have HM := Aside0.mk hr; have HB2 := Aside0.mk hb; clear hr hb hm))
 go_ret
 exact ⟨_, rfl, HM.out, HB2.out⟩
end
theorem cn_ {d : Nat → Prop} {i j : Nat} {X : Prop} (f : d j → X) (hne : ¬ j = i) : (j = i ∨ d j) → X := fun h => f (h.resolve_left hne)
theorem cell_one {w : World} {g : Nat} {v : Value} {t : TypeId} (h : w.heap[g]? = some (.cells #[v] t (0, 0))) : w.cell? ⟨g, 0, none⟩ = some v := (blk_cell h 0).trans rfl
theorem blk_setne {w : World} {g : Nat} {o : Obj} {p : Addr} {v : Value} (h : w.heap[g]? = some o) (hne : g ≠ p.block) : (w.setCell p v).heap[g]? = some o := by rw [Below.heap_setCell w p v g hne]; exact h
def Var (w0 : World) (h : Nat) (t : TypeId) (s u : Value) (w : World) : Prop := ∃ g, s = .pointer (some ⟨g, 0, none⟩) ∧ w.heap[g]? = some (.cells #[u] t (0, 0)) ∧ w0.heap.size ≤ g ∧ g ≠ h
def MadeB (w0 : World) (v : Value) (n : Nat) (P : Nat → Prop) (w : World) : Prop := Kd.R Kd.bool 4 w w0.heap.size (fun _ => True) v (bl n P)
section
variable {w0 w w' : World} {h n : Nat} {t : TypeId} {s u v : Value} {P : Nat → Prop}
theorem Var.calm (hv : Var w0 h t s u w) (hb : Below w.heap.size w w') : Var w0 h t s u w' := let ⟨g, e, k, r⟩ := hv; ⟨g, e, blk_below k hb, r⟩
theorem Var.ne_new (hv : Var w0 h t s u w) : s ≠ .pointer (some ⟨w.heap.size, 0, none⟩) := fun e => by
 obtain ⟨g, rfl, k, _⟩ := hv
 injection e with e; injection e with e; injection e with e
 have := blk_lt k; omega
theorem Var.new (hb : Below w0.heap.size w0 w) {ob : Obj} (hx : w.heap[h]? = some ob) (u : Value) : Var w0 h t (.pointer (some ⟨w.heap.size, 0, none⟩)) u (w.alloc (.cells #[u] t (0, 0))) := ⟨_, rfl, blk_new _ _, hb.size, Nat.ne_of_gt (blk_lt hx)⟩
theorem Var.set (hv : Var w0 h t s u w) {g : Nat} (hne : s ≠ .pointer (some ⟨g, 0, none⟩)) (x : Value) : Var w0 h t s u (w.setCell ⟨g, 0, none⟩ x) :=
 let ⟨g1, e, k, r⟩ := hv; ⟨g1, e, blk_setne k (fun c => hne (by rw [e]; exact congrArg (fun k => Value.pointer (some (⟨k, 0, none⟩ : Addr))) c)), r⟩
theorem MadeB.calm (hv : MadeB w0 v n P w) (hb : Below w.heap.size w w') : MadeB w0 v n P w' := Kd.R_below hv hb
theorem MadeB.set (hv : MadeB w0 v n P w) {g : Nat} (hg : w.heap[g]? = some (.cells #[u] 29 (0, 0))) (x : Value) : MadeB w0 v n P (w.setCell ⟨g, 0, none⟩ x) := Kd.R_set hv hg (by decide) 0 x
end
def TwoV (w : World) (n : Nat) (P Q : Nat → Prop) (h : Nat) (ob : Obj) (s t : Value) (W : World) : Prop :=
 ∃ g1 g2 A1 c1 A2 c2, s = .pointer (some ⟨g1, 0, none⟩) ∧ t = .pointer (some ⟨g2, 0, none⟩) ∧ W.heap[g1]? = some (.cells #[.slice A1 n c1] 29 (0, 0)) ∧ W.heap[g2]? = some (.cells #[.slice A2 n c2] 29 (0, 0)) ∧
  Kd.C Kd.bool W A1 n (bl n P) ∧ Kd.C Kd.bool W A2 n (bl n Q) ∧ Below w.heap.size w W ∧ W.heap[h]? = some ob
def Way (n : Nat) (P Q : Nat → Prop) (i : Nat) (l : List Bool) : Prop := l.length = n ∧ ∀ j, j < n → (on l j ↔ if j < i then P j else Q j)
theorem Way.start (n : Nat) (P Q : Nat → Prop) : Way n P Q 0 (bl n Q) := ⟨bl_len _ _, fun j hj => by rw [on_bl, if_neg (by omega)]; exact ⟨fun h => h.2, fun h => ⟨hj, h⟩⟩⟩
theorem Way.at_ {n i : Nat} {P Q : Nat → Prop} {l : List Bool} (h : Way n P Q i l) (hi : i < n) : on l i ↔ Q i := by have := h.2 i hi; rwa [if_neg (by omega)] at this
theorem Way.step {n i : Nat} {P Q : Nat → Prop} {l : List Bool} (h : Way n P Q i l) (hi : i < n) {r : Bool} (hr : r = true ↔ P i) : Way n P Q (i + 1) (l.set i r) := ⟨by rw [List.length_set]; exact h.1, fun j hj => by
 rw [on_set (by rw [h.1]; exact hi)]
 by_cases e : j = i
 ·subst e; rw [if_pos rfl, if_pos (by omega)]; exact hr
 ·rw [if_neg e, h.2 j hj]
  by_cases h2 : j < i
  ·rw [if_pos h2, if_pos (by omega)]
  ·rw [if_neg h2, if_neg (by omega)]⟩
theorem Way.done {n : Nat} {P Q : Nat → Prop} {l : List Bool} (h : Way n P Q n l) : l = bl n P := eq_bl h.1 fun i hi => by rw [h.2 i hi, if_pos hi]
section
variable {g : G} {p : List Stp} {w : World} {b : Nat} {A0 A1 A2 A3 A4 : Option Addr} {c0 c1 c2 c3 c4 : Nat}
set_option maxHeartbeats 16000000 in
set_option maxRecDepth 100000 in
theorem m_early (hf : Fit g p) (hs : Std g p w b A0 A1 A2 A3 A4 c0 c1 c2 c3 c4) : Calls Try.prog 66 #[.pointer (some ⟨b, 0, none⟩)] w (Made w p.length g.Early) := by
 have HD : Aside0 (∀ w1, Below w.heap.size w w1 → Calls Try.prog 60 #[.pointer (some ⟨b, 0, none⟩)] w1 (Made w1 p.length g.Down)) := ⟨fun w1 hb => m_down hf (hs.below hb)⟩
 have HU : Aside0 (∀ w1, Below w.heap.size w w1 → Calls Try.prog 61 #[.pointer (some ⟨b, 0, none⟩)] w1 (Made w1 p.length g.Up)) := ⟨fun w1 hb => m_up hf (hs.below hb)⟩
 have HB := Aside0.mk (Fr.new w)
 have HS := Aside0.mk hs
 have HF := Aside0.mk hf
 clear hs hf
 go_enter Try.func66, Try.ntmps66
 go_upto_region 1 with (first | ((with_reducible refine gate_dst (N := 1) rfl ?_); refine fr_box HB (N := 1) rfl rfl (cs := #[.pointer (some ⟨b, 0, none⟩)]) (t := 68) ?hr ?_; (case hr => first | (go_simp; done) | (go_simp; rfl)); intro h w1 gh HB; have yh := HB.out.c0))
 go_upto_region 2 with fail
 go_cut [3, 4] (fun s3 s4 wx => Aside0 (TwoV w p.length g.Down g.Up h (.cells #[.pointer (some ⟨b, 0, none⟩)] 68 (0, 0)) s3 s4 wx))
 case first =>
  refine region_ri [[], [0], [], [2, 1], [], [], [4, 1, 3, 0, 1, 4, 5], [5, 3, 6, 0, 1, 2, 3, 4, 5, 6]] (fun d a w' => ∃ s3 s4 s7 s8 s9 s10 u3 u4, a = ⟨#[.pointer (some ⟨b, 0, none⟩), .pointer (some ⟨h, 0, none⟩), .slice none 0 0, s3, s4, undef, undef, s7, s8, s9, s10, undef, undef, undef, undef, undef, undef, undef, undef, undef, undef, undef, undef, undef, undef, undef, undef, undef, undef, undef, undef, undef, undef, undef, undef, undef, undef, undef, undef, undef, undef, undef, undef], []⟩ ∧ Below w.heap.size w w' ∧ w'.heap[h]? = some (.cells #[.pointer (some ⟨b, 0, none⟩)] 68 (0, 0)) ∧ (d 0 → s7 = .pointer (some ⟨b, 0, none⟩)) ∧ (d 2 → s9 = .pointer (some ⟨b, 0, none⟩)) ∧ (d 1 → MadeB w s8 p.length g.Down w') ∧ (d 3 → MadeB w s10 p.length g.Up w') ∧ (d 4 → Var w h 29 s3 u3 w') ∧ (d 5 → Var w h 29 s4 u4 w') ∧ (d 4 → d 5 → s3 ≠ s4) ∧ (d 6 → d 1 ∧ d 4 ∧ u3 = s8) ∧ (d 7 → d 3 ∧ d 5 ∧ u4 = s10)) (by kernel_rfl) (by kernel_rfl) (by kernel_rfl) ?_ ?_ ?_
  ·exact ⟨_, _, _, _, _, _, undef, undef, rfl, below_drew HB.out.below, HB.out.blk 0 rfl, False.elim, False.elim, False.elim, False.elim, False.elim, False.elim, False.elim, False.elim, False.elim⟩
  ·intro i o ns ho hns
   rcases i with _|_|_|_|_|_|_|_|i
   ·obtain rfl := Option.some.inj ho; obtain rfl := Option.some.inj hns; intro d a w' hn hd ⟨s3, s4, s7, s8, s9, s10, u3, u4, ea, hb, hx, f0, f2, f1, f3, f4, f5, f45, f6, f7⟩ K hK; subst ea; have zz := cell_one hx; exact op_value rfl (w1 := w') (v := .pointer (some ⟨b, 0, none⟩)) (by first | (go_simp; done) | (go_simp; rfl)) (hK _ _ ⟨s3, s4, _, s8, s9, s10, u3, u4, rfl, hb, hx, fun _ => rfl, cn_ f2 (by decide), cn_ f1 (by decide), cn_ f3 (by decide), cn_ f4 (by decide), cn_ f5 (by decide), cn_ (fun q => cn_ (f45 q) (by decide)) (by decide), cn_ (fun q => ⟨.inr (f6 q).1, .inr (f6 q).2.1, (f6 q).2.2⟩) (by decide), cn_ (fun q => ⟨.inr (f7 q).1, .inr (f7 q).2.1, (f7 q).2.2⟩) (by decide)⟩)
   ·obtain rfl := Option.some.inj ho; obtain rfl := Option.some.inj hns; intro d a w' hn hd ⟨s3, s4, s7, s8, s9, s10, u3, u4, ea, hb, hx, f0, f2, f1, f3, f4, f5, f45, f6, f7⟩ K hK; subst ea; obtain rfl := f0 (hn 0 (by decide)); refine call_ 60 #[.pointer (some ⟨b, 0, none⟩)] rfl rfl (by first | (go_simp; done) | (go_simp; rfl)) ((HD.out w' hb).mono ?_); rintro e w2 ⟨v1, rfl, hr1, hb1⟩; exact ⟨v1, rfl, hK _ _ ⟨s3, s4, _, v1, s9, s10, u3, u4, rfl, below_step hb hb1, blk_below hx hb1, cn_ f0 (by decide), cn_ f2 (by decide), fun _ => Kd.R_lower hr1 hb.size, cn_ (fun q => (f3 q).calm hb1) (by decide), cn_ (fun q => (f4 q).calm hb1) (by decide), cn_ (fun q => (f5 q).calm hb1) (by decide), cn_ (fun q => cn_ (f45 q) (by decide)) (by decide), cn_ (fun q => absurd (f6 q).1 hd) (by decide), cn_ (fun q => ⟨.inr (f7 q).1, .inr (f7 q).2.1, (f7 q).2.2⟩) (by decide)⟩⟩
   ·obtain rfl := Option.some.inj ho; obtain rfl := Option.some.inj hns; intro d a w' hn hd ⟨s3, s4, s7, s8, s9, s10, u3, u4, ea, hb, hx, f0, f2, f1, f3, f4, f5, f45, f6, f7⟩ K hK; subst ea; have zz := cell_one hx; exact op_value rfl (w1 := w') (v := .pointer (some ⟨b, 0, none⟩)) (by first | (go_simp; done) | (go_simp; rfl)) (hK _ _ ⟨s3, s4, s7, s8, _, s10, u3, u4, rfl, hb, hx, cn_ f0 (by decide), fun _ => rfl, cn_ f1 (by decide), cn_ f3 (by decide), cn_ f4 (by decide), cn_ f5 (by decide), cn_ (fun q => cn_ (f45 q) (by decide)) (by decide), cn_ (fun q => ⟨.inr (f6 q).1, .inr (f6 q).2.1, (f6 q).2.2⟩) (by decide), cn_ (fun q => ⟨.inr (f7 q).1, .inr (f7 q).2.1, (f7 q).2.2⟩) (by decide)⟩)
   ·obtain rfl := Option.some.inj ho; obtain rfl := Option.some.inj hns; intro d a w' hn hd ⟨s3, s4, s7, s8, s9, s10, u3, u4, ea, hb, hx, f0, f2, f1, f3, f4, f5, f45, f6, f7⟩ K hK; subst ea; obtain rfl := f2 (hn 2 (by decide)); refine call_ 61 #[.pointer (some ⟨b, 0, none⟩)] rfl rfl (by first | (go_simp; done) | (go_simp; rfl)) ((HU.out w' hb).mono ?_); rintro e w2 ⟨v1, rfl, hr1, hb1⟩; exact ⟨v1, rfl, hK _ _ ⟨s3, s4, s7, s8, _, v1, u3, u4, rfl, below_step hb hb1, blk_below hx hb1, cn_ f0 (by decide), cn_ f2 (by decide), cn_ (fun q => (f1 q).calm hb1) (by decide), fun _ => Kd.R_lower hr1 hb.size, cn_ (fun q => (f4 q).calm hb1) (by decide), cn_ (fun q => (f5 q).calm hb1) (by decide), cn_ (fun q => cn_ (f45 q) (by decide)) (by decide), cn_ (fun q => ⟨.inr (f6 q).1, .inr (f6 q).2.1, (f6 q).2.2⟩) (by decide), cn_ (fun q => absurd (f7 q).1 hd) (by decide)⟩⟩
   ·obtain rfl := Option.some.inj ho; obtain rfl := Option.some.inj hns; intro d a w' hn hd ⟨s3, s4, s7, s8, s9, s10, u3, u4, ea, hb, hx, f0, f2, f1, f3, f4, f5, f45, f6, f7⟩ K hK; subst ea; have ha := below_alloc (Below.refl w'.heap.size w') (.cells #[.slice none 0 0] 29 (0, 0)); exact op_value rfl (w1 := w'.alloc (.cells #[.slice none 0 0] 29 (0, 0))) (v := .pointer (some ⟨w'.heap.size, 0, none⟩)) (by first | (go_simp; done) | (go_simp; rfl)) (hK _ _ ⟨_, s4, s7, s8, s9, s10, _, u4, rfl, below_step hb ha, blk_below hx ha, cn_ f0 (by decide), cn_ f2 (by decide), cn_ (fun q => (f1 q).calm ha) (by decide), cn_ (fun q => (f3 q).calm ha) (by decide), fun _ => Var.new hb hx _, cn_ (fun q => (f5 q).calm ha) (by decide), fun _ q => ((f5 (q.resolve_left (by decide))).ne_new).symm, cn_ (fun q => absurd (f6 q).2.1 hd) (by decide), cn_ (fun q => ⟨.inr (f7 q).1, .inr (f7 q).2.1, (f7 q).2.2⟩) (by decide)⟩)
   ·obtain rfl := Option.some.inj ho; obtain rfl := Option.some.inj hns; intro d a w' hn hd ⟨s3, s4, s7, s8, s9, s10, u3, u4, ea, hb, hx, f0, f2, f1, f3, f4, f5, f45, f6, f7⟩ K hK; subst ea; have ha := below_alloc (Below.refl w'.heap.size w') (.cells #[.slice none 0 0] 29 (0, 0)); exact op_value rfl (w1 := w'.alloc (.cells #[.slice none 0 0] 29 (0, 0))) (v := .pointer (some ⟨w'.heap.size, 0, none⟩)) (by first | (go_simp; done) | (go_simp; rfl)) (hK _ _ ⟨s3, _, s7, s8, s9, s10, u3, _, rfl, below_step hb ha, blk_below hx ha, cn_ f0 (by decide), cn_ f2 (by decide), cn_ (fun q => (f1 q).calm ha) (by decide), cn_ (fun q => (f3 q).calm ha) (by decide), cn_ (fun q => (f4 q).calm ha) (by decide), fun _ => Var.new hb hx _, fun q _ => (f4 (q.resolve_left (by decide))).ne_new, cn_ (fun q => ⟨.inr (f6 q).1, .inr (f6 q).2.1, (f6 q).2.2⟩) (by decide), cn_ (fun q => absurd (f7 q).2.1 hd) (by decide)⟩)
   ·obtain rfl := Option.some.inj ho; obtain rfl := Option.some.inj hns; intro d a w' hn hd ⟨s3, s4, s7, s8, s9, s10, u3, u4, ea, hb, hx, f0, f2, f1, f3, f4, f5, f45, f6, f7⟩ K hK; subst ea; obtain ⟨g1, rfl, kg, qg, ng⟩ := f4 (hn 4 (by decide)); obtain ⟨Ax, cx, rfl, _, _⟩ := made_row (f1 (hn 1 (by decide))); have zz := cell_one kg; have yy := blk_frozen kg 0; exact op_skip rfl (w1 := w'.setCell ⟨g1, 0, none⟩ (.slice Ax p.length cx)) (by first | (go_simp; done) | (go_simp; rfl)) (hK _ _ ⟨_, s4, s7, _, s9, s10, _, u4, rfl, below_set hb qg, blk_setne hx (fun c => ng c.symm), cn_ f0 (by decide), cn_ f2 (by decide), cn_ (fun q => (f1 q).set kg _) (by decide), cn_ (fun q => (f3 q).set kg _) (by decide), fun _ => ⟨g1, rfl, blk_set kg 0 _, qg, ng⟩, cn_ (fun q => (f5 q).set ((f45 (hn 4 (by decide)) q).symm) _) (by decide), cn_ (fun q => cn_ (f45 q) (by decide)) (by decide), fun _ => ⟨.inr (hn 1 (by decide)), .inr (hn 4 (by decide)), rfl⟩, cn_ (fun q => ⟨.inr (f7 q).1, .inr (f7 q).2.1, (f7 q).2.2⟩) (by decide)⟩)
   ·obtain rfl := Option.some.inj ho; obtain rfl := Option.some.inj hns; intro d a w' hn hd ⟨s3, s4, s7, s8, s9, s10, u3, u4, ea, hb, hx, f0, f2, f1, f3, f4, f5, f45, f6, f7⟩ K hK; subst ea; obtain ⟨g1, rfl, kg, qg, ng⟩ := f5 (hn 5 (by decide)); obtain ⟨Ax, cx, rfl, _, _⟩ := made_row (f3 (hn 3 (by decide))); have zz := cell_one kg; have yy := blk_frozen kg 0; exact op_skip rfl (w1 := w'.setCell ⟨g1, 0, none⟩ (.slice Ax p.length cx)) (by first | (go_simp; done) | (go_simp; rfl)) (hK _ _ ⟨s3, _, s7, s8, s9, _, u3, _, rfl, below_set hb qg, blk_setne hx (fun c => ng c.symm), cn_ f0 (by decide), cn_ f2 (by decide), cn_ (fun q => (f1 q).set kg _) (by decide), cn_ (fun q => (f3 q).set kg _) (by decide), cn_ (fun q => (f4 q).set (f45 q (hn 5 (by decide))) _) (by decide), fun _ => ⟨g1, rfl, blk_set kg 0 _, qg, ng⟩, cn_ (fun q => cn_ (f45 q) (by decide)) (by decide), cn_ (fun q => ⟨.inr (f6 q).1, .inr (f6 q).2.1, (f6 q).2.2⟩) (by decide), fun _ => ⟨.inr (hn 3 (by decide)), .inr (hn 5 (by decide)), rfl⟩⟩)
   ·cases ho
  ·intro d a w' hd ⟨s3, s4, s7, s8, s9, s10, u3, u4, ea, hb, hx, f0, f2, f1, f3, f4, f5, f45, f6, f7⟩
   subst ea
   dsimp only
   go_wp2_with fail
   go_meet
   obtain ⟨g1, rfl, k1, q1, _⟩ := f4 (hd 4 (by decide))
   obtain ⟨g2, rfl, k2, q2, _⟩ := f5 (hd 5 (by decide))
   have e3 := (f6 (hd 6 (by decide))).2.2
   have e4 := (f7 (hd 7 (by decide))).2.2
   obtain ⟨B1, d1, e1, _, r1⟩ := made_row (f1 (hd 1 (by decide)))
   obtain ⟨B2, d2, e2, _, r2⟩ := made_row (f3 (hd 3 (by decide)))
   rw [e3, e1] at k1
   rw [e4, e2] at k2
   exact ⟨⟨g1, g2, B1, d1, B2, d2, rfl, rfl, k1, k2, r1, r2, hb, hx⟩⟩
 case rest =>
  obtain ⟨⟨g1, g2, B1, d1, B2, d2, rfl, rfl, k1, k2, r1, r2, hb, hx⟩⟩ := hcut
  clear HD HU
  have hpos := HF.out.pos
  have hfew := HF.out.few
  have HBw := Aside0.mk hb
  have HSc := Aside0.mk (HS.out.below hb)
  have HR1 := Aside0.mk r1
  have HX := Aside0.mk (And.intro hx (And.intro k1 k2))
  have HA : Aside0 (∀ w1, Below wc.heap.size wc w1 → ∀ (i : Nat), i < p.length → ∀ (AL : Option Addr) (cL : Nat), Kd.C (Kd.int .i64) w1 AL (preds g p.length i).length (ints (preds g p.length i)) → Calls Try.prog 97 #[.slice AL (preds g p.length i).length cL, .func (.func 104) #[] #[.pointer (some ⟨h, 0, none⟩), .pointer (some ⟨g1, 0, none⟩), .pointer (some ⟨g2, 0, none⟩)]] w1 fun e w' => e = .returned (.bool (yes (∀ u, u ∈ preds g p.length i → g.keeps u ∧ (g.Down u ∨ g.Up u)))) ∧ Below w1.heap.size w1 w') :=
   ⟨fun w1 hb1 i hi AL cL kL => all_calls _ _ AL cL _ w1 kL (Nat.le_trans (preds_len g p.length i) (Nat.le_trans HF.out.few (by decide))) fun w2 hb2 k hk => ⟨_, _, _, rfl, Try.func104, by kernel_rfl, rfl,
    (h_early1 HF.out ((HSc.out.below hb1).below hb2) (blk_below (blk_below hx hb1) hb2) (blk_below (blk_below k1 hb1) hb2) (Kd.C_below (Kd.C_below r1 hb1) hb2) (blk_below (blk_below k2 hb1) hb2) (Kd.C_below (Kd.C_below r2 hb1) hb2) k (mem_preds.1 hk).1).mono fun e w3 h => ⟨h.1.trans (by rw [yes_congr]; rw [on_bl, on_bl]; have := (mem_preds.1 hk).1; exact ⟨fun h => ⟨h.1, h.2.imp (fun q => q.2) (fun q => q.2)⟩, fun h => ⟨h.1, h.2.imp (fun q => ⟨this, q⟩) (fun q => ⟨this, q⟩)⟩⟩), h.2⟩⟩⟩
  have HC := Aside0.mk (fun w1 (hb1 : Below wc.heap.size wc w1) => clone_calls B1 d1 (bl p.length g.Down) w1 (by rw [bl_len]; exact hpos) (by rw [bl_len]; omega) (by rw [bl_len]; exact Kd.C_below r1 hb1))
  have y1 := blk_cell k1
  have hu := Try.underlying74
  have hmf : ∀ (fn : Fn) (first cap : Array Value) (w : World), (Instr.makeFunc fn first cap).run Try.prog w = .ok (.func fn first cap) w := fun _ _ _ _ => rfl
  clear hb hx k1 k2 r1 r2 HS
  go_wp2_with (first | ((with_reducible refine gate_callee (f := 103) rfl ?_); refine goesL_ (some 12) rfl rfl Try.func103 (by kernel_rfl) rfl #[.slice B1 p.length d1] rfl (by simp only [List.map_toArray, List.map_cons, List.map_nil]; rfl) ?_; have hC := HC.out _ (Below.refl _ _); rw [bl_len] at hC; refine hC.mono ?_; rintro e w2 ⟨v1, rfl, ho, hb⟩; refine ⟨_, rfl, ?_⟩; obtain ⟨go, cp, rfl, hg1, hg2, hg3⟩ := Kd.R_form ho (by rw [bl_len]; exact hpos); have HO := Aside0.mk ho; have HB3 := Aside0.mk hb; clear hb ho hg2 hg3 hC; rw [bl_len]))
  clear y1 HC
  go_loopg [15] p.length (fun kq v15 w' => ∃ (l : List Bool) (i : Nat), v15 = .int .i64 (i : Int) ∧ Aside0 (i + kq = p.length ∧ Way p.length g.Early g.Down i l) ∧ Aside0 (Kd.R Kd.bool 4 w' wc.heap.size (fun _ => True) (.slice (some ⟨go, 0, none⟩) p.length cp) l) ∧ Aside0 (Below wc.heap.size wc w'))
  case atStart => exact ⟨_, 0, rfl, ⟨by omega, Way.start _ _ _⟩, (by have h := HO; rw [bl_len] at h; exact h), HB3⟩
  case round =>
   clear HO HB3
   obtain ⟨l, i, rfl, HW, HO, HB3⟩ := hrel
   have hin : i ≤ p.length := by have := HW.out.1; omega
   by_cases hi : i < p.length
   ·have hl := HW.out.2.1
    have HK : Aside0 (gk - 1 < gk) := ⟨by have := HW.out.1; omega⟩
    obtain ⟨hy, hfz⟩ := Kd.R_celln false HO.out (i : Int) (by omega) (by omega)
    simp only [Int.toNat_natCast] at hy hfz
    have hon : rdOf false l (i : Int) = true ↔ g.Down i := (on_rd (by omega)).trans (HW.out.2.at_ hi)
    generalize rdOf false l (i : Int) = rl at hy hon
    have HS2 := Aside0.mk (HSc.out.below HB3.out)
    obtain ⟨aL, AL, cL, eL, zL, kL⟩ := at_pred HS2.out.preds i hi
    subst eL
    have zb := blk_cell HS2.out.blk
    have yh := blk_cell (blk_below HX.out.1 HB3.out)
    have HA2 := Aside0.mk (HA.out _ HB3.out i hi AL cL kL)
    have qA : yes (∀ u, u ∈ preds g p.length i → g.keeps u ∧ (g.Down u ∨ g.Up u)) = true ↔ ∀ u, g.Pred u i → g.keeps u ∧ (g.Down u ∨ g.Up u) := by rw [yes_iff, pred_all HF.out]
    generalize yes (∀ u, u ∈ preds g p.length i → g.keeps u ∧ (g.Down u ∨ g.Up u)) = rA at HA2 qA
    obtain ⟨rz, e1, e2, qz⟩ : ∃ rz : Bool, decide (i = 0) = rz ∧ ((i : Int) == 0) = rz ∧ (rz = true ↔ i = 0) := ⟨_, rfl, by rw [Bool.eq_iff_iff]; simp, by simp⟩
    have hE : (rl && (rz || !rA)) = true ↔ g.Early i := by
     unfold G.Early
     rw [← hon, ← qz, show (∃ u, g.Pred u i ∧ ¬(g.keeps u ∧ (g.Down u ∨ g.Up u))) ↔ ¬ (rA = true) from by rw [qA]; exact ⟨fun ⟨u, h1, h2⟩ h3 => h2 (h3 u h1), fun h => Classical.byContradiction fun c => h fun u hu => Classical.byContradiction fun d => c ⟨u, hu, d⟩⟩]
     simp
    have HW2 := Aside0.mk (HW.out.2.step hi hE)
    have HN : Aside0 (i + 1 + (gk - 1) = p.length) := ⟨by have := HW.out.1; omega⟩
    have hi0 : 0 ≤ (i : Int) := by omega
    have hi1 : (i : Int) < (p.length : Int) := by omega
    clear hon qz qA hE HW kL hl
    cases rl <;> cases rz <;> (
     go_wp2_with (first | ((with_reducible refine gate_callee (f := 97) rfl ?_); (try (refine gate_guard (by rfl) ?_; dsimp only)); refine goesL_ (some 36) rfl rfl Try.func97 (by kernel_rfl) rfl #[.slice AL (preds g p.length i).length cL, .func (.func 104) #[] #[.pointer (some ⟨h, 0, none⟩), .pointer (some ⟨g1, 0, none⟩), .pointer (some ⟨g2, 0, none⟩)]] rfl (by simp only [List.map_toArray, List.map_cons, List.map_nil]; rfl) ?_; refine HA2.out.mono ?_; rintro e w3 ⟨rfl, hb⟩; refine ⟨_, rfl, ?_⟩; have n1 := Aside0.mk (below_step HB3.out hb); have n2 := Aside0.mk (Kd.R_below HO.out hb); clear hb HB3 HO; have HB3 := n1; have HO := n2; clear n1 n2; obtain ⟨hy2, hfz2⟩ := Kd.R_celln false HO.out (i : Int) hi0 hi1; simp only [Int.toNat_natCast] at hy2 hfz2) | ((with_reducible refine gate_store (t := 4) (p := 40) rfl ?_); refine row_store HO HB3 hg1 rfl rfl rfl i false ?hr ?_; (case hr => first | (go_simp; done) | (go_simp; rfl)); intro w4 HO3 HB4) | ((with_reducible refine gate_store (t := 4) (p := 40) rfl ?_); refine row_store HO HB3 hg1 rfl rfl rfl i true ?hr ?_; (case hr => first | (go_simp; done) | (go_simp; rfl)); intro w4 HO3 HB4) | ((with_reducible refine gate_store (t := 4) (p := 40) rfl ?_); refine row_store HO HB3 hg1 rfl rfl rfl i (!rA) ?hr ?_; (case hr => first | (go_simp; done) | (go_simp; rfl)); intro w4 HO3 HB4))
     go_roundg (gk - 1)
     case measure => exact HK.out
     case rel => exact ⟨_, i + 1, by go_num, ⟨HN.out, HW2.out⟩, HO3, HB4⟩)
   ·obtain rfl : p.length = i := by omega
    go_wp2
    go_ret
    exact ⟨_, rfl, by rw [← HW.out.2.done]; exact Kd.R_lower HO.out HBw.out.size, below_step HBw.out HB3.out⟩
end
section
variable {g : G} {p : List Stp} {w : World} {b : Nat} {A0 A1 A2 A3 A4 : Option Addr} {c0 c1 c2 c3 c4 : Nat}
theorem m_delay' (hf : Fit g p) (hs : Std g p w b A0 A1 A2 A3 A4 c0 c1 c2 c3 c4) : Calls Try.prog 105 #[.pointer (some ⟨b, 0, none⟩)] w (Made w p.length g.Delay) := m_delay hf hs fun w1 hb => m_early hf (hs.below hb)
set_option maxHeartbeats 16000000 in
set_option maxRecDepth 100000 in
theorem m_late (hf : Fit g p) (hs : Std g p w b A0 A1 A2 A3 A4 c0 c1 c2 c3 c4) : Calls Try.prog 70 #[.pointer (some ⟨b, 0, none⟩)] w (Made w p.length g.Late) := by
 have HD := Aside0.mk (m_delay' hf hs)
 have HS := Aside0.mk hs
 have HF := Aside0.mk hf
 have hpos := HF.out.pos
 have hfew := HF.out.few
 have hmf : ∀ (fn : Fn) (first cap : Array Value) (w : World), (Instr.makeFunc fn first cap).run Try.prog w = .ok (.func fn first cap) w := fun _ _ _ _ => rfl
 have hu := Try.underlying74
 have hu2 := Try.underlying38
 have hu3 := Try.underlying77
 clear hs hf
 go_enter Try.func70, Try.ntmps70
 go_wp2_with (first | ((with_reducible refine gate_callee (f := 105) rfl ?_); refine goesL_ (some 7) rfl rfl Try.func105 (by kernel_rfl) rfl #[.pointer (some ⟨b, 0, none⟩)] rfl (by simp only [List.map_toArray, List.map_cons, List.map_nil]; rfl) ?_; refine HD.out.mono ?_; rintro e wc ⟨v, rfl, hr, hb⟩; refine ⟨_, rfl, ?_⟩; obtain ⟨B1, d1, rfl, hc, kA⟩ := made_row hr; have HBw := Aside0.mk hb; have HA1 := Aside0.mk kA; have HE := Aside0.mk (Fr.new wc); clear hr hb hc kA) | ((with_reducible refine gate_dst (N := 3) rfl ?_); refine fr_box HE (N := 3) rfl rfl (cs := #[.slice none 0 0]) (t := 29) ?hr ?_; (case hr => first | (go_simp; done) | (go_simp; rfl)); intro h w3 gh HE; have yh := HE.out.c0; have fh := blk_frozen (HE.out.blk 0 rfl) 0) | ((with_reducible refine gate_store (t := 29) (p := 3) rfl ?_); refine fr_store HE gh rfl rfl rfl 0 (.slice B1 p.length d1) ?hr ?_; (case hr => first | (go_simp; done) | (go_simp; rfl)); intro w4 HE; have yh := HE.out.c0) | ((with_reducible refine gate_callee (f := 103) rfl ?_); refine goesL_ (some 9) rfl rfl Try.func103 (by kernel_rfl) rfl #[.slice B1 p.length d1] rfl (by simp only [List.map_toArray, List.map_cons, List.map_nil]; rfl) ?_; have hC := clone_calls B1 d1 (bl p.length g.Delay) _ (by rw [bl_len]; exact hpos) (by rw [bl_len]; omega) (by rw [bl_len]; exact Kd.C_below HA1.out HE.out.below); rw [bl_len] at hC; refine hC.mono ?_; rintro e w2 ⟨v1, rfl, ho, hb⟩; refine ⟨_, rfl, ?_⟩; obtain ⟨go, cp, rfl, hg1, hg2, hg3⟩ := Kd.R_form ho (by rw [bl_len]; exact hpos); have HO := Aside0.mk ho; have HB3 := Aside0.mk hb; clear hb ho hg2 hg3 hC; rw [bl_len]))
 have HBd := Aside0.mk (below_step HBw.out HE.out.below)
 have HSc := Aside0.mk (HS.out.below HBd.out)
 have KX := Aside0.mk (HE.out.blk 0 rfl)
 have HA0 := Aside0.mk (Kd.C_below HA1.out HE.out.below)
 clear HD HS HE HA1 HBw yh fh
 obtain ⟨wc, rfl⟩ : ∃ wc : World, wc = w4 := ⟨_, rfl⟩
 have HA : Aside0 (∀ w1, Below wc.heap.size wc w1 → ∀ (i : Nat), i < p.length → ∀ (AL : Option Addr) (cL : Nat), Kd.C (Kd.int .i64) w1 AL (g.next i).length (ints (g.next i)) → Calls Try.prog 97 #[.slice AL (g.next i).length cL, .func (.func 106) #[] #[.pointer (some ⟨h, 0, none⟩)]] w1 fun e w' => e = .returned (.bool (yes (∀ u, u ∈ g.next i → g.Delay u))) ∧ Below w1.heap.size w1 w') :=
  ⟨fun w1 hb1 i hi AL cL kL => all_calls _ _ AL cL _ w1 kL (Nat.le_trans (HF.out.two i hi) (by decide)) fun w2 hb2 k hk => ⟨_, _, _, rfl, Try.func106, by kernel_rfl, rfl,
   (h_late1 HF.out ((HSc.out.below hb1).below hb2) (blk_below (blk_below KX.out hb1) hb2) (Kd.C_below (Kd.C_below HA0.out hb1) hb2) k (HF.out.lt i hi k hk)).mono fun e w3 h => ⟨h.1.trans (by rw [yes_congr]; rw [on_bl]; exact ⟨fun q => q.2, fun q => ⟨HF.out.lt i hi k hk, q⟩⟩), h.2⟩⟩⟩
 go_loopg [12] p.length (fun kq v12 w' => ∃ (l : List Bool) (i : Nat), v12 = .int .i64 (i : Int) ∧ Aside0 (i + kq = p.length ∧ Way p.length g.Late g.Delay i l) ∧ Aside0 (Kd.R Kd.bool 4 w' wc.heap.size (fun _ => True) (.slice (some ⟨go, 0, none⟩) p.length cp) l) ∧ Aside0 (Below wc.heap.size wc w'))
 case atStart => exact ⟨_, 0, rfl, ⟨by omega, Way.start _ _ _⟩, (by have h := HO; rw [bl_len] at h; exact h), HB3⟩
 case round =>
  clear HO HB3
  obtain ⟨l, i, rfl, HW, HO, HB3⟩ := hrel
  have hin : i ≤ p.length := by have := HW.out.1; omega
  by_cases hi : i < p.length
  ·have hl := HW.out.2.1
   have HK : Aside0 (gk - 1 < gk) := ⟨by have := HW.out.1; omega⟩
   obtain ⟨hy, hfz⟩ := Kd.R_celln false HO.out (i : Int) (by omega) (by omega)
   simp only [Int.toNat_natCast] at hy hfz
   have hon : rdOf false l (i : Int) = true ↔ g.Delay i := (on_rd (by omega)).trans (HW.out.2.at_ hi)
   generalize rdOf false l (i : Int) = rl at hy hon
   have HS2 := Aside0.mk (HSc.out.below HB3.out)
   obtain ⟨aL, AL, cL, eL, zL, kL⟩ := at_next HF.out HS2.out.steps i hi
   subst eL
   obtain ⟨aC, rC, eC, zC, qC⟩ := at_bl HS2.out.comp i hi
   subst eC
   have zb := blk_cell HS2.out.blk
   have HA2 := Aside0.mk (HA.out _ HB3.out i hi AL cL kL)
   have qA := yes_iff (P := ∀ u, u ∈ g.next i → g.Delay u)
   generalize yes (∀ u, u ∈ g.next i → g.Delay u) = rA at HA2 qA
   have hE : (rl && (rC || !rA)) = true ↔ g.Late i := by
    unfold G.Late
    rw [← hon, ← qC, show (∃ n, n ∈ g.next i ∧ ¬ g.Delay n) ↔ ¬ (rA = true) from by rw [qA]; exact ⟨fun ⟨u, h1, h2⟩ h3 => h2 (h3 u h1), fun h => Classical.byContradiction fun c => h fun u hu => Classical.byContradiction fun d => c ⟨u, hu, d⟩⟩]
    simp
   have HW2 := Aside0.mk (HW.out.2.step hi hE)
   have HN : Aside0 (i + 1 + (gk - 1) = p.length) := ⟨by have := HW.out.1; omega⟩
   have hi0 : 0 ≤ (i : Int) := by omega
   have hi1 : (i : Int) < (p.length : Int) := by omega
   clear hon qC qA hE HW kL hl
   cases rl <;> cases rC <;> (
    go_wp2_with (first | ((with_reducible refine gate_callee (f := 97) rfl ?_); (try (refine gate_guard (by rfl) ?_; dsimp only)); refine goesL_ (some 40) rfl rfl Try.func97 (by kernel_rfl) rfl #[.slice AL (g.next i).length cL, .func (.func 106) #[] #[.pointer (some ⟨h, 0, none⟩)]] rfl (by simp only [List.map_toArray, List.map_cons, List.map_nil]; rfl) ?_; refine HA2.out.mono ?_; rintro e w3 ⟨rfl, hb⟩; refine ⟨_, rfl, ?_⟩; have n1 := Aside0.mk (below_step HB3.out hb); have n2 := Aside0.mk (Kd.R_below HO.out hb); clear hb HB3 HO; have HB3 := n1; have HO := n2; clear n1 n2; obtain ⟨hy2, hfz2⟩ := Kd.R_celln false HO.out (i : Int) hi0 hi1; simp only [Int.toNat_natCast] at hy2 hfz2) | ((with_reducible refine gate_store (t := 4) (p := 44) rfl ?_); refine row_store HO HB3 hg1 rfl rfl rfl i false ?hr ?_; (case hr => first | (go_simp; done) | (go_simp; rfl)); intro w4 HO3 HB4) | ((with_reducible refine gate_store (t := 4) (p := 44) rfl ?_); refine row_store HO HB3 hg1 rfl rfl rfl i true ?hr ?_; (case hr => first | (go_simp; done) | (go_simp; rfl)); intro w4 HO3 HB4) | ((with_reducible refine gate_store (t := 4) (p := 44) rfl ?_); refine row_store HO HB3 hg1 rfl rfl rfl i (!rA) ?hr ?_; (case hr => first | (go_simp; done) | (go_simp; rfl)); intro w4 HO3 HB4))
    go_roundg (gk - 1)
    case measure => exact HK.out
    case rel => exact ⟨_, i + 1, by go_num, ⟨HN.out, HW2.out⟩, HO3, HB4⟩)
  ·obtain rfl : p.length = i := by omega
   go_wp2
   go_ret
   exact ⟨_, rfl, by rw [← HW.out.2.done]; exact Kd.R_lower HO.out HBd.out.size, below_step HBd.out HB3.out⟩
theorem m_alone' (hf : Fit g p) (hs : Std g p w b A0 A1 A2 A3 A4 c0 c1 c2 c3 c4) : Calls Try.prog 72 #[.pointer (some ⟨b, 0, none⟩)] w (Made w p.length g.Alone) := m_alone hf hs fun w1 hb => m_late hf (hs.below hb)
end
def exOkB (e0 e1 e2 e3 e4 : Int) : Bool := inB e0 1 4 && (opOkB e1 e2 && opOkB e3 e4)
theorem implExprOk_eq (e0 e1 e2 e3 e4 : Int) : impl_ExprOk.f e0 e1 e2 e3 e4 = some (exOkB e0 e1 e2 e3 e4) := by
 unfold impl_ExprOk.f exOkB
 rw [impl_isOp_eq, impl_Opnd_ok_eq, impl_Opnd_ok_eq]
 cases inB e0 1 4 <;> cases opOkB e1 e2 <;> simp
def StudyMade (g : G) (p : List Stp) (A0 : Option Addr) (c0 : Nat) (w : World) (e : Ending) (w' : World) : Prop :=
 ∃ b A1 A2 A3 A4 c1 c2 c3 c4 m1 m2 m3, e = .returned (.tuple #[.pointer (some ⟨b, 0, none⟩), .bool true]) ∧ Std g p w' b A0 A1 A2 A3 A4 c0 c1 c2 c3 c4 ∧ w.heap.size ≤ b ∧ Below w.heap.size w w' ∧
  Kd.R Kd.bool 4 w' w.heap.size (Ages0 w.heap.size m1) (.slice A1 p.length c1) (bl p.length g.Reach) ∧ Kd.R Kd.bool 4 w' w.heap.size (Ages0 m2 m3) (.slice A3 p.length c3) (bl p.length g.comp) ∧ m1 ≤ m2 ∧ m3 ≤ b
section
variable {e0 e1 e2 e3 e4 : Int} {w : World} {p : List Stp} {A0 : Option Addr} {c0 : Nat}
theorem own_ages {w1 w2 w' : World} {n : Nat} {P : Nat → Prop} {v : Value} (h : Kd.R Kd.bool 4 w2 w1.heap.size (fun _ => True) v (bl n P)) (hb : Below w2.heap.size w2 w') (hb1 : Below w.heap.size w w1) :
  Kd.R Kd.bool 4 w' w.heap.size (Ages0 w1.heap.size w2.heap.size) v (bl n P) := Kd.R_lower (Kd.R_below (R_ages0 h) hb) hb1.size
theorem prl_len (g : G) (n : Nat) : (prl g n).length = n := by unfold prl; simp
theorem made_rows {w' : World} {n b : Nat} {g : G} {v : Value} (h : Kd.S (Kd.slice 3 (Kd.int .i64)) 32 w' b (fun _ => True) v (prl g n)) : ∃ A c, v = .slice A n c ∧ Kd.C (Kd.slice 3 (Kd.int .i64)) w' A n (prl g n) := by
 obtain ⟨A, c, rfl⟩ := Kd.S_slice h
 have h2 := Kd.S_reads' h
 rw [prl_len] at h2
 exact ⟨A, c, by rw [prl_len], h2.2.2⟩
set_option maxHeartbeats 16000000 in
set_option maxRecDepth 100000 in
theorem studyOf_ok (hp : progOkB p = true) (he : exOkB e0 e1 e2 e3 e4 = true) (hr : Kd.C k77 w A0 p.length p) (hc : p.length ≤ c0) :
  Calls Try.prog 50 #[.agg #[.slice A0 p.length c0], exV e0 e1 e2 e3 e4] w (StudyMade (gOf p e0 e1 e2 e3 e4) p A0 c0 w) := by
 have hf := fit_of hp e0 e1 e2 e3 e4
 obtain ⟨K1, q1⟩ := reach_ev hf
 obtain ⟨K2, q2⟩ := preds_ev hf
 have H1 : Aside0 (∀ w1, Below w.heap.size w w1 → Calls Try.prog 82 #[.agg #[.slice A0 p.length c0]] w1 fun e w' => e = .returned (.bool true) ∧ Below w1.heap.size w1 w') := ⟨fun w1 hb => impl_ProgOk.calls A0 c0 p true w1 (Kd.C_below hr hb) hc (by rw [implProgOk_eq, hp])⟩
 have H2 : Aside0 (∀ w1, Calls Try.prog 83 #[exV e0 e1 e2 e3 e4] w1 fun e w' => e = .returned (.bool true) ∧ Below w1.heap.size w1 w') := ⟨fun w1 => impl_ExprOk.calls _ _ _ _ _ true w1 (by rw [implExprOk_eq, he])⟩
 have H3 : Aside0 (∀ w1, Below w.heap.size w w1 → Calls Try.prog 84 #[.agg #[.slice A0 p.length c0]] w1 fun e w' => ∃ v : Value, e = .returned v ∧ Kd.R Kd.bool 4 w' w1.heap.size (fun _ => True) v (bl p.length (gOf p e0 e1 e2 e3 e4).Reach) ∧ Below w1.heap.size w1 w') :=
  ⟨fun w1 hb => impl_Prog_reach.calls K1 A0 c0 p _ w1 (Kd.C_below hr hb) hc (q1 K1 (Nat.le_refl _))⟩
 have H4 : Aside0 (∀ w1, Below w.heap.size w w1 → Calls Try.prog 85 #[.agg #[.slice A0 p.length c0]] w1 fun e w' => ∃ v : Value, e = .returned v ∧ Kd.S (Kd.slice 3 (Kd.int .i64)) 32 w' w1.heap.size (fun _ => True) v (prl (gOf p e0 e1 e2 e3 e4) p.length) ∧ Below w1.heap.size w1 w') :=
  ⟨fun w1 hb => impl_Prog_preds.calls K2 A0 c0 p _ w1 (Kd.C_below hr hb) hc (q2 K2 (Nat.le_refl _))⟩
 have H5 : Aside0 (∀ w1, Below w.heap.size w w1 → Calls Try.prog 86 #[.agg #[.slice A0 p.length c0], exV e0 e1 e2 e3 e4] w1 fun e w' => ∃ v : Value, e = .returned v ∧ Kd.R Kd.bool 4 w' w1.heap.size (fun _ => True) v (bl p.length (gOf p e0 e1 e2 e3 e4).comp) ∧ Below w1.heap.size w1 w') :=
  ⟨fun w1 hb => by have h := comp_calls (w := w1) (e0 := e0) (e1 := e1) (e2 := e2) (e3 := e3) (e4 := e4) A0 c0 p (Kd.C_below hr hb) hf.few; rwa [map_comp] at h⟩
 have H6 : Aside0 (∀ w1, Below w.heap.size w w1 → Calls Try.prog 87 #[.agg #[.slice A0 p.length c0], exV e0 e1 e2 e3 e4] w1 fun e w' => ∃ v : Value, e = .returned v ∧ Kd.R Kd.bool 4 w' w1.heap.size (fun _ => True) v (bl p.length (gOf p e0 e1 e2 e3 e4).keeps) ∧ Below w1.heap.size w1 w') :=
  ⟨fun w1 hb => by have h := keeps_calls (w := w1) (e0 := e0) (e1 := e1) (e2 := e2) (e3 := e3) (e4 := e4) A0 c0 p (Kd.C_below hr hb) hf.few; rwa [map_keeps p e0 e1 e2 e3 e4] at h⟩
 have HR := Aside0.mk hr
 have HG : Aside0 True := ⟨trivial⟩
 generalize gOf p e0 e1 e2 e3 e4 = g at *
 have hu := Try.underlying38
 have hu2 := Try.underlying42
 have hu3 := Try.underlying40
 have hu4 := Try.underlying74
 have HB := Aside0.mk (Fr.new w)
 clear hr hc hp he hf q1 q2
 go_enter Try.func50, Try.ntmps50
 go_upto_region 3 with (first | ((with_reducible refine gate_dst (N := 2) rfl ?_); refine fr_box HB (N := 2) rfl rfl (cs := #[.slice A0 p.length c0]) (t := 38) ?hr ?_; (case hr => first | (go_simp; done) | (go_simp; rfl)); intro gb w1 _ HB; have y0 := HB.out.c0) | ((with_reducible refine gate_dst (N := 3) rfl ?_); refine fr_box HB (N := 3) rfl rfl (cs := #[.int .i64 e0, .int .i64 e1, .int .i64 e2, .int .i64 e3, .int .i64 e4]) (t := 42) ?hr ?_; (case hr => first | (go_simp; done) | (go_simp; rfl)); intro h w1 _ HB; have y0 := HB.out.c1; have y1 := HB.out.c0) | ((with_reducible refine gate_callee (f := 82) rfl ?_); refine goesL_ (some 7) rfl rfl Try.func82 (by kernel_rfl) rfl #[.agg #[.slice A0 p.length c0]] rfl (by simp only [List.map_toArray, List.map_cons, List.map_nil]; rfl) ?_; refine (H1.out _ HB.out.below).mono ?_; rintro e w2 ⟨rfl, hb⟩; refine ⟨_, rfl, ?_⟩; have HB := Aside0.mk (HB.out.step hb); have y0 := HB.out.c1; have y1 := HB.out.c0; clear hb) | ((with_reducible refine gate_callee (f := 83) rfl ?_); (try (refine gate_guard (by rfl) ?_; dsimp only)); refine goesL_ (some 11) rfl rfl Try.func83 (by kernel_rfl) rfl #[exV e0 e1 e2 e3 e4] rfl (by simp only [List.map_toArray, List.map_cons, List.map_nil]; rfl) ?_; refine (H2.out _).mono ?_; rintro e w2 ⟨rfl, hb⟩; refine ⟨_, rfl, ?_⟩; have HB := Aside0.mk (HB.out.step hb); have y0 := HB.out.c1; have y1 := HB.out.c0; clear hb))
 go_region_held3 (fun w' => w'.cell? ⟨gb, 0, none⟩ = some (.slice A0 p.length c0) ∧ w'.cell? ⟨h, 0, none⟩ = some (.int .i64 e0) ∧ w'.cell? ⟨h, 1, none⟩ = some (.int .i64 e1) ∧ w'.cell? ⟨h, 2, none⟩ = some (.int .i64 e2) ∧ w'.cell? ⟨h, 3, none⟩ = some (.int .i64 e3) ∧ w'.cell? ⟨h, 4, none⟩ = some (.int .i64 e4)) (first | exact ⟨(y0 0).trans rfl, (y1 0).trans rfl, (y1 1).trans rfl, (y1 2).trans rfl, (y1 3).trans rfl, (y1 4).trans rfl⟩ | exact ⟨((HB.out.alloc _).c1 0).trans rfl, ((HB.out.alloc _).c0 0).trans rfl, ((HB.out.alloc _).c0 1).trans rfl, ((HB.out.alloc _).c0 2).trans rfl, ((HB.out.alloc _).c0 3).trans rfl, ((HB.out.alloc _).c0 4).trans rfl⟩) (first | (go_at_call 84; have HX0 := Aside0.mk HB.out.drew1.below; refine (H3.out _ HB.out.drew1.below).mono ?_; rintro e wA ⟨v1, rfl, hr_, hb⟩; obtain ⟨A1, c1, rfl, _, k_⟩ := made_row hr_; have HKA := Aside0.mk k_; have HRA := Aside0.mk hr_; clear k_; have HYA := Aside0.mk hb; have HXA := Aside0.mk (below_step HB.out.drew1.below hb); have HB := Aside0.mk (HB.out.drew1.step hb); have y0 := HB.out.c1; have y1 := HB.out.c0; clear hr_ hb) | (go_at_call 85; refine (H4.out _ HXA.out).mono ?_; rintro e wB ⟨v2, rfl, hr_, hb⟩; obtain ⟨A2, c2, rfl, k_⟩ := made_rows hr_; have HKB := Aside0.mk k_; have HRB := Aside0.mk hr_; clear k_; have HYB := Aside0.mk hb; have HXB := Aside0.mk (below_step HXA.out hb); have HB := Aside0.mk (HB.out.step hb); have y0 := HB.out.c1; have y1 := HB.out.c0; clear hr_ hb) | (go_at_call 86; refine (H5.out _ HXB.out).mono ?_; rintro e wC ⟨v3, rfl, hr_, hb⟩; obtain ⟨A3, c3, rfl, _, k_⟩ := made_row hr_; have HKC := Aside0.mk k_; have HRC := Aside0.mk hr_; clear k_; have HYC := Aside0.mk hb; have HXC := Aside0.mk (below_step HXB.out hb); have HB := Aside0.mk (HB.out.step hb); have y0 := HB.out.c1; have y1 := HB.out.c0; clear hr_ hb) | (go_at_call 87; refine (H6.out _ HXC.out).mono ?_; rintro e wD ⟨v4, rfl, hr_, hb⟩; obtain ⟨A4, c4, rfl, _, k_⟩ := made_row hr_; have HKD := Aside0.mk k_; have HRD := Aside0.mk hr_; clear k_; have HYD := Aside0.mk hb; have HXD := Aside0.mk (below_step HXC.out hb); have HB := Aside0.mk (HB.out.step hb); have y0 := HB.out.c1; have y1 := HB.out.c0; clear hr_ hb))
 go_wp2
 go_ret2
 have hZ := below_alloc (Below.refl wD.heap.size wD) (.cells #[.slice A0 p.length c0, .slice A1 p.length c1, .slice A2 p.length c2, .slice A3 p.length c3, .slice A4 p.length c4] 74 (0, 0))
 have hC := below_step HYD.out hZ
 have hB := below_step HYC.out hC
 have hA := below_step HYB.out hB
 exact ⟨wD.heap.size, A1, A2, A3, A4, c1, c2, c3, c4, wA.heap.size, wB.heap.size, wC.heap.size, rfl, ⟨blk_new _ _, Kd.C_below HR.out (below_step HXD.out hZ), Kd.C_below HKA.out hA, Kd.C_below HKB.out hB, Kd.C_below HKC.out hC, Kd.C_below HKD.out hZ⟩, HXD.out.size, below_step HXD.out hZ,
  Kd.R_mono (Kd.R_lower (Kd.R_below (R_ages0 HRA.out) hA) HX0.out.size) (fun k hk => ⟨Nat.le_trans HX0.out.size hk.1, hk.2⟩), own_ages HRC.out hC HXB.out, HYB.out.size, HYD.out.size⟩
set_option maxHeartbeats 16000000 in
set_option maxRecDepth 100000 in
theorem studyOf_no (hn : (progOkB p && exOkB e0 e1 e2 e3 e4) = false) (hr : Kd.C k77 w A0 p.length p) (hc : p.length ≤ c0) :
  Calls Try.prog 50 #[.agg #[.slice A0 p.length c0], exV e0 e1 e2 e3 e4] w fun e w' => e = .returned (.tuple #[.pointer none, .bool false]) ∧ Below w.heap.size w w' := by
 have H1 : Aside0 (∀ w1, Below w.heap.size w w1 → Calls Try.prog 82 #[.agg #[.slice A0 p.length c0]] w1 fun e w' => e = .returned (.bool (progOkB p)) ∧ Below w1.heap.size w1 w') := ⟨fun w1 hb => impl_ProgOk.calls A0 c0 p _ w1 (Kd.C_below hr hb) hc (implProgOk_eq p)⟩
 have H2 : Aside0 (∀ w1, Calls Try.prog 83 #[exV e0 e1 e2 e3 e4] w1 fun e w' => e = .returned (.bool (exOkB e0 e1 e2 e3 e4)) ∧ Below w1.heap.size w1 w') := ⟨fun w1 => impl_ExprOk.calls _ _ _ _ _ _ w1 (implExprOk_eq _ _ _ _ _)⟩
 generalize progOkB p = b1 at *
 generalize exOkB e0 e1 e2 e3 e4 = b2 at *
 have hu := Try.underlying38
 have hu2 := Try.underlying42
 have hu3 := Try.underlying40
 have HB := Aside0.mk (Fr.new w)
 clear hr hc
 cases b1 <;> cases b2 <;> first | (exact absurd hn (by decide)) | (
  clear hn
  go_enter Try.func50, Try.ntmps50
  go_wp2_with (first | ((with_reducible refine gate_dst (N := 2) rfl ?_); refine fr_box HB (N := 2) rfl rfl (cs := #[.slice A0 p.length c0]) (t := 38) ?hr ?_; (case hr => first | (go_simp; done) | (go_simp; rfl)); intro gb w1 _ HB; have y0 := HB.out.c0) | ((with_reducible refine gate_dst (N := 3) rfl ?_); refine fr_box HB (N := 3) rfl rfl (cs := #[.int .i64 e0, .int .i64 e1, .int .i64 e2, .int .i64 e3, .int .i64 e4]) (t := 42) ?hr ?_; (case hr => first | (go_simp; done) | (go_simp; rfl)); intro h w1 _ HB; have y0 := HB.out.c1; have y1 := HB.out.c0) | ((with_reducible refine gate_callee (f := 82) rfl ?_); refine goesL_ (some 7) rfl rfl Try.func82 (by kernel_rfl) rfl #[.agg #[.slice A0 p.length c0]] rfl (by simp only [List.map_toArray, List.map_cons, List.map_nil]; rfl) ?_; refine (H1.out _ HB.out.below).mono ?_; rintro e w2 ⟨rfl, hb⟩; refine ⟨_, rfl, ?_⟩; have HB := Aside0.mk (HB.out.step hb); have y0 := HB.out.c1; have y1 := HB.out.c0; clear hb) | ((with_reducible refine gate_callee (f := 83) rfl ?_); (try (refine gate_guard (by rfl) ?_; dsimp only)); refine goesL_ (some 11) rfl rfl Try.func83 (by kernel_rfl) rfl #[exV e0 e1 e2 e3 e4] rfl (by simp only [List.map_toArray, List.map_cons, List.map_nil]; rfl) ?_; refine (H2.out _).mono ?_; rintro e w2 ⟨rfl, hb⟩; refine ⟨_, rfl, ?_⟩; have HB := Aside0.mk (HB.out.step hb); have y0 := HB.out.c1; have y1 := HB.out.c0; clear hb))
  go_ret2
  exact ⟨rfl, HB.out.below⟩)
end
noncomputable def safeL (P : G → Nat → Prop) (p : List Stp) (e0 e1 e2 e3 e4 : Int) : List Bool := if (progOkB p && exOkB e0 e1 e2 e3 e4) = true then bl p.length (P (gOf p e0 e1 e2 e3 e4)) else []
def TellsS (P : G → Nat → Prop) (v : Value) : Prop := ∀ (g : G) (p : List Stp) (w : World) (b : Nat) (A0 A1 A2 A3 A4 : Option Addr) (c0 c1 c2 c3 c4 : Nat), Fit g p → Std g p w b A0 A1 A2 A3 A4 c0 c1 c2 c3 c4 → CallsV Try.prog v #[.pointer (some ⟨b, 0, none⟩)] w (Made w p.length (P g))
section
variable {e0 e1 e2 e3 e4 : Int} {w : World} {p : List Stp} {A0 : Option Addr} {c0 : Nat}
set_option maxHeartbeats 16000000 in
set_option maxRecDepth 100000 in
theorem studied_calls (P : G → Nat → Prop) (F : FuncId) (hv : TellsS P (.func (.func F) #[] #[])) (hr : Kd.C k77 w A0 p.length p) (hc : p.length ≤ c0) :
  Calls Try.prog 69 #[.agg #[.slice A0 p.length c0], exV e0 e1 e2 e3 e4, .func (.func F) #[] #[]] w fun e w' => ∃ v : Value, e = .returned v ∧ Kd.R Kd.bool 4 w' w.heap.size (fun _ => True) v (safeL P p e0 e1 e2 e3 e4) ∧ Below w.heap.size w w' := by
 unfold safeL
 cases hok : (progOkB p && exOkB e0 e1 e2 e3 e4) with
 | true =>
  have hp : progOkB p = true := (Bool.and_eq_true _ _ ▸ hok : _ ∧ _).1
  have he : exOkB e0 e1 e2 e3 e4 = true := (Bool.and_eq_true _ _ ▸ hok : _ ∧ _).2
  have HS : Aside0 (∀ w1, Below w.heap.size w w1 → Calls Try.prog 50 #[.agg #[.slice A0 p.length c0], exV e0 e1 e2 e3 e4] w1 (StudyMade (gOf p e0 e1 e2 e3 e4) p A0 c0 w1)) := ⟨fun w1 hb => studyOf_ok hp he (Kd.C_below hr hb) hc⟩
  have HF := Aside0.mk (fit_of hp e0 e1 e2 e3 e4)
  have HV := Aside0.mk hv
  rw [if_pos rfl]
  have hu := Try.underlying38
  have hu2 := Try.underlying42
  have hu3 := Try.underlying40
  have HB := Aside0.mk (Fr.new w)
  clear hok hp he hr hc hv
  go_enter Try.func69, Try.ntmps69
  go_wp2_with (first | ((with_reducible refine gate_dst (N := 3) rfl ?_); refine fr_box HB (N := 3) rfl rfl (cs := #[.slice A0 p.length c0]) (t := 38) ?hr ?_; (case hr => first | (go_simp; done) | (go_simp; rfl)); intro gb w1 _ HB; have y0 := HB.out.c0) | ((with_reducible refine gate_dst (N := 4) rfl ?_); refine fr_box HB (N := 4) rfl rfl (cs := #[.int .i64 e0, .int .i64 e1, .int .i64 e2, .int .i64 e3, .int .i64 e4]) (t := 42) ?hr ?_; (case hr => first | (go_simp; done) | (go_simp; rfl)); intro h w1 _ HB; have y0 := HB.out.c1; have y1 := HB.out.c0) | ((with_reducible refine gate_callee (f := 50) rfl ?_); refine goesL_ (some 12) rfl rfl Try.func50 (by kernel_rfl) rfl #[.agg #[.slice A0 p.length c0], exV e0 e1 e2 e3 e4] rfl (by simp only [List.map_toArray, List.map_cons, List.map_nil]; rfl) ?_; refine (HS.out _ HB.out.below).mono ?_; rintro e w2 ⟨b, A1, A2, A3, A4, c1, c2, c3, c4, m1, m2, m3, rfl, hs, _, hb, _⟩; refine ⟨_, rfl, ?_⟩; have HB2 := Aside0.mk (below_step HB.out.below hb); have HD := Aside0.mk hs; clear hs hb) | ((with_reducible refine gate_value (x := 17) rfl ?_); refine goesV_ (some 19) rfl rfl (.func (.func F) #[] #[]) #[.pointer (some ⟨b, 0, none⟩)] rfl rfl (by simp only [List.map_toArray, List.map_cons, List.map_nil]; rfl) ?_; refine (HV.out _ _ _ _ _ _ _ _ _ _ _ _ _ _ HF.out HD.out).mono ?_; rintro e w3 hm; obtain ⟨v, rfl, hr_, hb⟩ := hm.lower HB2.out; refine ⟨_, rfl, ?_⟩; have HM := Aside0.mk hr_; have HB3 := Aside0.mk hb; clear hr_ hb hm))
  go_ret
  exact ⟨_, rfl, HM.out, HB3.out⟩
 | false =>
  have HS : Aside0 (∀ w1, Below w.heap.size w w1 → Calls Try.prog 50 #[.agg #[.slice A0 p.length c0], exV e0 e1 e2 e3 e4] w1 fun e w' => e = .returned (.tuple #[.pointer none, .bool false]) ∧ Below w1.heap.size w1 w') := ⟨fun w1 hb => studyOf_no hok (Kd.C_below hr hb) hc⟩
  rw [if_neg (by decide)]
  have hu := Try.underlying38
  have hu2 := Try.underlying42
  have hu3 := Try.underlying40
  have HB := Aside0.mk (Fr.new w)
  clear hok hr hc hv
  go_enter Try.func69, Try.ntmps69
  go_wp2_with (first | ((with_reducible refine gate_dst (N := 3) rfl ?_); refine fr_box HB (N := 3) rfl rfl (cs := #[.slice A0 p.length c0]) (t := 38) ?hr ?_; (case hr => first | (go_simp; done) | (go_simp; rfl)); intro gb w1 _ HB; have y0 := HB.out.c0) | ((with_reducible refine gate_dst (N := 4) rfl ?_); refine fr_box HB (N := 4) rfl rfl (cs := #[.int .i64 e0, .int .i64 e1, .int .i64 e2, .int .i64 e3, .int .i64 e4]) (t := 42) ?hr ?_; (case hr => first | (go_simp; done) | (go_simp; rfl)); intro h w1 _ HB; have y0 := HB.out.c1; have y1 := HB.out.c0) | ((with_reducible refine gate_callee (f := 50) rfl ?_); refine goesL_ (some 12) rfl rfl Try.func50 (by kernel_rfl) rfl #[.agg #[.slice A0 p.length c0], exV e0 e1 e2 e3 e4] rfl (by simp only [List.map_toArray, List.map_cons, List.map_nil]; rfl) ?_; refine (HS.out _ HB.out.below).mono ?_; rintro e w2 ⟨rfl, hb⟩; refine ⟨_, rfl, ?_⟩; have HB2 := Aside0.mk (below_step HB.out.below hb); clear hb))
  go_ret
  exact ⟨_, rfl, Kd.R_nil _ _ _ _ _, HB2.out⟩
end
end Go.Proofs.Ytcgbbhkjkkpfoaa.P
namespace Go.Proofs.Ytcgbbhkjkkpfoaa.P
open Go.RowKit Go.Proofs.YtcgbbhkjkkpfoaaW.PrintWords Go.Proofs.YtcgbbhkjkkpfoaaW.PrintLast Go.Proofs.YtcgbbhkjkkpfoaaW.PrintMore
attribute [local go_sem] max2_int min2_int max_two min_two max_three min_three max_four min_four
set_option linter.unusedVariables false
set_option linter.unusedSimpArgs false
def laws_toExpr.f (a0_0 : Int) (a0_1 : Int) (a0_2 : Int) (a0_3 : Int) (a0_4 : Int) : Option (Int × Int × Int × Int × Int) := (laws_toOpnd.f a0_1 a0_2).bind fun bt235 => ((laws_toOpnd.f a0_3 a0_4).bind fun bt237 => (some (a0_0, bt235.1, bt235.2, bt237.1, bt237.2)))
set_option maxHeartbeats 8000000 in
set_option maxRecDepth 100000 in
theorem laws_toExpr.calls (a0_0 : Int) (a0_1 : Int) (a0_2 : Int) (a0_3 : Int) (a0_4 : Int) (r1 : Int) (r2 : Int) (r3 : Int) (r4 : Int) (r5 : Int) (w : World) (h : laws_toExpr.f a0_0 a0_1 a0_2 a0_3 a0_4 = some (r1, r2, r3, r4, r5)) :
  Calls Try.prog 15 #[.agg #[.int .i64 a0_0, .int .i64 a0_1, .int .i64 a0_2, .int .i64 a0_3, .int .i64 a0_4]] w fun e w' => e = .returned (.agg #[.int .i64 r1, .int .i64 r2, .int .i64 r3, .int .i64 r4, .int .i64 r5]) ∧ Below w.heap.size w w' := by
 have hu28 := Try.underlying28
 have hu42 := Try.underlying42
 have hu26 := Try.underlying26
 have hu40 := Try.underlying40
 have HB := Aside0.mk (Below.refl w.heap.size w)
 have H : ((laws_toOpnd.f a0_1 a0_2).bind fun bt235 => ((laws_toOpnd.f a0_3 a0_4).bind fun bt237 => (some (a0_0, bt235.1, bt235.2, bt237.1, bt237.2)))) = some (r1, r2, r3, r4, r5) := h
 clear h
 replace H := Option.bind_eq_some_iff.mp H
 obtain ⟨⟨t235, t236⟩, A20, H⟩ := H
 have A2 := Aside0.mk A20
 clear A20
 replace H := Option.bind_eq_some_iff.mp H
 obtain ⟨⟨t237, t238⟩, A30, H⟩ := H
 have A3 := Aside0.mk A30
 clear A30
 simp only [Option.some.injEq, Prod.mk.injEq] at H
 obtain ⟨rfl, rfl, rfl, rfl, rfl⟩ := H
 go_enter Try.func15, Try.ntmps15
 go_wp2_with (first | ((with_reducible refine gate_dst (N := 1) rfl ?_); refine bxe (cs := #[.int .i64 a0_0, .int .i64 a0_1, .int .i64 a0_2, .int .i64 a0_3, .int .i64 a0_4]) (t := 28) ?_; intro gb232 hg w4 hbox hb; have BK232 := Aside0.mk (hbox); have GW232 := bwz HB hg; have GE232 := bwz HB hg; replace HB := bwb HB hb; clear hb hbox hg) | ((with_reducible refine gate_dst (N := 2) rfl ?_); refine bxe (cs := #[.int .i64 0, .int .i64 0, .int .i64 0, .int .i64 0, .int .i64 0]) (t := 42) ?_; intro gb233 hg w5 hbox hb; have BK233 := Aside0.mk (hbox); have GW233 := bwz HB hg; have GE233 := bwz HB hg; replace HB := bwb HB hb; have NB232_233 := bkl BK232 hg; have NB233_232 := bkg BK232 hg; replace BK232 := bkb BK232 hb; clear hb hbox hg) | ((with_reducible refine gate_dst (N := 3) rfl ?_); refine bxe (cs := #[.int .i64 0, .int .i64 0, .int .i64 0, .int .i64 0, .int .i64 0]) (t := 42) ?_; intro gb234 hg w6 hbox hb; have BK234 := Aside0.mk (hbox); have GW234 := bwz HB hg; have GE234 := bwz HB hg; replace HB := bwb HB hb; have NB232_234 := bkl BK232 hg; have NB234_232 := bkg BK232 hg; replace BK232 := bkb BK232 hb; have NB233_234 := bkl BK233 hg; have NB234_233 := bkg BK233 hg; replace BK233 := bkb BK233 hb; clear hb hbox hg; have hnb7 := NB232_233.out; have hnc7 := NB233_232.out; have hnb8 := NB232_234.out; have hnc8 := NB234_232.out; obtain ⟨hcz9, hfz9⟩ := bcf BK232; have hnb10 := NB234_233.out; have hnc10 := NB233_234.out; obtain ⟨hcz11, hfz11⟩ := bcf BK234) | ((with_reducible refine gate_callee (f := 48) rfl ?_); refine goesM (some 9) rfl rfl Try.func48 #[.agg #[.int .i64 a0_1, .int .i64 a0_2]] rfl ?_; (with_reducible refine (laws_toOpnd.calls a0_1 a0_2 t235 t236 _ A2.out).mono ?_); rintro e w12 ⟨rfl, hb⟩; refine ⟨_, rfl, ?_⟩; replace BK232 := Aside0.mk (blk_below (g := gb232) (o := .cells #[.int .i64 a0_0, .int .i64 a0_1, .int .i64 a0_2, .int .i64 a0_3, .int .i64 a0_4] 28 (0, 0)) (by (with_reducible repeat (first | refine blk_drewN ?_ _ | refine blk_drew ?_ | refine blk_alloc ?_ _)); refine blk_far ?_ NB232_234.out _; exact bkq BK232) hb); replace BK233 := Aside0.mk (blk_below (g := gb233) (o := .cells #[.int .i64 0, .int .i64 0, .int .i64 0, .int .i64 0, .int .i64 0] 42 (0, 0)) (by (with_reducible repeat (first | refine blk_drewN ?_ _ | refine blk_drew ?_ | refine blk_alloc ?_ _)); refine blk_far ?_ NB233_234.out _; exact bkq BK233) hb); replace BK234 := Aside0.mk (blk_below (g := gb234) (o := .cells #[.int .i64 a0_0, .int .i64 0, .int .i64 0, .int .i64 0, .int .i64 0] 42 (0, 0)) (by (with_reducible repeat (first | refine blk_drewN ?_ _ | refine blk_drew ?_ | refine blk_alloc ?_ _)); refine blk_put (cs := #[.int .i64 0, .int .i64 0, .int .i64 0, .int .i64 0, .int .i64 0]) ?_ 0 _ rfl; exact bkq BK234) hb); replace HB := bwb HB hb; (try clear hb); (try clear hb2); (try clear hk); (try clear hi); obtain ⟨hcz13, hfz13⟩ := bcf BK234; obtain ⟨hcz14, hfz14⟩ := bcf BK232) | ((with_reducible refine gate_callee (f := 48) rfl ?_); refine goesM (some 13) rfl rfl Try.func48 #[.agg #[.int .i64 a0_3, .int .i64 a0_4]] rfl ?_; (with_reducible refine (laws_toOpnd.calls a0_3 a0_4 t237 t238 _ A3.out).mono ?_); rintro e w15 ⟨rfl, hb⟩; refine ⟨_, rfl, ?_⟩; replace BK232 := Aside0.mk (blk_below (g := gb232) (o := .cells #[.int .i64 a0_0, .int .i64 a0_1, .int .i64 a0_2, .int .i64 a0_3, .int .i64 a0_4] 28 (0, 0)) (by (with_reducible repeat (first | refine blk_drewN ?_ _ | refine blk_drew ?_ | refine blk_alloc ?_ _)); refine blk_far ?_ NB232_234.out _; (with_reducible repeat (first | refine blk_drewN ?_ _ | refine blk_drew ?_ | refine blk_alloc ?_ _)); refine blk_far ?_ NB232_234.out _; exact bkq BK232) hb); replace BK233 := Aside0.mk (blk_below (g := gb233) (o := .cells #[.int .i64 0, .int .i64 0, .int .i64 0, .int .i64 0, .int .i64 0] 42 (0, 0)) (by (with_reducible repeat (first | refine blk_drewN ?_ _ | refine blk_drew ?_ | refine blk_alloc ?_ _)); refine blk_far ?_ NB233_234.out _; (with_reducible repeat (first | refine blk_drewN ?_ _ | refine blk_drew ?_ | refine blk_alloc ?_ _)); refine blk_far ?_ NB233_234.out _; exact bkq BK233) hb); replace BK234 := Aside0.mk (blk_below (g := gb234) (o := .cells #[.int .i64 a0_0, .int .i64 t235, .int .i64 t236, .int .i64 0, .int .i64 0] 42 (0, 0)) (by (with_reducible repeat (first | refine blk_drewN ?_ _ | refine blk_drew ?_ | refine blk_alloc ?_ _)); refine blk_put (cs := #[.int .i64 a0_0, .int .i64 t235, .int .i64 0, .int .i64 0, .int .i64 0]) ?_ 2 _ rfl; (with_reducible repeat (first | refine blk_drewN ?_ _ | refine blk_drew ?_ | refine blk_alloc ?_ _)); refine blk_put (cs := #[.int .i64 a0_0, .int .i64 0, .int .i64 0, .int .i64 0, .int .i64 0]) ?_ 1 _ rfl; exact bkq BK234) hb); replace HB := bwb HB hb; (try clear hb); (try clear hb2); (try clear hk); (try clear hi); obtain ⟨hcz16, hfz16⟩ := bcf BK234; obtain ⟨hcz17, hfz17⟩ := bcf BK233))
 refine bodyPost_ret (results_cell_row rfl _ _ gb233 42 #[.int .i64 a0_0, .int .i64 t235, .int .i64 t236, .int .i64 t237, .int .i64 t238] (0, 0) _ rfl (by (with_reducible repeat (first | refine blk_drewN ?_ _ | refine blk_drew ?_ | refine blk_alloc ?_ _)); refine blk_put (cs := #[.int .i64 a0_0, .int .i64 t235, .int .i64 t236, .int .i64 t237, .int .i64 0]) ?_ 4 _ rfl; (with_reducible repeat (first | refine blk_drewN ?_ _ | refine blk_drew ?_ | refine blk_alloc ?_ _)); refine blk_put (cs := #[.int .i64 a0_0, .int .i64 t235, .int .i64 t236, .int .i64 0, .int .i64 0]) ?_ 3 _ rfl; (with_reducible repeat (first | refine blk_drewN ?_ _ | refine blk_drew ?_ | refine blk_alloc ?_ _)); refine blk_put (cs := #[.int .i64 a0_0, .int .i64 t235, .int .i64 0, .int .i64 0, .int .i64 0]) ?_ 2 _ rfl; (with_reducible repeat (first | refine blk_drewN ?_ _ | refine blk_drew ?_ | refine blk_alloc ?_ _)); refine blk_put (cs := #[.int .i64 a0_0, .int .i64 0, .int .i64 0, .int .i64 0, .int .i64 0]) ?_ 1 _ rfl; (with_reducible repeat (first | refine blk_drewN ?_ _ | refine blk_drew ?_ | refine blk_alloc ?_ _)); refine blk_put (cs := #[.int .i64 0, .int .i64 0, .int .i64 0, .int .i64 0, .int .i64 0]) ?_ 0 _ rfl; (with_reducible repeat (first | refine blk_drewN ?_ _ | refine blk_drew ?_ | refine blk_alloc ?_ _)); refine blk_far ?_ NB233_234.out _; (with_reducible repeat (first | refine blk_drewN ?_ _ | refine blk_drew ?_ | refine blk_alloc ?_ _)); refine blk_far ?_ NB233_234.out _; exact bkq BK233) Try.underlying42 rfl (by kernel_rfl)) rfl ?_
 exact ⟨by first | rfl | (simp [errW_none, errW_some] <;> rfl) | (simp [*, errW_none, errW_some] <;> rfl), bwq HB⟩
def laws_heldBoolS.l0 : Nat → List Bool → Int → Int → Option (Int)
 | 0, _, _, _ => none
 | k + 1, x0, x1, x5 => if x5 < (x0.length : Int) then (if 0 ≤ x5 then (if ((rdOf false x0 x5) != ((Int.tmod x1 3) == 0)) = true then (some (-1)) else (laws_heldBoolS.l0 k x0 (wrap64 (x1 + 1)) (wrap64 (x5 + 1)))) else (none)) else (some x1)
def laws_heldBoolS.f (k : Nat) (l0 : List Bool) (a1 : Int) : Option (Int) := laws_heldBoolS.l0 k l0 a1 0
set_option maxHeartbeats 8000000 in
set_option maxRecDepth 100000 in
theorem laws_heldBoolS.calls (k : Nat) (A0 : Option Addr) (c0 : Nat) (l0 : List Bool) (a1 : Int) (r : Int) (w : World) (hr0 : Kd.C Kd.bool w A0 l0.length l0) (hc0 : l0.length ≤ c0) (h : laws_heldBoolS.f k l0 a1 = some r) :
  Calls Try.prog 28 #[.slice A0 l0.length c0, .int .i64 a1] w fun e w' => e = .returned (.int .i64 r) ∧ Drawn0 w w' := by
 have HR0 := Aside0.mk hr0
 have HC0 := Aside0.mk hc0
 clear hr0 hc0
 have H : (laws_heldBoolS.l0 k l0 a1 0) = some r := h
 clear h
 have H' := Aside0.mk H
 clear H
 go_enter Try.func28, Try.ntmps28
 go_wp2
 go_loopg [1, 5] k (fun kq v1 v5 w' => ∃ (x1_1 : Int) (x5_1 : Int), v1 = .int .i64 x1_1 ∧ v5 = .int .i64 x5_1 ∧ Aside0 (laws_heldBoolS.l0 kq l0 x1_1 x5_1 = some r) ∧ Aside0 (kq ≤ k) ∧ Drawn0 w w')
 case atStart => exact ⟨(a1), (0), (by first | rfl | (simp; done) | (simp [*]; done)), (by first | rfl | (simp; done) | (simp [*]; done)), H', ⟨Nat.le_refl _⟩, by repeat (first | exact Drawn0.refl _ | apply Drawn0.step)⟩
 case round =>
  clear H'
  try clear c2
  try clear p2
  obtain ⟨x1_1, x5_1, rfl, rfl, HA, HK1, ⟨m1, rfl⟩⟩ := hrel
  cases gk with
  | zero => exact absurd HA.out (by intro h_; first | (cases h_; done) | (simp [laws_heldBoolS.l0] at h_))
  | succ k1 =>
   have H := HA.out
   clear HA
   simp only [laws_heldBoolS.l0] at H
   by_cases c3 : x5_1 < (l0.length : Int)
   ·rw [if_pos c3] at H
    have c3b0 : decide (x5_1 < (l0.length : Int)) = true := decide_eq_true c3
    clear c3
    by_cases c4 : 0 ≤ x5_1
    ·rw [if_pos c4] at H
     have c4b0 : decide (0 ≤ x5_1) = true := decide_eq_true c4
     clear c4
     by_cases c5 : ((rdOf false l0 x5_1) != ((Int.tmod x1_1 3) == 0)) = true
     ·rw [if_pos c5] at H
      have c5b0 : ((rdOf false l0 x5_1) != ((Int.tmod x1_1 3) == 0)) = true := c5
      (try (have c5b1 : decide ((rdOf false l0 x5_1) = ((Int.tmod x1_1 3) == 0)) = false := by simpa using c5))
      (try (have c5b2 : ((rdOf false l0 x5_1) == ((Int.tmod x1_1 3) == 0)) = false := by simpa using c5))
      (try (have c5b3 : ¬ ((rdOf false l0 x5_1) = ((Int.tmod x1_1 3) == 0)) := by simpa using c5))
      clear c5
      obtain rfl := Option.some.inj H
      have p411 : 0 ≤ (x5_1 : Int) := oda
      have q411 : x5_1 < (l0.length : Int) := oda
      obtain ⟨ad411, e411, hx411_0⟩ := Kd.at_bool HR0.out x5_1 p411 q411
      cases e411
      replace p411 := eq_true p411
      replace q411 := eq_true q411
      go_wp2
      go_ret
      exact ⟨by first | rfl | (simp; done) | (simp [*]; done), by repeat (first | exact Drawn0.refl _ | apply Drawn0.step)⟩
     ·rw [if_neg c5] at H
      have c5b0 : ((rdOf false l0 x5_1) != ((Int.tmod x1_1 3) == 0)) = false := by simpa using c5
      (try (have c5b1 : decide ((rdOf false l0 x5_1) = ((Int.tmod x1_1 3) == 0)) = true := by simpa using c5))
      (try (have c5b2 : ((rdOf false l0 x5_1) == ((Int.tmod x1_1 3) == 0)) = true := by simpa using c5))
      clear c5
      have H' := Aside0.mk H
      clear H
      have p411 : 0 ≤ (x5_1 : Int) := oda
      have q411 : x5_1 < (l0.length : Int) := oda
      obtain ⟨ad411, e411, hx411_0⟩ := Kd.at_bool HR0.out x5_1 p411 q411
      cases e411
      replace p411 := eq_true p411
      replace q411 := eq_true q411
      go_wp2
      go_roundg k1
      case measure => have := HK1.out; omega
      case rel => exact ⟨(wrap64 (x1_1 + 1)), (wrap64 (x5_1 + 1)), (by first | rfl | (simp; done) | (simp [*]; done)), (by first | rfl | (simp; done) | (simp [*]; done)), H', ⟨by have := HK1.out; omega⟩, by repeat (first | exact Drawn0.refl _ | apply Drawn0.step)⟩
    ·rw [if_neg c4] at H
     exact absurd H (by simp)
   ·rw [if_neg c3] at H
    have c3b0 : decide (x5_1 < (l0.length : Int)) = false := decide_eq_false c3
    clear c3
    obtain rfl := Option.some.inj H
    go_wp2
    go_ret
    exact ⟨by first | rfl | (simp; done) | (simp [*]; done), by repeat (first | exact Drawn0.refl _ | apply Drawn0.step)⟩
end Go.Proofs.Ytcgbbhkjkkpfoaa.P
namespace Go.Proofs.Ytcgbbhkjkkpfoaa.P
open Go.RowKit Go.Proofs.YtcgbbhkjkkpfoaaW.PrintWords Go.Proofs.YtcgbbhkjkkpfoaaW.PrintLast Go.Proofs.YtcgbbhkjkkpfoaaW.PrintMore Lcm
theorem heldBools_len (k : Nat) (A : Option Addr) (c : Nat) (l : List Bool) (a r : Int) (w : World) (n : Nat) (hn : n = l.length) (h1 : n = l.length ∧ n ≤ c ∧ Kd.bool.C w A l.length l) (h : laws_heldBoolS.f k l a = some r) :
  Calls Try.prog 28 #[.slice A n c, .int .i64 a] w fun e w' => e = .returned (.int .i64 r) ∧ Drawn0 w w' := by
 subst hn
 exact laws_heldBoolS.calls k A c l a r w h1.2.2 h1.2.1 h
theorem toExpr_eq (e0 e1 e2 e3 e4 : Int) : laws_toExpr.f e0 e1 e2 e3 e4 = some (e0, e1, e2, e3, e4) := by unfold laws_toExpr.f laws_toOpnd.f; rfl
theorem toS_few {l0 : List LStp} (h : ∀ s, s ∈ l0 → s.f5.length ≤ 1048576) : ∀ s, s ∈ l0.map toS → s.f5.length ≤ 1048576 := fun s hs => by
 obtain ⟨x, hx, rfl⟩ := List.mem_map.1 hs
 exact h x hx
theorem safeL_len (P : G → Nat → Prop) (p : List Stp) (e0 e1 e2 e3 e4 : Int) : (safeL P p e0 e1 e2 e3 e4).length ≤ 60 := by
 unfold safeL
 split
 ·rename_i h
  rw [bl_len]
  have : progOkB p = true := by cases q : progOkB p <;> simp_all
  exact (progOk_len this).2
 ·simp
end Go.Proofs.Ytcgbbhkjkkpfoaa.P
namespace Go.Proofs.Ytcgbbhkjkkpfoaa.P
open Go.RowKit Go.Proofs.YtcgbbhkjkkpfoaaW.PrintWords Go.Proofs.YtcgbbhkjkkpfoaaW.PrintLast Go.Proofs.YtcgbbhkjkkpfoaaW.PrintMore Lcm Lcm.G
set_option linter.unusedVariables false
set_option linter.unusedSimpArgs false
noncomputable def impl_SafeAlone.f (l0_0 : List Stp) (a1_0 a1_1 a1_2 a1_3 a1_4 : Int) : Option (List Bool) := some (safeL G.Alone l0_0 a1_0 a1_1 a1_2 a1_3 a1_4)
set_option maxHeartbeats 16000000 in
set_option maxRecDepth 100000 in
theorem impl_SafeAlone.calls (A0 : Option Addr) (c0 : Nat) (p : List Stp) (e0 e1 e2 e3 e4 : Int) (r : List Bool) (w : World) (hr : Kd.C k77 w A0 p.length p) (hc : p.length ≤ c0) (h : impl_SafeAlone.f p e0 e1 e2 e3 e4 = some r) :
  Calls Try.prog 39 #[.agg #[.slice A0 p.length c0], exV e0 e1 e2 e3 e4] w fun e w' => ∃ v : Value, e = .returned v ∧ Kd.R Kd.bool 4 w' w.heap.size (fun _ => True) v r ∧ Below w.heap.size w w' := by
 obtain rfl := Option.some.inj h
 have HS : Aside0 (∀ w1, Below w.heap.size w w1 → Calls Try.prog 69 #[.agg #[.slice A0 p.length c0], exV e0 e1 e2 e3 e4, .func (.func 72) #[] #[]] w1 fun e w' => ∃ v : Value, e = .returned v ∧ Kd.R Kd.bool 4 w' w1.heap.size (fun _ => True) v (safeL G.Alone p e0 e1 e2 e3 e4) ∧ Below w1.heap.size w1 w') :=
  ⟨fun w1 hb => studied_calls _ _ (fun g p w b A0 A1 A2 A3 A4 c0 c1 c2 c3 c4 hf hs => ⟨_, _, _, rfl, Try.func72, by kernel_rfl, rfl, m_alone' hf hs⟩) (Kd.C_below hr hb) hc⟩
 have hu := Try.underlying38
 have hu2 := Try.underlying42
 have hu3 := Try.underlying40
 have HB := Aside0.mk (Fr.new w)
 clear hr hc h
 go_enter Try.func39, Try.ntmps39
 go_wp2_with (first | ((with_reducible refine gate_dst (N := 2) rfl ?_); refine fr_box HB (N := 2) rfl rfl (cs := #[.slice A0 p.length c0]) (t := 38) ?hr ?_; (case hr => first | (go_simp; done) | (go_simp; rfl)); intro gb w1 _ HB; have y0 := HB.out.c0) | ((with_reducible refine gate_dst (N := 3) rfl ?_); refine fr_box HB (N := 3) rfl rfl (cs := #[.int .i64 e0, .int .i64 e1, .int .i64 e2, .int .i64 e3, .int .i64 e4]) (t := 42) ?hr ?_; (case hr => first | (go_simp; done) | (go_simp; rfl)); intro h w1 _ HB; have y0 := HB.out.c1; have y1 := HB.out.c0) | ((with_reducible refine gate_callee (f := 69) rfl ?_); refine goesL_ (some 7) rfl rfl Try.func69 (by kernel_rfl) rfl #[.agg #[.slice A0 p.length c0], exV e0 e1 e2 e3 e4, .func (.func 72) #[] #[]] rfl (by simp only [List.map_toArray, List.map_cons, List.map_nil]; rfl) ?_; refine (HS.out _ HB.out.below).mono ?_; rintro e w2 ⟨v, rfl, hr_, hb⟩; refine ⟨_, rfl, ?_⟩; have HM := Aside0.mk (Kd.R_lower hr_ HB.out.below.size); have HB2 := Aside0.mk (below_step HB.out.below hb); clear hr_ hb))
 go_ret
 exact ⟨_, rfl, HM.out, HB2.out⟩
end Go.Proofs.Ytcgbbhkjkkpfoaa.P
namespace Go.Proofs.Ytcgbbhkjkkpfoaa.P
open Go.RowKit Go.Proofs.YtcgbbhkjkkpfoaaW.PrintWords Go.Proofs.YtcgbbhkjkkpfoaaW.PrintLast Go.Proofs.YtcgbbhkjkkpfoaaW.PrintMore
attribute [local go_sem] max2_int min2_int max_two min_two max_three min_three max_four min_four
set_option linter.unusedVariables false
set_option linter.unusedSimpArgs false
def laws_eqBoolS.l0 : Nat → List Bool → List Bool → Int → Option (Bool)
 | 0, _, _, _ => none
 | k + 1, x0, x1, x5 => if x5 < (x0.length : Int) then (if 0 ≤ x5 then (if x5 < (x1.length : Int) then (if ((rdOf false x0 x5) != (rdOf false x1 x5)) = true then (some false) else (laws_eqBoolS.l0 k x0 x1 (wrap64 (x5 + 1)))) else (none)) else (none)) else (some true)
def laws_eqBoolS.f (k : Nat) (l0 : List Bool) (l1 : List Bool) : Option (Bool) := if (l0.length : Int) = (l1.length : Int) then (laws_eqBoolS.l0 k l0 l1 0) else (some false)
set_option maxHeartbeats 8000000 in
set_option maxRecDepth 100000 in
theorem laws_eqBoolS.calls (k : Nat) (A0 : Option Addr) (c0 : Nat) (l0 : List Bool) (A1 : Option Addr) (c1 : Nat) (l1 : List Bool) (r : Bool) (w : World) (hr0 : Kd.C Kd.bool w A0 l0.length l0) (hc0 : l0.length ≤ c0) (hr1 : Kd.C Kd.bool w A1 l1.length l1) (hc1 : l1.length ≤ c1) (h : laws_eqBoolS.f k l0 l1 = some r) :
  Calls Try.prog 24 #[.slice A0 l0.length c0, .slice A1 l1.length c1] w fun e w' => e = .returned (.bool r) ∧ Drawn0 w w' := by
 have HR0 := Aside0.mk hr0
 have HC0 := Aside0.mk hc0
 clear hr0 hc0
 have HR1 := Aside0.mk hr1
 have HC1 := Aside0.mk hc1
 clear hr1 hc1
 have H : (if (l0.length : Int) = (l1.length : Int) then (laws_eqBoolS.l0 k l0 l1 0) else (some false)) = some r := h
 clear h
 by_cases c3 : (l0.length : Int) = (l1.length : Int)
 ·rw [if_pos c3] at H
  have c3b0 : ((l0.length : Int) == (l1.length : Int)) = true := beq_iff_eq.mpr c3
  have c3b1 : ((l0.length : Int) != (l1.length : Int)) = false := bne_eq_false_iff_eq.mpr c3
  have c3b2 : (l0.length == l1.length) = true := by first | simpa using c3 | (simp at c3 ⊢; omega)
  clear c3
  have H' := Aside0.mk H
  clear H
  go_enter Try.func24, Try.ntmps24
  go_wp2
  repeat (go_quiet (fail); try go_wp2)
  go_loopg [5] k (fun kq v5 w' => ∃ (x5_1 : Int), v5 = .int .i64 x5_1 ∧ Aside0 (laws_eqBoolS.l0 kq l0 l1 x5_1 = some r) ∧ Aside0 (kq ≤ k) ∧ Drawn0 w w')
  case atStart => exact ⟨(0), (by first | rfl | (simp; done) | (simp [*]; done)), H', ⟨Nat.le_refl _⟩, by repeat (first | exact Drawn0.refl _ | apply Drawn0.step)⟩
  case round =>
   clear H'
   try clear c1
   try clear c2
   try clear p2
   try clear c3
   try clear c3b0
   try clear c3b1
   try clear c3b2
   obtain ⟨x5_1, rfl, HA, HK1, ⟨m1, rfl⟩⟩ := hrel
   cases gk with
   | zero => exact absurd HA.out (by intro h_; first | (cases h_; done) | (simp [laws_eqBoolS.l0] at h_))
   | succ k1 =>
    have H := HA.out
    clear HA
    simp only [laws_eqBoolS.l0] at H
    by_cases c4 : x5_1 < (l0.length : Int)
    ·rw [if_pos c4] at H
     have c4b0 : decide (x5_1 < (l0.length : Int)) = true := decide_eq_true c4
     clear c4
     by_cases c5 : 0 ≤ x5_1
     ·rw [if_pos c5] at H
      have c5b0 : decide (0 ≤ x5_1) = true := decide_eq_true c5
      clear c5
      by_cases c6 : x5_1 < (l1.length : Int)
      ·rw [if_pos c6] at H
       have c6b0 : decide (x5_1 < (l1.length : Int)) = true := decide_eq_true c6
       clear c6
       by_cases c7 : ((rdOf false l0 x5_1) != (rdOf false l1 x5_1)) = true
       ·rw [if_pos c7] at H
        have c7b0 : ((rdOf false l0 x5_1) != (rdOf false l1 x5_1)) = true := c7
        (try (have c7b1 : decide ((rdOf false l0 x5_1) = (rdOf false l1 x5_1)) = false := by simpa using c7))
        (try (have c7b2 : ((rdOf false l0 x5_1) == (rdOf false l1 x5_1)) = false := by simpa using c7))
        (try (have c7b3 : ¬ ((rdOf false l0 x5_1) = (rdOf false l1 x5_1)) := by simpa using c7))
        clear c7
        obtain rfl := Option.some.inj H
        have p335 : 0 ≤ (x5_1 : Int) := oda
        have q335 : x5_1 < (l0.length : Int) := oda
        obtain ⟨ad335, e335, hx335_0⟩ := Kd.at_bool HR0.out x5_1 p335 q335
        cases e335
        replace p335 := eq_true p335
        replace q335 := eq_true q335
        have p336 : 0 ≤ (x5_1 : Int) := oda
        have q336 : x5_1 < (l1.length : Int) := oda
        obtain ⟨ad336, e336, hx336_0⟩ := Kd.at_bool HR1.out x5_1 p336 q336
        cases e336
        replace p336 := eq_true p336
        replace q336 := eq_true q336
        go_wp2
        repeat (go_quiet (fail); try go_wp2)
        go_ret
        exact ⟨by first | rfl | (simp; done) | (simp [*]; done), by repeat (first | exact Drawn0.refl _ | apply Drawn0.step)⟩
       ·rw [if_neg c7] at H
        have c7b0 : ((rdOf false l0 x5_1) != (rdOf false l1 x5_1)) = false := by simpa using c7
        (try (have c7b1 : decide ((rdOf false l0 x5_1) = (rdOf false l1 x5_1)) = true := by simpa using c7))
        (try (have c7b2 : ((rdOf false l0 x5_1) == (rdOf false l1 x5_1)) = true := by simpa using c7))
        clear c7
        have H' := Aside0.mk H
        clear H
        have p335 : 0 ≤ (x5_1 : Int) := oda
        have q335 : x5_1 < (l0.length : Int) := oda
        obtain ⟨ad335, e335, hx335_0⟩ := Kd.at_bool HR0.out x5_1 p335 q335
        cases e335
        replace p335 := eq_true p335
        replace q335 := eq_true q335
        have p336 : 0 ≤ (x5_1 : Int) := oda
        have q336 : x5_1 < (l1.length : Int) := oda
        obtain ⟨ad336, e336, hx336_0⟩ := Kd.at_bool HR1.out x5_1 p336 q336
        cases e336
        replace p336 := eq_true p336
        replace q336 := eq_true q336
        go_wp2
        repeat (go_quiet (fail); try go_wp2)
        go_roundg k1
        case measure => have := HK1.out; omega
        case rel => exact ⟨(wrap64 (x5_1 + 1)), (by first | rfl | (simp; done) | (simp [*]; done)), H', ⟨by have := HK1.out; omega⟩, by repeat (first | exact Drawn0.refl _ | apply Drawn0.step)⟩
      ·rw [if_neg c6] at H
       exact absurd H (by simp)
     ·rw [if_neg c5] at H
      exact absurd H (by simp)
    ·rw [if_neg c4] at H
     have c4b0 : decide (x5_1 < (l0.length : Int)) = false := decide_eq_false c4
     clear c4
     obtain rfl := Option.some.inj H
     go_wp2
     repeat (go_quiet (fail); try go_wp2)
     go_ret
     exact ⟨by first | rfl | (simp; done) | (simp [*]; done), by repeat (first | exact Drawn0.refl _ | apply Drawn0.step)⟩
 ·rw [if_neg c3] at H
  have c3b0 : ((l0.length : Int) == (l1.length : Int)) = false := beq_eq_false_iff_ne.mpr c3
  have c3b1 : ((l0.length : Int) != (l1.length : Int)) = true := bne_iff_ne.mpr c3
  have c3b2 : (l0.length == l1.length) = false := by first | simpa using c3 | (simp at c3 ⊢; omega)
  obtain rfl := Option.some.inj H
  go_enter Try.func24, Try.ntmps24
  go_wp2
  repeat (go_quiet (fail); try go_wp2)
  go_ret
  exact ⟨by first | rfl | (simp; done) | (simp [*]; done), by repeat (first | exact Drawn0.refl _ | apply Drawn0.step)⟩
def laws_markBoolS.l0 : Nat → List Bool → Int → Int → Option (Int × List Bool)
 | 0, _, _, _ => none
 | k + 1, x0, x1, x5 => if x5 < (x0.length : Int) then (if 0 ≤ x5 then (laws_markBoolS.l0 k (x0.set (x5 : Int).toNat ((Int.tmod x1 3) == 0)) (wrap64 (x1 + 1)) (wrap64 (x5 + 1))) else (none)) else (some (x1, x0))
def laws_markBoolS.f (k : Nat) (l0 : List Bool) (a1 : Int) : Option (Int × List Bool) := laws_markBoolS.l0 k l0 a1 0
set_option maxHeartbeats 8000000 in
set_option maxRecDepth 100000 in
theorem laws_markBoolS.calls (k : Nat) (P0_ : Nat → Prop) (u9000_ : Value) (l0 : List Bool) (a1 : Int) (r1 : Int) (r2 : List Bool) (w0 w : World) (hB : Below w0.heap.size w0 w) (ho0 : Kd.R Kd.bool 4 w w0.heap.size P0_ u9000_ l0) (h : laws_markBoolS.f k l0 a1 = some (r1, r2)) :
  Calls Try.prog 27 #[u9000_, .int .i64 a1] w fun e w' => e = .returned (.int .i64 r1) ∧ Kd.R Kd.bool 4 w' w0.heap.size (fun k_ => (P0_ k_ ∨ w.heap.size ≤ k_)) u9000_ r2 ∧ Below w0.heap.size w0 w' ∧ Kept w w' (fun k_ => P0_ k_) := by
 have HO0 := Aside0.mk (show Kd.R Kd.bool 4 w w0.heap.size (fun k_ => (P0_ k_ ∨ w.heap.size ≤ k_)) u9000_ l0 from Kd.R_mono ho0 (fun k_ hk => (.inl hk)))
 have HK := Aside0.mk (Kept.refl w (fun k_ => P0_ k_))
 have HW0 := Aside0.mk hB.size
 have HB := Aside0.mk hB
 clear hB
 have H : (laws_markBoolS.l0 k l0 a1 0) = some (r1, r2) := h
 clear h
 have H' := Aside0.mk H
 clear H
 go_enter Try.func27, Try.ntmps27
 go_wp2
 go_loopg [1, 5] k (fun kq v1 v5 w' => ∃ (x0_1 : List Bool) (x1_1 : Int) (x5_1 : Int), v1 = .int .i64 x1_1 ∧ v5 = .int .i64 x5_1 ∧ Aside0 (laws_markBoolS.l0 kq x0_1 x1_1 x5_1 = some (r1, r2)) ∧ Aside0 (kq ≤ k) ∧ Aside0 (Kd.R Kd.bool 4 w' w0.heap.size (fun k_ => (P0_ k_ ∨ w.heap.size ≤ k_)) u9000_ x0_1) ∧ Aside0 (Kept w w' (fun k_ => P0_ k_)) ∧ Aside0 (Below w0.heap.size w0 w'))
 case atStart => exact ⟨(l0), (a1), (0), (by first | rfl | (simp; done) | (simp [*]; done)), (by first | rfl | (simp; done) | (simp [*]; done)), H', ⟨Nat.le_refl _⟩, ⟨Rq HO0.out⟩, ⟨by repeat (first | (with_reducible first | exact HK.out | apply Kept.alloc | apply Kept.drewN | apply Kept.drew) | exact HK.out)⟩, ⟨bwq HB⟩⟩
 case round =>
  clear H'
  try clear c2
  try clear p2
  obtain ⟨x0_1, x1_1, x5_1, rfl, rfl, HA, HK1, HO_0, HK, HB⟩ := hrel
  cases gk with
  | zero => exact absurd HA.out (by intro h_; first | (cases h_; done) | (simp [laws_markBoolS.l0] at h_))
  | succ k1 =>
   have H := HA.out
   clear HA
   simp only [laws_markBoolS.l0] at H
   by_cases c3 : x5_1 < (x0_1.length : Int)
   ·rw [if_pos c3] at H
    have c3b0 : decide (x5_1 < (x0_1.length : Int)) = true := decide_eq_true c3
    clear c3
    by_cases c4 : 0 ≤ x5_1
    ·rw [if_pos c4] at H
     have c4b0 : decide (0 ≤ x5_1) = true := decide_eq_true c4
     clear c4
     obtain ⟨y405, hy405⟩ : ∃ y_ : List Bool, y_ = (x0_1.set (x5_1 : Int).toNat ((Int.tmod x1_1 3) == 0)) := ⟨_, rfl⟩
     replace H : (laws_markBoolS.l0 k1 y405 (wrap64 (x1_1 + 1)) (wrap64 (x5_1 + 1))) = some (r1, r2) := by first | (rw [hy405]; with_reducible exact H) | (have H2_ := (Option.bind_some _ _).symm.trans H; rw [hy405]; with_reducible exact H2_) | (have H2_ := (Option.bind_some _ _).symm.trans H; with_reducible exact H2_) | with_reducible exact H | (rw [hy405]; exact H) | exact H
     have Ny405 := Aside0.mk hy405
     clear hy405
     have H' := Aside0.mk H
     clear H
     obtain ⟨Ao6, co6, eo6⟩ := Kd.R_slice HO_0.out
     subst eo6
     have p5 : 0 ≤ (x5_1 : Int) := oda
     have q5 : (x5_1 : Int) < ((x0_1.length : Int) : Int) := oda
     obtain ⟨go5, co5, eo5, gb5, gl5, cl5, HG5⟩ := Kd.R_form HO_0.out (by omega)
     (first | cases eo5 | (injection eo5 with ea_ en_ ec_; (first | subst ea_ | (injection ea_ with ea_; subst ea_)); subst ec_; clear en_))
     have GB5 := Aside0.mk gb5
     have GG5 := Aside0.mk HG5
     clear gb5 gl5 HG5
     have HMgo5 := Aside0.mk (show (P0_ go5 ∨ w.heap.size ≤ go5) from (HO_0.out.1 _ rfl))
     obtain ⟨hx5_0, hf5_0⟩ := Kd.R_celln false HO_0.out (x5_1 : Int) p5 q5
     replace p5 := eq_true p5
     replace q5 := eq_true q5
     have HP7 := Kd.R_putg HO_0.out (x5_1 : Int) ((Int.tmod x1_1 3) == 0)
     go_wp2_with (first | ((with_reducible refine gate_store (t := 4) (p := 17) rfl ?_); refine store_event (t := 4) (p := 17) (v := ?vo_w8) (w1 := (wr.setCell ⟨go5, (x5_1 : Int).toNat, none⟩ (.bool ((Int.tmod x1_1 3) == 0)))) ?hg ?ho ?hn ?hr ?_; (case ho => rfl); (case hg => rfl); (case hn => rfl); (case hr => first | (go_simp; done) | (go_simp; rfl) | (go_simp; rfl)); intro w8 hw; have hg : wr.grownBy w8 (some go5) := (by rw [hw]; exact HP7.2); have hp_ : Kd.R Kd.bool 4 w8 w0.heap.size (fun k_ => (P0_ k_ ∨ w.heap.size ≤ k_)) (.slice (some ⟨go5, 0, none⟩) x0_1.length co6) y405 := (by rw [hw, Ny405.out]; exact HP7.1); clear HP7; replace HB := Aside0.mk ((by rw [hw]; exact below_set (HB.out) GB5.out : Below w0.heap.size w0 w8)); replace HK := Aside0.mk (Kept.of_grown (S := (fun k_ => P0_ k_)) hg (by repeat (first | (with_reducible first | exact HK.out | apply Kept.alloc | apply Kept.drewN | apply Kept.drew) | exact HK.out)) (fun k_ e_ => (HO_0.out.1 k_ e_))); replace HO_0 := Aside0.mk (hp_); clear hg hw hp_))
     go_roundg k1
     case measure => have := HK1.out; omega
     case rel => exact ⟨(y405), (wrap64 (x1_1 + 1)), (wrap64 (x5_1 + 1)), (by first | rfl | (simp; done) | (simp [*]; done)), (by first | rfl | (simp; done) | (simp [*]; done)), H', ⟨by have := HK1.out; omega⟩, ⟨Rq HO_0.out⟩, ⟨by repeat (first | (with_reducible first | exact HK.out | apply Kept.alloc | apply Kept.drewN | apply Kept.drew) | exact HK.out)⟩, ⟨bwq HB⟩⟩
    ·rw [if_neg c4] at H
     exact absurd H (by simp)
   ·rw [if_neg c3] at H
    have c3b0 : decide (x5_1 < (x0_1.length : Int)) = false := decide_eq_false c3
    clear c3
    simp only [Option.some.injEq, Prod.mk.injEq] at H
    obtain ⟨rfl, rfl⟩ := H
    obtain ⟨Ao9, co9, eo9⟩ := Kd.R_slice HO_0.out
    subst eo9
    go_wp2
    go_ret
    exact ⟨by first | rfl | (simp [errW_none, errW_some] <;> rfl) | (simp [*, errW_none, errW_some] <;> rfl), Rq HO_0.out, bwq HB, by repeat (first | (with_reducible first | exact HK.out | apply Kept.alloc | apply Kept.drewN | apply Kept.drew) | exact HK.out)⟩
def spec_ExprOk.f (a0_0 : Int) (a0_1 : Int) (a0_2 : Int) (a0_3 : Int) (a0_4 : Int) : Option (Bool) := (spec_l6In.f a0_0 1 4).bind fun t129 => (if t129 = true then ((spec_l1Opnd.f a0_1 a0_2).bind fun t130 => (if t130 = true then ((spec_l1Opnd.f a0_3 a0_4).bind fun t131 => (some t131)) else (some false))) else (some false))
set_option maxHeartbeats 8000000 in
set_option maxRecDepth 100000 in
theorem spec_ExprOk.calls (a0_0 : Int) (a0_1 : Int) (a0_2 : Int) (a0_3 : Int) (a0_4 : Int) (r : Bool) (w : World) (h : spec_ExprOk.f a0_0 a0_1 a0_2 a0_3 a0_4 = some r) :
  Calls Try.prog 79 #[.agg #[.int .i64 a0_0, .int .i64 a0_1, .int .i64 a0_2, .int .i64 a0_3, .int .i64 a0_4]] w fun e w' => e = .returned (.bool r) ∧ Below w.heap.size w w' := by
 have hu42 := Try.underlying42
 have hu40 := Try.underlying40
 have HB := Aside0.mk (Below.refl w.heap.size w)
 have H : ((spec_l6In.f a0_0 1 4).bind fun t129 => (if t129 = true then ((spec_l1Opnd.f a0_1 a0_2).bind fun t130 => (if t130 = true then ((spec_l1Opnd.f a0_3 a0_4).bind fun t131 => (some t131)) else (some false))) else (some false))) = some r := h
 clear h
 replace H := Option.bind_eq_some_iff.mp H
 obtain ⟨t129, A20, H⟩ := H
 have A2 := Aside0.mk A20
 clear A20
 by_cases c3 : t129 = true
 ·subst c3
  rw [if_pos rfl] at H
  replace H := Option.bind_eq_some_iff.mp H
  obtain ⟨t130, A40, H⟩ := H
  have A4 := Aside0.mk A40
  clear A40
  by_cases c5 : t130 = true
  ·subst c5
   rw [if_pos rfl] at H
   replace H := Option.bind_eq_some_iff.mp H
   obtain ⟨t131, A60, H⟩ := H
   have A6 := Aside0.mk A60
   clear A60
   obtain rfl := Option.some.inj H
   go_enter Try.func79, Try.ntmps79
   go_wp2_with (first | ((with_reducible refine gate_dst (N := 1) rfl ?_); refine bxe (cs := #[.int .i64 a0_0, .int .i64 a0_1, .int .i64 a0_2, .int .i64 a0_3, .int .i64 a0_4]) (t := 42) ?_; intro gb128 hg w7 hbox hb; have BK128 := Aside0.mk (hbox); have GW128 := bwz HB hg; have GE128 := bwz HB hg; replace HB := bwb HB hb; clear hb hbox hg; obtain ⟨hcz8, hfz8⟩ := bcf BK128) | ((with_reducible refine gate_callee (f := 77) rfl ?_); refine goesM (some 5) rfl rfl Try.func77 #[.int .i64 a0_0, .int .i64 1, .int .i64 4] rfl ?_; (with_reducible refine (spec_l6In.calls a0_0 1 4 true _ A2.out).mono ?_); rintro e w' ⟨rfl, ⟨nd, rfl⟩⟩; refine ⟨_, rfl, ?_⟩) | (go_at_call 111; (with_reducible refine (spec_l1Opnd.calls a0_1 a0_2 true _ A4.out).mono ?_); rintro e w9 ⟨rfl, hb⟩; replace BK128 := bkb BK128 hb; replace HB := bwb HB hb; (try clear hb); (try clear hb2); (try clear hk); (try clear hi); obtain ⟨hcz10, hfz10⟩ := bcf BK128) | (go_at_call 111; (with_reducible refine (spec_l1Opnd.calls a0_3 a0_4 t131 _ A6.out).mono ?_); rintro e w11 ⟨rfl, hb⟩; replace BK128 := bkb BK128 hb; replace HB := bwb HB hb; (try clear hb); (try clear hb2); (try clear hk); (try clear hi)))
   go_ret
   exact ⟨by first | rfl | (simp [errW_none, errW_some] <;> rfl) | (simp [*, errW_none, errW_some] <;> rfl), bwq HB⟩
  ·replace c5 := Bool.eq_false_iff.mpr c5
   subst c5
   have H1 : (some false) = some r := by rw [if_neg (show ¬ (false = true) by decide)] at H; exact H
   clear H
   have H := H1
   clear H1
   obtain rfl := Option.some.inj H
   go_enter Try.func79, Try.ntmps79
   go_wp2_with (first | ((with_reducible refine gate_dst (N := 1) rfl ?_); refine bxe (cs := #[.int .i64 a0_0, .int .i64 a0_1, .int .i64 a0_2, .int .i64 a0_3, .int .i64 a0_4]) (t := 42) ?_; intro gb128 hg w12 hbox hb; have BK128 := Aside0.mk (hbox); have GW128 := bwz HB hg; have GE128 := bwz HB hg; replace HB := bwb HB hb; clear hb hbox hg; obtain ⟨hcz13, hfz13⟩ := bcf BK128) | ((with_reducible refine gate_callee (f := 77) rfl ?_); refine goesM (some 5) rfl rfl Try.func77 #[.int .i64 a0_0, .int .i64 1, .int .i64 4] rfl ?_; (with_reducible refine (spec_l6In.calls a0_0 1 4 true _ A2.out).mono ?_); rintro e w' ⟨rfl, ⟨nd, rfl⟩⟩; refine ⟨_, rfl, ?_⟩) | (go_at_call 111; (with_reducible refine (spec_l1Opnd.calls a0_1 a0_2 false _ A4.out).mono ?_); rintro e w14 ⟨rfl, hb⟩; replace BK128 := bkb BK128 hb; replace HB := bwb HB hb; (try clear hb); (try clear hb2); (try clear hk); (try clear hi)))
   go_ret
   exact ⟨by first | rfl | (simp [errW_none, errW_some] <;> rfl) | (simp [*, errW_none, errW_some] <;> rfl), bwq HB⟩
 ·replace c3 := Bool.eq_false_iff.mpr c3
  subst c3
  have H1 : (some false) = some r := by rw [if_neg (show ¬ (false = true) by decide)] at H; exact H
  clear H
  have H := H1
  clear H1
  obtain rfl := Option.some.inj H
  go_enter Try.func79, Try.ntmps79
  go_wp2_with (first | ((with_reducible refine gate_dst (N := 1) rfl ?_); refine bxe (cs := #[.int .i64 a0_0, .int .i64 a0_1, .int .i64 a0_2, .int .i64 a0_3, .int .i64 a0_4]) (t := 42) ?_; intro gb128 hg w15 hbox hb; have BK128 := Aside0.mk (hbox); have GW128 := bwz HB hg; have GE128 := bwz HB hg; replace HB := bwb HB hb; clear hb hbox hg; obtain ⟨hcz16, hfz16⟩ := bcf BK128) | ((with_reducible refine gate_callee (f := 77) rfl ?_); refine goesM (some 5) rfl rfl Try.func77 #[.int .i64 a0_0, .int .i64 1, .int .i64 4] rfl ?_; (with_reducible refine (spec_l6In.calls a0_0 1 4 false _ A2.out).mono ?_); rintro e w' ⟨rfl, ⟨nd, rfl⟩⟩; refine ⟨_, rfl, ?_⟩))
  go_ret
  exact ⟨by first | rfl | (simp [errW_none, errW_some] <;> rfl) | (simp [*, errW_none, errW_some] <;> rfl), bwq HB⟩
def spec_l11Of.f (a0_0 : Int) (a0_1 : Int) (a0_2 : Int) (a0_3 : Int) (a0_4 : Int) (a0_5 : Int) (a0_6 : Int) (l0_7 : List Int) : Option (Int × Int × Int × Int × Int) := some (a0_2, a0_3, a0_4, a0_5, a0_6)
set_option maxHeartbeats 8000000 in
set_option maxRecDepth 100000 in
theorem spec_l11Of.calls (a0_0 : Int) (a0_1 : Int) (a0_2 : Int) (a0_3 : Int) (a0_4 : Int) (a0_5 : Int) (a0_6 : Int) (A0_7 : Option Addr) (c0_7 : Nat) (l0_7 : List Int) (r1 : Int) (r2 : Int) (r3 : Int) (r4 : Int) (r5 : Int) (w : World) (hr0_7 : Kd.C (Kd.int .i64) w A0_7 l0_7.length l0_7) (hc0_7 : l0_7.length ≤ c0_7) (h : spec_l11Of.f a0_0 a0_1 a0_2 a0_3 a0_4 a0_5 a0_6 l0_7 = some (r1, r2, r3, r4, r5)) :
  Calls Try.prog 80 #[.agg #[.int .i64 a0_0, .int .i64 a0_1, .int .i64 a0_2, .int .i64 a0_3, .int .i64 a0_4, .int .i64 a0_5, .int .i64 a0_6, .slice A0_7 l0_7.length c0_7]] w fun e w' => e = .returned (.agg #[.int .i64 r1, .int .i64 r2, .int .i64 r3, .int .i64 r4, .int .i64 r5]) ∧ Below w.heap.size w w' := by
 have hu77 := Try.underlying77
 have hu42 := Try.underlying42
 have hu40 := Try.underlying40
 have HR0_7 := Aside0.mk hr0_7
 have HC0_7 := Aside0.mk hc0_7
 clear hr0_7 hc0_7
 have HB := Aside0.mk (Below.refl w.heap.size w)
 have H : (some (a0_2, a0_3, a0_4, a0_5, a0_6)) = some (r1, r2, r3, r4, r5) := h
 clear h
 simp only [Option.some.injEq, Prod.mk.injEq] at H
 obtain ⟨rfl, rfl, rfl, rfl, rfl⟩ := H
 go_enter Try.func80, Try.ntmps80
 go_wp2_with (first | ((with_reducible refine gate_dst (N := 1) rfl ?_); refine bxe (cs := #[.int .i64 a0_0, .int .i64 a0_1, .int .i64 a0_2, .int .i64 a0_3, .int .i64 a0_4, .int .i64 a0_5, .int .i64 a0_6, .slice A0_7 l0_7.length c0_7]) (t := 77) ?_; intro gb153 hg w2 hbox hb; have BK153 := Aside0.mk (hbox); have GW153 := bwz HB hg; have GE153 := bwz HB hg; replace HB := bwb HB hb; clear hb hbox hg) | ((with_reducible refine gate_dst (N := 2) rfl ?_); refine bxe (cs := #[.int .i64 0, .int .i64 0, .int .i64 0, .int .i64 0, .int .i64 0]) (t := 42) ?_; intro gb154 hg w3 hbox hb; have BK154 := Aside0.mk (hbox); have GW154 := bwz HB hg; have GE154 := bwz HB hg; replace HB := bwb HB hb; have NB153_154 := bkl BK153 hg; have NB154_153 := bkg BK153 hg; replace BK153 := bkb BK153 hb; clear hb hbox hg; have hnb4 := NB153_154.out; have hnc4 := NB154_153.out; obtain ⟨hcz5, hfz5⟩ := bcf BK153; obtain ⟨hcz6, hfz6⟩ := bcf BK154))
 refine bodyPost_ret (results_cell_row rfl _ _ gb154 42 #[.int .i64 a0_2, .int .i64 a0_3, .int .i64 a0_4, .int .i64 a0_5, .int .i64 a0_6] (0, 0) _ rfl (by (with_reducible repeat (first | refine blk_drewN ?_ _ | refine blk_drew ?_ | refine blk_alloc ?_ _)); refine blk_put (cs := #[.int .i64 a0_2, .int .i64 a0_3, .int .i64 a0_4, .int .i64 a0_5, .int .i64 0]) ?_ 4 _ rfl; (with_reducible repeat (first | refine blk_drewN ?_ _ | refine blk_drew ?_ | refine blk_alloc ?_ _)); refine blk_put (cs := #[.int .i64 a0_2, .int .i64 a0_3, .int .i64 a0_4, .int .i64 0, .int .i64 0]) ?_ 3 _ rfl; (with_reducible repeat (first | refine blk_drewN ?_ _ | refine blk_drew ?_ | refine blk_alloc ?_ _)); refine blk_put (cs := #[.int .i64 a0_2, .int .i64 a0_3, .int .i64 0, .int .i64 0, .int .i64 0]) ?_ 2 _ rfl; (with_reducible repeat (first | refine blk_drewN ?_ _ | refine blk_drew ?_ | refine blk_alloc ?_ _)); refine blk_put (cs := #[.int .i64 a0_2, .int .i64 0, .int .i64 0, .int .i64 0, .int .i64 0]) ?_ 1 _ rfl; (with_reducible repeat (first | refine blk_drewN ?_ _ | refine blk_drew ?_ | refine blk_alloc ?_ _)); refine blk_put (cs := #[.int .i64 0, .int .i64 0, .int .i64 0, .int .i64 0, .int .i64 0]) ?_ 0 _ rfl; exact bkq BK154) Try.underlying42 rfl (by kernel_rfl)) rfl ?_
 exact ⟨by first | rfl | (simp [errW_none, errW_some] <;> rfl) | (simp [*, errW_none, errW_some] <;> rfl), bwq HB⟩
end Go.Proofs.Ytcgbbhkjkkpfoaa.P
namespace Go.Proofs.Ytcgbbhkjkkpfoaa.P
open Go.RowKit Go.Proofs.YtcgbbhkjkkpfoaaW.PrintWords Go.Proofs.YtcgbbhkjkkpfoaaW.PrintLast Go.Proofs.YtcgbbhkjkkpfoaaW.PrintMore
attribute [local go_sem] max2_int min2_int max_two min_two max_three min_three max_four min_four
set_option linter.unusedVariables false
set_option linter.unusedSimpArgs false
attribute [local go_sem high] eqA42
mutual
def spec_ExprComp.j0 : Nat → List Bool → Bool → List (S77) → Int → Int → Int → Int → Int → Option (List Bool)
 | 0, _, _, _, _, _, _, _, _ => none
 | k + 1, x5, x15, x156000, x157000, x157001, x157002, x157003, x157004 => if x15 = true then (some x5) else (spec_ExprComp.l0 k x5 0 x156000 x157000 x157001 x157002 x157003 x157004)
def spec_ExprComp.l0 : Nat → List Bool → Int → List (S77) → Int → Int → Int → Int → Int → Option (List Bool)
 | 0, _, _, _, _, _, _, _, _ => none
 | k + 1, x5, x6, x156000, x157000, x157001, x157002, x157003, x157004 => if x6 < (x156000.length : Int) then (if 0 ≤ x6 then (if ((rd_T77 x156000 x6).f0) = 1 then ((spec_l11Of.f ((rd_T77 x156000 x6).f0) ((rd_T77 x156000 x6).f1) ((rd_T77 x156000 x6).f2) ((rd_T77 x156000 x6).f3.f0) ((rd_T77 x156000 x6).f3.f1) ((rd_T77 x156000 x6).f4.f0) ((rd_T77 x156000 x6).f4.f1) ((rd_T77 x156000 x6).f5)).bind fun bt164 => (if x5.length < 140737488355328 then (spec_ExprComp.l0 k (x5 ++ [(bt164.1 == x157000 && ((bt164.2.1 == x157001 && (bt164.2.2.1 == x157002)) && ((bt164.2.2.2.1 == x157003 && (bt164.2.2.2.2 == x157004)))))]) (wrap64 (x6 + 1)) x156000 x157000 x157001 x157002 x157003 x157004) else (none))) else (if x5.length < 140737488355328 then (spec_ExprComp.l0 k (x5 ++ [false]) (wrap64 (x6 + 1)) x156000 x157000 x157001 x157002 x157003 x157004) else (none))) else (none)) else (some x5)
end
def spec_ExprComp.f (k : Nat) (l0_0 : List (S77)) (a1_0 : Int) (a1_1 : Int) (a1_2 : Int) (a1_3 : Int) (a1_4 : Int) : Option (List Bool) := (some (([] : List Bool) : List Bool)).bind fun y157 => ((spec_ProgOk.f k l0_0).bind fun t160 => (if t160 = true then ((spec_ExprOk.f a1_0 a1_1 a1_2 a1_3 a1_4).bind fun t161 => (spec_ExprComp.j0 k y157 (!t161) l0_0 a1_0 a1_1 a1_2 a1_3 a1_4)) else (spec_ExprComp.j0 k y157 true l0_0 a1_0 a1_1 a1_2 a1_3 a1_4)))
def spec_ExprComp.T7 : Bool × List (List Nat × List Nat) := (true, [([], []), ([], []), ([1], [1]), ([], []), ([2, 3], [2, 3]), ([4], [4]), ([5], [5]), ([6], [6]), ([7], [7]), ([8], [8]), ([9, 8], [8, 9]), ([8], [8]), ([10, 11, 8], [8, 10, 11]), ([12, 8], [8, 12]), ([13, 8, 8], [8, 13]), ([8], [8]), ([14, 15, 8], [8, 14, 15]), ([8, 16], [8, 16]), ([17], [17]), ([0, 18, 14], [0, 18]), ([19, 19, 0, 1, 2, 3, 4, 5, 6, 7, 8, 9, 10, 11, 12, 13, 14, 15, 16, 17, 18, 19], [0, 19])])
def spec_ExprComp.B7 : List Nat := [0, 0, 2, 0, 14, 30, 62, 126, 254, 510, 1022, 510, 4094, 8190, 16382, 510, 65534, 131070, 262142, 524287, 1048575]
theorem spec_ExprComp.tab7 : rtab .any (opsOf Try.f46 7) = spec_ExprComp.T7 := by kernel_rfl
theorem spec_ExprComp.bits7 : waitsOk spec_ExprComp.T7.2 spec_ExprComp.B7 = true := by kernel_rfl
set_option maxHeartbeats 8000000 in
set_option maxRecDepth 100000 in
theorem spec_ExprComp.calls (k : Nat) (A0_0 : Option Addr) (c0_0 : Nat) (l0_0 : List (S77)) (a1_0 : Int) (a1_1 : Int) (a1_2 : Int) (a1_3 : Int) (a1_4 : Int) (r : List Bool) (w : World) (hr0_0 : Kd.C k77 w A0_0 l0_0.length l0_0) (hc0_0 : l0_0.length ≤ c0_0) (h : spec_ExprComp.f k l0_0 a1_0 a1_1 a1_2 a1_3 a1_4 = some r) :
  Calls Try.prog 46 #[.agg #[.slice A0_0 l0_0.length c0_0], .agg #[.int .i64 a1_0, .int .i64 a1_1, .int .i64 a1_2, .int .i64 a1_3, .int .i64 a1_4]] w fun e w' => ∃ v0_ : Value, e = .returned (v0_) ∧ Kd.R Kd.bool 4 w' w.heap.size (fun _ => True) v0_ r ∧ Below w.heap.size w w' := by
 have hu38 := Try.underlying38
 have hu42 := Try.underlying42
 have hu77 := Try.underlying77
 have HR0_0 := Aside0.mk hr0_0
 have HC0_0 := Aside0.mk hc0_0
 clear hr0_0 hc0_0
 have HB := Aside0.mk (Below.refl w.heap.size w)
 have H : ((some (([] : List Bool) : List Bool)).bind fun y157 => ((spec_ProgOk.f k l0_0).bind fun t160 => (if t160 = true then ((spec_ExprOk.f a1_0 a1_1 a1_2 a1_3 a1_4).bind fun t161 => (spec_ExprComp.j0 k y157 (!t161) l0_0 a1_0 a1_1 a1_2 a1_3 a1_4)) else (spec_ExprComp.j0 k y157 true l0_0 a1_0 a1_1 a1_2 a1_3 a1_4)))) = some r := h
 clear h
 obtain ⟨y157, hy157⟩ : ∃ y_ : List Bool, y_ = (([] : List Bool)) := ⟨_, rfl⟩
 replace H : ((spec_ProgOk.f k l0_0).bind fun t160 => (if t160 = true then ((spec_ExprOk.f a1_0 a1_1 a1_2 a1_3 a1_4).bind fun t161 => (spec_ExprComp.j0 k y157 (!t161) l0_0 a1_0 a1_1 a1_2 a1_3 a1_4)) else (spec_ExprComp.j0 k y157 true l0_0 a1_0 a1_1 a1_2 a1_3 a1_4))) = some r := by first | (rw [hy157]; with_reducible exact H) | (have H2_ := (Option.bind_some _ _).symm.trans H; rw [hy157]; with_reducible exact H2_) | (have H2_ := (Option.bind_some _ _).symm.trans H; with_reducible exact H2_) | with_reducible exact H | (rw [hy157]; exact H) | exact H
 have Ny157 := Aside0.mk hy157
 clear hy157
 have HC3 := Aside0.mk H
 clear H
 go_enter Try.func46, Try.ntmps46
 go_upto_region 2 with (first | ((with_reducible refine gate_dst (N := 2) rfl ?_); refine bxe (cs := #[.slice A0_0 l0_0.length c0_0]) (t := 38) ?_; intro gb155 hg w4 hbox hb; have BK155 := Aside0.mk (hbox); have GW155 := bwz HB hg; have GE155 := bwz HB hg; replace HB := bwb HB hb; clear hb hbox hg) | ((with_reducible refine gate_dst (N := 3) rfl ?_); refine bxe (cs := #[.int .i64 a1_0, .int .i64 a1_1, .int .i64 a1_2, .int .i64 a1_3, .int .i64 a1_4]) (t := 42) ?_; intro gb156 hg w5 hbox hb; have BK156 := Aside0.mk (hbox); have GW156 := bwz HB hg; have GE156 := bwz HB hg; replace HB := bwb HB hb; have NB155_156 := bkl BK155 hg; have NB156_155 := bkg BK155 hg; replace BK155 := bkb BK155 hb; clear hb hbox hg) | ((with_reducible refine gate_dst (N := 7) rfl ?_); refine Kd.R_lit Kd.bool _ 4 ?hg (N := 7) ?hd (xs := ([] : List Bool)) (inner := []) (ok := fun _ => True) (okp := fun _ => True) ?hr ?hp (fun _ hk => hk) trivial (Below.refl _ _) (Nat.le_refl _) (by simp) ?_; (case hd => rfl); (case hg => rfl); (case hr => first | (go_simp; done) | (go_simp; rfl) | (go_simp; rfl)); (case hp => exact (Reps.none _ _)); intro v158 w6 ho7 hb hg_ hnew_; clear hg_ hnew_; (first | rw [← Ny157.out] at ho7 | (simp only [Int.reduceToNat] at ho7; rw [← Ny157.out] at ho7)); have HO159 := Aside0.mk (Kd.R_lower ho7 (below_size (bwq HB))); replace BK155 := bkb BK155 hb; replace BK156 := bkb BK156 hb; replace HB := bwb HB hb; clear hb ho7))
 (try simp only [Act.put, List.setIfInBounds_toArray, List.set_cons_zero, List.set_cons_succ])
 go_cut [15] (fun v15 wc => ∃ (kq : Nat) (x15_2 : Bool), v15 = .bool x15_2 ∧ Aside0 (spec_ExprComp.j0 kq y157 x15_2 l0_0 a1_0 a1_1 a1_2 a1_3 a1_4 = some r) ∧ Aside0 (kq ≤ k) ∧ Aside0 (Kd.R Kd.bool 4 wc w.heap.size (fun _ => True) v158 y157) ∧ Aside0 (wc.heap[gb155]? = some (.cells #[(.slice A0_0 l0_0.length c0_0)] 38 (0, 0))) ∧ Aside0 (wc.heap[gb156]? = some (.cells #[.int .i64 a1_0, .int .i64 a1_1, .int .i64 a1_2, .int .i64 a1_3, .int .i64 a1_4] 42 (0, 0))) ∧ Aside0 (Below w.heap.size w wc))
 case first =>
  have H := HC3.out
  clear HC3
  replace H := Option.bind_eq_some_iff.mp H
  obtain ⟨t160, A80, H⟩ := H
  have A8 := Aside0.mk A80
  clear A80
  by_cases c9 : t160 = true
  ·subst c9
   rw [if_pos rfl] at H
   replace H := Option.bind_eq_some_iff.mp H
   obtain ⟨t161, A100, H⟩ := H
   have A10 := Aside0.mk A100
   clear A100
   have H' := Aside0.mk H
   clear H
   have hnb11 := NB155_156.out
   have hnc11 := NB156_155.out
   obtain ⟨hcz12, hfz12⟩ := bcf BK155
   go_wp2_with (first | ((with_reducible refine gate_callee (f := 76) rfl ?_); refine goesM (some 9) rfl rfl Try.func76 #[.agg #[.slice A0_0 l0_0.length c0_0]] rfl ?_; (with_reducible refine (spec_ProgOk.calls k _ _ l0_0 true _ ?side1 ?side2 A8.out).mono ?_); (case side1 => exact Cq (Kd.C_below HR0_0.out HB.out)); (case side2 => exact HC0_0.out); rintro e w13 ⟨rfl, hb⟩; refine ⟨_, rfl, ?_⟩; replace HO159 := Aside0.mk (Kd.R_below (Rq HO159.out) hb); replace BK155 := bkb BK155 hb; replace BK156 := bkb BK156 hb; replace HB := bwb HB hb; (try clear hb); (try clear hb2); (try clear hk); (try clear hi); obtain ⟨hcz14, hfz14⟩ := bcf BK156) | (go_at_call 79; (with_reducible refine (spec_ExprOk.calls a1_0 a1_1 a1_2 a1_3 a1_4 t161 _ A10.out).mono ?_); rintro e w15 ⟨rfl, hb⟩; replace HO159 := Aside0.mk (Kd.R_below (Rq HO159.out) hb); replace BK155 := bkb BK155 hb; replace BK156 := bkb BK156 hb; replace HB := bwb HB hb; (try clear hb); (try clear hb2); (try clear hk); (try clear hi)))
   go_meet
   case rel => exact ⟨_, (!t161), (by first | rfl | (simp; done) | (simp [*]; done)), H', ⟨by first | omega | exact Nat.le_refl _⟩, ⟨Rq HO159.out⟩, ⟨bkq BK155⟩, ⟨bkq BK156⟩, ⟨bwq HB⟩⟩
  ·replace c9 := Bool.eq_false_iff.mpr c9
   subst c9
   have H1 : (spec_ExprComp.j0 k y157 true l0_0 a1_0 a1_1 a1_2 a1_3 a1_4) = some r := by rw [if_neg (show ¬ (false = true) by decide)] at H; exact H
   clear H
   have H := H1
   clear H1
   have H' := Aside0.mk H
   clear H
   have hnb16 := NB155_156.out
   have hnc16 := NB156_155.out
   obtain ⟨hcz17, hfz17⟩ := bcf BK155
   go_wp2_with (first | ((with_reducible refine gate_callee (f := 76) rfl ?_); refine goesM (some 9) rfl rfl Try.func76 #[.agg #[.slice A0_0 l0_0.length c0_0]] rfl ?_; (with_reducible refine (spec_ProgOk.calls k _ _ l0_0 false _ ?side1 ?side2 A8.out).mono ?_); (case side1 => exact Cq (Kd.C_below HR0_0.out HB.out)); (case side2 => exact HC0_0.out); rintro e w18 ⟨rfl, hb⟩; refine ⟨_, rfl, ?_⟩; replace HO159 := Aside0.mk (Kd.R_below (Rq HO159.out) hb); replace BK155 := bkb BK155 hb; replace BK156 := bkb BK156 hb; replace HB := bwb HB hb; (try clear hb); (try clear hb2); (try clear hk); (try clear hi)))
   go_meet
   case rel => exact ⟨_, (true), (by first | rfl | (simp; done) | (simp [*]; done)), H', ⟨by first | omega | exact Nat.le_refl _⟩, ⟨Rq HO159.out⟩, ⟨bkq BK155⟩, ⟨bkq BK156⟩, ⟨bwq HB⟩⟩
 case rest =>
  clear HC3
  try clear c1
  try clear p2
  try clear c4
  try clear c7
  try clear c9
  try clear c11
  try clear c16
  try clear hcz12
  try clear hcz14
  try clear hcz17
  try clear hfz12
  try clear hfz14
  try clear hfz17
  obtain ⟨kq, x15_2, rfl, HA, HJ2, HO_5, BK155, BK156, HB⟩ := hcut
  cases kq with
  | zero => exact absurd HA.out (by intro h_; first | (cases h_; done) | (simp [spec_ExprComp.j0] at h_))
  | succ kj2 =>
   have H := HA.out
   clear HA
   simp only [spec_ExprComp.j0] at H
   by_cases c19 : x15_2 = true
   ·subst c19
    rw [if_pos rfl] at H
    obtain rfl := Option.some.inj H
    go_wp2
    go_ret
    exact ⟨_, by first | rfl | (simp [errW_none, errW_some] <;> rfl) | (simp [*, errW_none, errW_some] <;> rfl), Rq HO_5.out, bwq HB⟩
   ·replace c19 := Bool.eq_false_iff.mpr c19
    subst c19
    have H1 : (spec_ExprComp.l0 kj2 y157 0 l0_0 a1_0 a1_1 a1_2 a1_3 a1_4) = some r := by rw [if_neg (show ¬ (false = true) by decide)] at H; exact H
    clear H
    have H := H1
    clear H1
    have H' := Aside0.mk H
    clear H
    go_wp2
    go_loopg [5, 6] kj2 (fun kq v5 v6 w' => ∃ (x5_2 : List Bool) (x6_2 : Int), v6 = .int .i64 x6_2 ∧ Aside0 (spec_ExprComp.l0 kq x5_2 x6_2 l0_0 a1_0 a1_1 a1_2 a1_3 a1_4 = some r) ∧ Aside0 (kq ≤ kj2) ∧ Aside0 (Kd.R Kd.bool 4 w' w.heap.size (fun _ => True) v5 x5_2) ∧ Aside0 (w'.heap[gb155]? = some (.cells #[(.slice A0_0 l0_0.length c0_0)] 38 (0, 0))) ∧ Aside0 (w'.heap[gb156]? = some (.cells #[.int .i64 a1_0, .int .i64 a1_1, .int .i64 a1_2, .int .i64 a1_3, .int .i64 a1_4] 42 (0, 0))) ∧ Aside0 (Below w.heap.size w w'))
    case atStart => exact ⟨(y157), (0), (by first | rfl | (simp; done) | (simp [*]; done)), H', ⟨Nat.le_refl _⟩, ⟨Rq HO_5.out⟩, ⟨bkq BK155⟩, ⟨bkq BK156⟩, ⟨bwq HB⟩⟩
    case round =>
     clear H'
     try clear c1
     try clear p2
     try clear c4
     try clear c7
     try clear c9
     try clear c11
     try clear c16
     try clear c19
     try clear hcz12
     try clear hcz14
     try clear hcz17
     try clear hfz12
     try clear hfz14
     try clear hfz17
     try clear p2
     obtain ⟨x5_2, x6_2, rfl, HA, HK2, HO_5, BK155, BK156, HB⟩ := hrel
     cases gk with
     | zero => exact absurd HA.out (by intro h_; first | (cases h_; done) | (simp [spec_ExprComp.l0] at h_))
     | succ k2 =>
      have H := HA.out
      clear HA
      simp only [spec_ExprComp.l0] at H
      by_cases c20 : x6_2 < (l0_0.length : Int)
      ·rw [if_pos c20] at H
       have c20b0 : decide (x6_2 < (l0_0.length : Int)) = true := decide_eq_true c20
       clear c20
       by_cases c21 : 0 ≤ x6_2
       ·rw [if_pos c21] at H
        have c21b0 : decide (0 ≤ x6_2) = true := decide_eq_true c21
        clear c21
        by_cases c22 : ((rd_T77 l0_0 x6_2).f0) = 1
        ·rw [if_pos c22] at H
         have c22b0 : (((rd_T77 l0_0 x6_2).f0) == 1) = true := beq_iff_eq.mpr c22
         have c22b1 : (((rd_T77 l0_0 x6_2).f0) != 1) = false := bne_eq_false_iff_eq.mpr c22
         clear c22
         replace H := Option.bind_eq_some_iff.mp H
         obtain ⟨⟨t164, t165, t166, t167, t168⟩, A230, H⟩ := H
         have A23 := Aside0.mk A230
         clear A230
         by_cases c24 : x5_2.length < 140737488355328
         ·rw [if_pos c24] at H
          have LMc24 := Aside0.mk c24
          clear c24
          obtain ⟨y169, hy169⟩ : ∃ y_ : List Bool, y_ = (x5_2 ++ [(t164 == a1_0 && ((t165 == a1_1 && (t166 == a1_2)) && ((t167 == a1_3 && (t168 == a1_4)))))]) := ⟨_, rfl⟩
          replace H : (spec_ExprComp.l0 k2 y169 (wrap64 (x6_2 + 1)) l0_0 a1_0 a1_1 a1_2 a1_3 a1_4) = some r := by first | (rw [hy169]; with_reducible exact H) | (have H2_ := (Option.bind_some _ _).symm.trans H; rw [hy169]; with_reducible exact H2_) | (have H2_ := (Option.bind_some _ _).symm.trans H; with_reducible exact H2_) | with_reducible exact H | (rw [hy169]; exact H) | exact H
          have Ny169 := Aside0.mk hy169
          clear hy169
          have H' := Aside0.mk H
          clear H
          have hnb25 := NB155_156.out
          have hnc25 := NB156_155.out
          obtain ⟨hcz26, hfz26⟩ := bcf BK155
          try go_wp2
          replace HO_5 := Aside0.mk (Kd.R_drew HO_5.out)
          replace BK155 := Aside0.mk (blk_drew BK155.out)
          replace BK156 := Aside0.mk (blk_drew BK156.out)
          replace HB := Aside0.mk (below_drew1 HB.out)
          have p162 : 0 ≤ (x6_2 : Int) := oda
          have q162 : x6_2 < (l0_0.length : Int) := oda
          obtain ⟨ad162, A162_7, c162_7, e162, hx162_0, hx162_1, hx162_2, hx162_3, hx162_4, hx162_5, hx162_6, hx162_7, hl162_7, hi162_7⟩ := at_T77 HR0_0.out x6_2 p162 q162
          have hw162_7 := hx162_7
          have hw162_6 := hx162_6
          have hw162_5 := hx162_5
          have hw162_4 := hx162_4
          have hw162_3 := hx162_3
          have hw162_2 := hx162_2
          have hw162_1 := hx162_1
          have hw162_0 := hx162_0
          cases e162
          replace hx162_0 := hxb HB hx162_0
          replace hx162_1 := hxb HB hx162_1
          replace hx162_2 := hxb HB hx162_2
          replace hx162_3 := hxb HB hx162_3
          replace hx162_4 := hxb HB hx162_4
          replace hx162_5 := hxb HB hx162_5
          replace hx162_6 := hxb HB hx162_6
          replace hx162_7 := hxb HB hx162_7
          have HR162_7 := Aside0.mk hi162_7
          have HC162_7 := Aside0.mk hl162_7
          clear hi162_7 hl162_7
          replace p162 := eq_true p162
          replace q162 := eq_true q162
          have p163 : 0 ≤ (x6_2 : Int) := oda
          have q163 : x6_2 < (l0_0.length : Int) := oda
          obtain ⟨ad163, A163_7, c163_7, e163, hx163_0, hx163_1, hx163_2, hx163_3, hx163_4, hx163_5, hx163_6, hx163_7, hl163_7, hi163_7⟩ := at_T77 HR0_0.out x6_2 p163 q163
          have hw163_7 := hx163_7
          have hw163_6 := hx163_6
          have hw163_5 := hx163_5
          have hw163_4 := hx163_4
          have hw163_3 := hx163_3
          have hw163_2 := hx163_2
          have hw163_1 := hx163_1
          have hw163_0 := hx163_0
          obtain rfl : ad162 = ad163 := (by injection e163)
          replace hx163_0 := hxb HB hx163_0
          replace hx163_1 := hxb HB hx163_1
          replace hx163_2 := hxb HB hx163_2
          replace hx163_3 := hxb HB hx163_3
          replace hx163_4 := hxb HB hx163_4
          replace hx163_5 := hxb HB hx163_5
          replace hx163_6 := hxb HB hx163_6
          replace hx163_7 := hxb HB hx163_7
          have HR163_7 := Aside0.mk hi163_7
          have HC163_7 := Aside0.mk hl163_7
          clear hi163_7 hl163_7
          replace p163 := eq_true p163
          replace q163 := eq_true q163
          have ea_ := Option.some.inj (hx162_7.symm.trans hx163_7)
          injection ea_ with ea_ en_ ec_
          subst ea_
          subst ec_
          clear en_
          refine start_ (n := 21) (S := fun w' => w'.cell? ⟨gb155, 0, none⟩ = some (.slice (some ad162) l0_0.length c0_0) ∧ w'.cell? ⟨gb156, 0, none⟩ = some (.int .i64 a1_0) ∧ w'.cell? ⟨gb156, 1, none⟩ = some (.int .i64 a1_1) ∧ w'.cell? ⟨gb156, 2, none⟩ = some (.int .i64 a1_2) ∧ w'.cell? ⟨gb156, 3, none⟩ = some (.int .i64 a1_3) ∧ w'.cell? ⟨gb156, 4, none⟩ = some (.int .i64 a1_4) ∧ w'.cell? (ad162.add ((x6_2).toNat * 8)) = some (.int .i64 ((rd_T77 l0_0 x6_2).f0)) ∧ w'.cell? ⟨(ad162.add ((x6_2).toNat * 8)).block, (ad162.add ((x6_2).toNat * 8)).off + 1, none⟩ = some (.int .i64 ((rd_T77 l0_0 x6_2).f1)) ∧ w'.cell? ⟨(ad162.add ((x6_2).toNat * 8)).block, (ad162.add ((x6_2).toNat * 8)).off + 2, none⟩ = some (.int .i64 ((rd_T77 l0_0 x6_2).f2)) ∧ w'.cell? ⟨(ad162.add ((x6_2).toNat * 8)).block, (ad162.add ((x6_2).toNat * 8)).off + 3, none⟩ = some (.int .i64 ((rd_T77 l0_0 x6_2).f3.f0)) ∧ w'.cell? ⟨(ad162.add ((x6_2).toNat * 8)).block, (ad162.add ((x6_2).toNat * 8)).off + 4, none⟩ = some (.int .i64 ((rd_T77 l0_0 x6_2).f3.f1)) ∧ w'.cell? ⟨(ad162.add ((x6_2).toNat * 8)).block, (ad162.add ((x6_2).toNat * 8)).off + 5, none⟩ = some (.int .i64 ((rd_T77 l0_0 x6_2).f4.f0)) ∧ w'.cell? ⟨(ad162.add ((x6_2).toNat * 8)).block, (ad162.add ((x6_2).toNat * 8)).off + 6, none⟩ = some (.int .i64 ((rd_T77 l0_0 x6_2).f4.f1)) ∧ w'.cell? ⟨(ad162.add ((x6_2).toNat * 8)).block, (ad162.add ((x6_2).toNat * 8)).off + 7, none⟩ = some (.slice A162_7 ((rd_T77 l0_0 x6_2).f5).length c162_7) ∧ w'.cell? (ad162.add ((x6_2).toNat * 8)) = some (.int .i64 ((rd_T77 l0_0 x6_2).f0)) ∧ w'.cell? ⟨(ad162.add ((x6_2).toNat * 8)).block, (ad162.add ((x6_2).toNat * 8)).off + 1, none⟩ = some (.int .i64 ((rd_T77 l0_0 x6_2).f1)) ∧ w'.cell? ⟨(ad162.add ((x6_2).toNat * 8)).block, (ad162.add ((x6_2).toNat * 8)).off + 2, none⟩ = some (.int .i64 ((rd_T77 l0_0 x6_2).f2)) ∧ w'.cell? ⟨(ad162.add ((x6_2).toNat * 8)).block, (ad162.add ((x6_2).toNat * 8)).off + 3, none⟩ = some (.int .i64 ((rd_T77 l0_0 x6_2).f3.f0)) ∧ w'.cell? ⟨(ad162.add ((x6_2).toNat * 8)).block, (ad162.add ((x6_2).toNat * 8)).off + 4, none⟩ = some (.int .i64 ((rd_T77 l0_0 x6_2).f3.f1)) ∧ w'.cell? ⟨(ad162.add ((x6_2).toNat * 8)).block, (ad162.add ((x6_2).toNat * 8)).off + 5, none⟩ = some (.int .i64 ((rd_T77 l0_0 x6_2).f4.f0)) ∧ w'.cell? ⟨(ad162.add ((x6_2).toNat * 8)).block, (ad162.add ((x6_2).toNat * 8)).off + 6, none⟩ = some (.int .i64 ((rd_T77 l0_0 x6_2).f4.f1)) ∧ w'.cell? ⟨(ad162.add ((x6_2).toNat * 8)).block, (ad162.add ((x6_2).toNat * 8)).off + 7, none⟩ = some (.slice A162_7 ((rd_T77 l0_0 x6_2).f5).length c162_7)) (ds := []) #[false, false, false, false, false, false, false, false, false, false, false, false, false, false, false, false, false, false, false, false, false] (by kernel_rfl) rfl rfl ⟨(blk_cell BK155.out 0).trans rfl, (blk_cell BK156.out 0).trans rfl, (blk_cell BK156.out 1).trans rfl, (blk_cell BK156.out 2).trans rfl, (blk_cell BK156.out 3).trans rfl, (blk_cell BK156.out 4).trans rfl, ((HB.out.cell (World.block_lt_of_cell? w _ hw162_0)).trans hw162_0), ((HB.out.cell (World.block_lt_of_cell? w _ hw162_1)).trans hw162_1), ((HB.out.cell (World.block_lt_of_cell? w _ hw162_2)).trans hw162_2), ((HB.out.cell (World.block_lt_of_cell? w _ hw162_3)).trans hw162_3), ((HB.out.cell (World.block_lt_of_cell? w _ hw162_4)).trans hw162_4), ((HB.out.cell (World.block_lt_of_cell? w _ hw162_5)).trans hw162_5), ((HB.out.cell (World.block_lt_of_cell? w _ hw162_6)).trans hw162_6), ((HB.out.cell (World.block_lt_of_cell? w _ hw162_7)).trans hw162_7), ((HB.out.cell (World.block_lt_of_cell? w _ hw163_0)).trans hw163_0), ((HB.out.cell (World.block_lt_of_cell? w _ hw163_1)).trans hw163_1), ((HB.out.cell (World.block_lt_of_cell? w _ hw163_2)).trans hw163_2), ((HB.out.cell (World.block_lt_of_cell? w _ hw163_3)).trans hw163_3), ((HB.out.cell (World.block_lt_of_cell? w _ hw163_4)).trans hw163_4), ((HB.out.cell (World.block_lt_of_cell? w _ hw163_5)).trans hw163_5), ((HB.out.cell (World.block_lt_of_cell? w _ hw163_6)).trans hw163_6), ((HB.out.cell (World.block_lt_of_cell? w _ hw163_7)).trans hw163_7)⟩ (fun hHeld => ?_); refine with_tabW spec_ExprComp.tab7 spec_ExprComp.bits7 (fun HT_ HW_ => ?_)
          generalize wr.drew = w27 at HO_5 BK155 BK156 HB HR162_7 HR163_7 hx162_0 hx162_1 hx162_2 hx162_3 hx162_4 hx162_5 hx162_6 hx162_7 hx163_0 hx163_1 hx163_2 hx163_3 hx163_4 hx163_5 hx163_6 hx163_7 hHeld ⊢
          refine pure_ (i := 0) (N := some 24) (v := ?_) (a' := ?_) #[true, false, false, false, false, false, false, false, false, false, false, false, false, false, false, false, false, false, false, false, false] rfl rfl (any_of HT_.out (by kernel_rfl)) (fun _ _ _ h => h) (Or.inl ⟨by rfl, ?_⟩) ?_ ?_
          rotate_left
          ·intro w'
           go_simp
           with_reducible rfl
          rotate_left
          ·simp only [Act.put, List.setIfInBounds_toArray, List.set_cons_zero, List.set_cons_succ, i64_w, i32_w]
           rfl
          refine pure_ (i := 1) (N := some 25) (v := ?_) (a' := ?_) #[true, true, false, false, false, false, false, false, false, false, false, false, false, false, false, false, false, false, false, false, false] rfl rfl (any_of HT_.out (by kernel_rfl)) (fun _ _ _ h => h) (Or.inl ⟨by rfl, ?_⟩) ?_ ?_
          rotate_left
          ·intro w'
           go_simp
           with_reducible rfl
          rotate_left
          ·simp only [Act.put, List.setIfInBounds_toArray, List.set_cons_zero, List.set_cons_succ, i64_w, i32_w]
           rfl
          refine pure_ (i := 3) (N := some 27) (v := ?_) (a' := ?_) #[true, true, false, true, false, false, false, false, false, false, false, false, false, false, false, false, false, false, false, false, false] rfl rfl (any_of HT_.out (by kernel_rfl)) (fun _ _ _ h => h) (Or.inl ⟨by rfl, ?_⟩) ?_ ?_
          rotate_left
          ·intro w'
           go_simp
           with_reducible rfl
          rotate_left
          ·simp only [Act.put, List.setIfInBounds_toArray, List.set_cons_zero, List.set_cons_succ, i64_w, i32_w]
           rfl
          refine take_ (i := 2) (N := some 26) (v := ?_) (a' := ?_) #[true, true, true, true, false, false, false, false, false, false, false, false, false, false, false, false, false, false, false, false, false] rfl rfl (take_ofW HT_.out HW_.out (by kernel_rfl)) (fun _ _ _ h => h) (Or.inl ⟨by rfl, ?_⟩) hHeld ?_ ?_
          rotate_left
          ·rintro w' ⟨s0, s1, s2, s3, s4, s5, s6, s7, s8, s9, s10, s11, s12, s13, s14, s15, s16, s17, s18, s19, s20, s21⟩
           go_simp
           with_reducible rfl
          rotate_left
          ·simp only [Act.put, List.setIfInBounds_toArray, List.set_cons_zero, List.set_cons_succ, i64_w, i32_w]
           rfl
          refine pure_ (i := 4) (N := some 28) (v := ?_) (a' := ?_) #[true, true, true, true, true, false, false, false, false, false, false, false, false, false, false, false, false, false, false, false, false] rfl rfl (any_of HT_.out (by kernel_rfl)) (fun _ _ _ h => h) (Or.inl ⟨by rfl, ?_⟩) ?_ ?_
          rotate_left
          ·intro w'
           go_simp
           with_reducible rfl
          rotate_left
          ·simp only [Act.put, List.setIfInBounds_toArray, List.set_cons_zero, List.set_cons_succ, i64_w, i32_w]
           rfl
          refine pure_ (i := 5) (N := some 29) (v := ?_) (a' := ?_) #[true, true, true, true, true, true, false, false, false, false, false, false, false, false, false, false, false, false, false, false, false] rfl rfl (any_of HT_.out (by kernel_rfl)) (fun _ _ _ h => h) (Or.inl ⟨by rfl, ?_⟩) ?_ ?_
          rotate_left
          ·intro w'
           go_simp
           with_reducible rfl
          rotate_left
          ·simp only [Act.put, List.setIfInBounds_toArray, List.set_cons_zero, List.set_cons_succ, i64_w, i32_w]
           rfl
          refine take_ (i := 6) (N := some 30) (v := ?_) (a' := ?_) #[true, true, true, true, true, true, true, false, false, false, false, false, false, false, false, false, false, false, false, false, false] rfl rfl (take_ofW HT_.out HW_.out (by kernel_rfl)) (fun _ _ _ h => h) (Or.inl ⟨by rfl, ?_⟩) hHeld ?_ ?_
          rotate_left
          ·rintro w' ⟨s0, s1, s2, s3, s4, s5, s6, s7, s8, s9, s10, s11, s12, s13, s14, s15, s16, s17, s18, s19, s20, s21⟩
           go_simp
           with_reducible rfl
          rotate_left
          ·simp only [Act.put, List.setIfInBounds_toArray, List.set_cons_zero, List.set_cons_succ, i64_w, i32_w]
           rfl
          refine pure_ (i := 7) (N := some 31) (v := ?_) (a' := ?_) #[true, true, true, true, true, true, true, true, false, false, false, false, false, false, false, false, false, false, false, false, false] rfl rfl (any_of HT_.out (by kernel_rfl)) (fun _ _ _ h => h) (Or.inl ⟨by rfl, ?_⟩) ?_ ?_
          rotate_left
          ·intro w'
           go_simp
           with_reducible rfl
          rotate_left
          ·simp only [Act.put, List.setIfInBounds_toArray, List.set_cons_zero, List.set_cons_succ, i64_w, i32_w]
           rfl
          refine pure_ (i := 8) (N := some 32) (v := ?_) (a' := ?_) #[true, true, true, true, true, true, true, true, true, false, false, false, false, false, false, false, false, false, false, false, false] rfl rfl (any_of HT_.out (by kernel_rfl)) (fun _ _ _ h => h) (Or.inl ⟨by rfl, ?_⟩) ?_ ?_
          rotate_left
          ·intro w'
           go_simp
           with_reducible rfl
          rotate_left
          ·simp only [Act.put, List.setIfInBounds_toArray, List.set_cons_zero, List.set_cons_succ, i64_w, i32_w]
           rfl
          refine pure_ (i := 9) (N := some 33) (v := ?_) (a' := ?_) #[true, true, true, true, true, true, true, true, true, true, false, false, false, false, false, false, false, false, false, false, false] rfl rfl (any_of HT_.out (by kernel_rfl)) (fun _ _ _ h => h) (Or.inl ⟨by rfl, ?_⟩) ?_ ?_
          rotate_left
          ·intro w'
           go_simp
           with_reducible rfl
          rotate_left
          ·simp only [Act.put, List.setIfInBounds_toArray, List.set_cons_zero, List.set_cons_succ, i64_w, i32_w]
           rfl
          refine pure_ (i := 11) (N := some 35) (v := ?_) (a' := ?_) #[true, true, true, true, true, true, true, true, true, true, false, true, false, false, false, false, false, false, false, false, false] rfl rfl (any_of HT_.out (by kernel_rfl)) (fun _ _ _ h => h) (Or.inl ⟨by rfl, ?_⟩) ?_ ?_
          rotate_left
          ·intro w'
           go_simp
           with_reducible rfl
          rotate_left
          ·simp only [Act.put, List.setIfInBounds_toArray, List.set_cons_zero, List.set_cons_succ, i64_w, i32_w]
           rfl
          refine take_ (i := 10) (N := some 34) (v := ?_) (a' := ?_) #[true, true, true, true, true, true, true, true, true, true, true, true, false, false, false, false, false, false, false, false, false] rfl rfl (take_ofW HT_.out HW_.out (by kernel_rfl)) (fun _ _ _ h => h) (Or.inl ⟨by rfl, ?_⟩) hHeld ?_ ?_
          rotate_left
          ·rintro w' ⟨s0, s1, s2, s3, s4, s5, s6, s7, s8, s9, s10, s11, s12, s13, s14, s15, s16, s17, s18, s19, s20, s21⟩
           go_simp
           with_reducible rfl
          rotate_left
          ·simp only [Act.put, List.setIfInBounds_toArray, List.set_cons_zero, List.set_cons_succ, i64_w, i32_w]
           rfl
          refine pure_ (i := 12) (N := some 36) (v := ?_) (a' := ?_) #[true, true, true, true, true, true, true, true, true, true, true, true, true, false, false, false, false, false, false, false, false] rfl rfl (any_of HT_.out (by kernel_rfl)) (fun _ _ _ h => h) (Or.inl ⟨by rfl, ?_⟩) ?_ ?_
          rotate_left
          ·intro w'
           go_simp
           with_reducible rfl
          rotate_left
          ·simp only [Act.put, List.setIfInBounds_toArray, List.set_cons_zero, List.set_cons_succ, i64_w, i32_w]
           rfl
          refine take_ (i := 13) (N := some 37) (v := ?_) (a' := ?_) #[true, true, true, true, true, true, true, true, true, true, true, true, true, true, false, false, false, false, false, false, false] rfl rfl (take_ofW HT_.out HW_.out (by kernel_rfl)) (fun _ _ _ h => h) (Or.inl ⟨by rfl, ?_⟩) hHeld ?_ ?_
          rotate_left
          ·rintro w' ⟨s0, s1, s2, s3, s4, s5, s6, s7, s8, s9, s10, s11, s12, s13, s14, s15, s16, s17, s18, s19, s20, s21⟩
           go_simp
           with_reducible rfl
          rotate_left
          ·simp only [Act.put, List.setIfInBounds_toArray, List.set_cons_zero, List.set_cons_succ, i64_w, i32_w]
           rfl
          refine take_ (i := 15) (N := some 39) (v := ?_) (a' := ?_) #[true, true, true, true, true, true, true, true, true, true, true, true, true, true, false, true, false, false, false, false, false] rfl rfl (take_ofW HT_.out HW_.out (by kernel_rfl)) (fun _ _ _ h => h) (Or.inl ⟨by rfl, ?_⟩) hHeld ?_ ?_
          rotate_left
          ·rintro w' ⟨s0, s1, s2, s3, s4, s5, s6, s7, s8, s9, s10, s11, s12, s13, s14, s15, s16, s17, s18, s19, s20, s21⟩
           go_simp
           with_reducible rfl
          rotate_left
          ·simp only [Act.put, List.setIfInBounds_toArray, List.set_cons_zero, List.set_cons_succ, i64_w, i32_w]
           rfl
          refine one_ (i := 14) (N := some 38) #[true, true, true, true, true, true, true, true, true, true, true, true, true, true, true, true, false, false, false, false, false] rfl rfl (one_of HT_.out (by kernel_rfl)) (by decide) (fun K hK => ?_)
          refine goes_ Try.func80 (by kernel_rfl) rfl #[.agg #[.int .i64 ((rd_T77 l0_0 x6_2).f0), .int .i64 ((rd_T77 l0_0 x6_2).f1), .int .i64 ((rd_T77 l0_0 x6_2).f2), .int .i64 ((rd_T77 l0_0 x6_2).f3.f0), .int .i64 ((rd_T77 l0_0 x6_2).f3.f1), .int .i64 ((rd_T77 l0_0 x6_2).f4.f0), .int .i64 ((rd_T77 l0_0 x6_2).f4.f1), .slice A162_7 ((rd_T77 l0_0 x6_2).f5).length c162_7]] (by rfl) rfl rfl (by (try simp only [List.map_toArray, List.map_cons, List.map_nil]); first | done | rfl | (simp only [List.length_drop, List.length_take]; rfl)) ?_
          with_reducible refine (spec_l11Of.calls ((rd_T77 l0_0 x6_2).f0) ((rd_T77 l0_0 x6_2).f1) ((rd_T77 l0_0 x6_2).f2) ((rd_T77 l0_0 x6_2).f3.f0) ((rd_T77 l0_0 x6_2).f3.f1) ((rd_T77 l0_0 x6_2).f4.f0) ((rd_T77 l0_0 x6_2).f4.f1) _ _ ((rd_T77 l0_0 x6_2).f5) t164 t165 t166 t167 t168 _ ?side1 ?side2 A23.out).mono ?_
          (case side1 => exact Cq (Kd.C_below HR163_7.out HB.out))
          (case side2 => exact HC163_7.out)
          rintro e w28 ⟨rfl, hb⟩
          refine ⟨_, rfl, ?_⟩
          replace HO_5 := Aside0.mk (Kd.R_below (Rq HO_5.out) hb)
          replace BK155 := bkb BK155 hb
          replace BK156 := bkb BK156 hb
          replace HB := bwb HB hb
          (try clear hb)
          (try clear hb2)
          (try clear hk)
          (try clear hi)
          refine hK.out _ _ ⟨(blk_cell BK155.out 0).trans rfl, (blk_cell BK156.out 0).trans rfl, (blk_cell BK156.out 1).trans rfl, (blk_cell BK156.out 2).trans rfl, (blk_cell BK156.out 3).trans rfl, (blk_cell BK156.out 4).trans rfl, ((HB.out.cell (World.block_lt_of_cell? w _ hw162_0)).trans hw162_0), ((HB.out.cell (World.block_lt_of_cell? w _ hw162_1)).trans hw162_1), ((HB.out.cell (World.block_lt_of_cell? w _ hw162_2)).trans hw162_2), ((HB.out.cell (World.block_lt_of_cell? w _ hw162_3)).trans hw162_3), ((HB.out.cell (World.block_lt_of_cell? w _ hw162_4)).trans hw162_4), ((HB.out.cell (World.block_lt_of_cell? w _ hw162_5)).trans hw162_5), ((HB.out.cell (World.block_lt_of_cell? w _ hw162_6)).trans hw162_6), ((HB.out.cell (World.block_lt_of_cell? w _ hw162_7)).trans hw162_7), ((HB.out.cell (World.block_lt_of_cell? w _ hw163_0)).trans hw163_0), ((HB.out.cell (World.block_lt_of_cell? w _ hw163_1)).trans hw163_1), ((HB.out.cell (World.block_lt_of_cell? w _ hw163_2)).trans hw163_2), ((HB.out.cell (World.block_lt_of_cell? w _ hw163_3)).trans hw163_3), ((HB.out.cell (World.block_lt_of_cell? w _ hw163_4)).trans hw163_4), ((HB.out.cell (World.block_lt_of_cell? w _ hw163_5)).trans hw163_5), ((HB.out.cell (World.block_lt_of_cell? w _ hw163_6)).trans hw163_6), ((HB.out.cell (World.block_lt_of_cell? w _ hw163_7)).trans hw163_7)⟩ (fun hHeld => ?_)
          clear hK K
          refine norm_ (a' := ?_) ?_ ?_
          rotate_left
          ·show Act.put _ (some 38) _ = _
           simp only [Act.put, List.setIfInBounds_toArray, List.set_cons_zero, List.set_cons_succ, i64_w, i32_w]
           rfl
          refine pure_ (i := 16) (N := some 40) (v := ?_) (a' := ?_) #[true, true, true, true, true, true, true, true, true, true, true, true, true, true, true, true, true, false, false, false, false] rfl rfl (any_of HT_.out (by kernel_rfl)) (fun _ _ _ h => h) (Or.inl ⟨by rfl, ?_⟩) ?_ ?_
          rotate_left
          ·intro w'
           go_simp
           with_reducible rfl
          rotate_left
          ·simp only [Act.put, List.setIfInBounds_toArray, List.set_cons_zero, List.set_cons_succ, i64_w, i32_w]
           rfl
          refine pure_ (i := 17) (N := some 41) (v := ?_) (a' := ?_) #[true, true, true, true, true, true, true, true, true, true, true, true, true, true, true, true, true, true, false, false, false] rfl rfl (any_of HT_.out (by kernel_rfl)) (fun _ _ _ h => h) (Or.inl ⟨by rfl, ?_⟩) ?_ ?_
          rotate_left
          ·intro w'
           go_simp
           with_reducible rfl
          rotate_left
          ·simp only [Act.put, List.setIfInBounds_toArray, List.set_cons_zero, List.set_cons_succ, i64_w, i32_w]
           rfl
          refine one_ (i := 18) (N := some 42) #[true, true, true, true, true, true, true, true, true, true, true, true, true, true, true, true, true, true, true, false, false] rfl rfl (one_of HT_.out (by kernel_rfl)) (by decide) (fun K hK => ?_)
          refine value_ (w1 := ?_) (v := ?_) (by rfl) rfl ?_ ?_
          rotate_left 2
          ·go_simp
           constructor
           ·rfl
           ·rfl
          refine hK.out _ _ ⟨(blk_cell (blk_alloc BK155.out _) 0).trans rfl, (blk_cell (blk_alloc BK156.out _) 0).trans rfl, (blk_cell (blk_alloc BK156.out _) 1).trans rfl, (blk_cell (blk_alloc BK156.out _) 2).trans rfl, (blk_cell (blk_alloc BK156.out _) 3).trans rfl, (blk_cell (blk_alloc BK156.out _) 4).trans rfl, (World.cell?_alloc_lt _ _ _ (World.block_lt_of_cell? _ _ (((HB.out.cell (World.block_lt_of_cell? w _ hw162_0)).trans hw162_0)))).trans (((HB.out.cell (World.block_lt_of_cell? w _ hw162_0)).trans hw162_0)), (World.cell?_alloc_lt _ _ _ (World.block_lt_of_cell? _ _ (((HB.out.cell (World.block_lt_of_cell? w _ hw162_1)).trans hw162_1)))).trans (((HB.out.cell (World.block_lt_of_cell? w _ hw162_1)).trans hw162_1)), (World.cell?_alloc_lt _ _ _ (World.block_lt_of_cell? _ _ (((HB.out.cell (World.block_lt_of_cell? w _ hw162_2)).trans hw162_2)))).trans (((HB.out.cell (World.block_lt_of_cell? w _ hw162_2)).trans hw162_2)), (World.cell?_alloc_lt _ _ _ (World.block_lt_of_cell? _ _ (((HB.out.cell (World.block_lt_of_cell? w _ hw162_3)).trans hw162_3)))).trans (((HB.out.cell (World.block_lt_of_cell? w _ hw162_3)).trans hw162_3)), (World.cell?_alloc_lt _ _ _ (World.block_lt_of_cell? _ _ (((HB.out.cell (World.block_lt_of_cell? w _ hw162_4)).trans hw162_4)))).trans (((HB.out.cell (World.block_lt_of_cell? w _ hw162_4)).trans hw162_4)), (World.cell?_alloc_lt _ _ _ (World.block_lt_of_cell? _ _ (((HB.out.cell (World.block_lt_of_cell? w _ hw162_5)).trans hw162_5)))).trans (((HB.out.cell (World.block_lt_of_cell? w _ hw162_5)).trans hw162_5)), (World.cell?_alloc_lt _ _ _ (World.block_lt_of_cell? _ _ (((HB.out.cell (World.block_lt_of_cell? w _ hw162_6)).trans hw162_6)))).trans (((HB.out.cell (World.block_lt_of_cell? w _ hw162_6)).trans hw162_6)), (World.cell?_alloc_lt _ _ _ (World.block_lt_of_cell? _ _ (((HB.out.cell (World.block_lt_of_cell? w _ hw162_7)).trans hw162_7)))).trans (((HB.out.cell (World.block_lt_of_cell? w _ hw162_7)).trans hw162_7)), (World.cell?_alloc_lt _ _ _ (World.block_lt_of_cell? _ _ (((HB.out.cell (World.block_lt_of_cell? w _ hw163_0)).trans hw163_0)))).trans (((HB.out.cell (World.block_lt_of_cell? w _ hw163_0)).trans hw163_0)), (World.cell?_alloc_lt _ _ _ (World.block_lt_of_cell? _ _ (((HB.out.cell (World.block_lt_of_cell? w _ hw163_1)).trans hw163_1)))).trans (((HB.out.cell (World.block_lt_of_cell? w _ hw163_1)).trans hw163_1)), (World.cell?_alloc_lt _ _ _ (World.block_lt_of_cell? _ _ (((HB.out.cell (World.block_lt_of_cell? w _ hw163_2)).trans hw163_2)))).trans (((HB.out.cell (World.block_lt_of_cell? w _ hw163_2)).trans hw163_2)), (World.cell?_alloc_lt _ _ _ (World.block_lt_of_cell? _ _ (((HB.out.cell (World.block_lt_of_cell? w _ hw163_3)).trans hw163_3)))).trans (((HB.out.cell (World.block_lt_of_cell? w _ hw163_3)).trans hw163_3)), (World.cell?_alloc_lt _ _ _ (World.block_lt_of_cell? _ _ (((HB.out.cell (World.block_lt_of_cell? w _ hw163_4)).trans hw163_4)))).trans (((HB.out.cell (World.block_lt_of_cell? w _ hw163_4)).trans hw163_4)), (World.cell?_alloc_lt _ _ _ (World.block_lt_of_cell? _ _ (((HB.out.cell (World.block_lt_of_cell? w _ hw163_5)).trans hw163_5)))).trans (((HB.out.cell (World.block_lt_of_cell? w _ hw163_5)).trans hw163_5)), (World.cell?_alloc_lt _ _ _ (World.block_lt_of_cell? _ _ (((HB.out.cell (World.block_lt_of_cell? w _ hw163_6)).trans hw163_6)))).trans (((HB.out.cell (World.block_lt_of_cell? w _ hw163_6)).trans hw163_6)), (World.cell?_alloc_lt _ _ _ (World.block_lt_of_cell? _ _ (((HB.out.cell (World.block_lt_of_cell? w _ hw163_7)).trans hw163_7)))).trans (((HB.out.cell (World.block_lt_of_cell? w _ hw163_7)).trans hw163_7))⟩ (fun hHeld => ?_)
          clear hK K
          refine norm_ (a' := ?_) ?_ ?_
          rotate_left
          ·show Act.put _ (some 42) _ = _
           simp only [Act.put, List.setIfInBounds_toArray, List.set_cons_zero, List.set_cons_succ, i64_w, i32_w]
           rfl
          refine one_ (i := 19) (N := some 43) #[true, true, true, true, true, true, true, true, true, true, true, true, true, true, true, true, true, true, true, true, false] rfl rfl (one_of HT_.out (by kernel_rfl)) (by decide) (fun K hK => ?_)
          refine Kd.R_append_step Kd.bool (w0 := w) w.heap.size (by rfl) (.tmp 24) (.tmp 42) 29 4 (.bool false) 1 rfl Try.underlying29 info4 rfl (by decide) (by omega) u5 x5_2 (t164 == a1_0 && ((t165 == a1_1 && (t166 == a1_2)) && ((t167 == a1_3 && (t168 == a1_4))))) [.bool (t164 == a1_0 && ((t165 == a1_1 && (t166 == a1_2)) && ((t167 == a1_3 && (t168 == a1_4)))))] (fun _ => True) (fun _ => False) rfl rfl ?aP (fun _ hk => hk.elim) ?aF ?aO ?aB ?aS ?aL ?_
          (case aP => exact rfl)
          (case aB => exact (bwq HB))
          (case aF => exact (fun _ _ => trivial))
          (case aO => exact (Rq HO_5.out))
          (case aS => exact (below_size (bwq HB)))
          (case aL => have := LMc24.out; omega)
          intro v170 w29 ho hb hg hat
          rw [← Ny169.out] at ho
          have n0_ := Aside0.mk (blk_grown (g := gb155) (o := .cells #[.slice (some ad162) l0_0.length c0_0] 38 (0, 0)) (bkq BK155) hg (Kd.R_ne HO_5.out BK155.out (by decide)))
          have n1_ := Aside0.mk (blk_grown (g := gb156) (o := .cells #[.int .i64 a1_0, .int .i64 a1_1, .int .i64 a1_2, .int .i64 a1_3, .int .i64 a1_4] 42 (0, 0)) (bkq BK156) hg (Kd.R_ne HO_5.out BK156.out (by decide)))
          have n2_ := Aside0.mk (hb)
          have n3_ := Aside0.mk (ho)
          clear BK155
          clear BK156
          clear HB
          clear HO_5
          have BK155 := n0_
          have BK156 := n1_
          have HB := n2_
          have HO171 := n3_
          clear n0_ n1_ n2_ n3_
          clear ho hb hg hat
          refine hK.out _ _ ⟨(blk_cell BK155.out 0).trans rfl, (blk_cell BK156.out 0).trans rfl, (blk_cell BK156.out 1).trans rfl, (blk_cell BK156.out 2).trans rfl, (blk_cell BK156.out 3).trans rfl, (blk_cell BK156.out 4).trans rfl, ((HB.out.cell (World.block_lt_of_cell? w _ hw162_0)).trans hw162_0), ((HB.out.cell (World.block_lt_of_cell? w _ hw162_1)).trans hw162_1), ((HB.out.cell (World.block_lt_of_cell? w _ hw162_2)).trans hw162_2), ((HB.out.cell (World.block_lt_of_cell? w _ hw162_3)).trans hw162_3), ((HB.out.cell (World.block_lt_of_cell? w _ hw162_4)).trans hw162_4), ((HB.out.cell (World.block_lt_of_cell? w _ hw162_5)).trans hw162_5), ((HB.out.cell (World.block_lt_of_cell? w _ hw162_6)).trans hw162_6), ((HB.out.cell (World.block_lt_of_cell? w _ hw162_7)).trans hw162_7), ((HB.out.cell (World.block_lt_of_cell? w _ hw163_0)).trans hw163_0), ((HB.out.cell (World.block_lt_of_cell? w _ hw163_1)).trans hw163_1), ((HB.out.cell (World.block_lt_of_cell? w _ hw163_2)).trans hw163_2), ((HB.out.cell (World.block_lt_of_cell? w _ hw163_3)).trans hw163_3), ((HB.out.cell (World.block_lt_of_cell? w _ hw163_4)).trans hw163_4), ((HB.out.cell (World.block_lt_of_cell? w _ hw163_5)).trans hw163_5), ((HB.out.cell (World.block_lt_of_cell? w _ hw163_6)).trans hw163_6), ((HB.out.cell (World.block_lt_of_cell? w _ hw163_7)).trans hw163_7)⟩ (fun hHeld => ?_)
          clear hK K
          refine norm_ (a' := ?_) ?_ ?_
          rotate_left
          ·show Act.put _ (some 43) _ = _
           simp only [Act.put, List.setIfInBounds_toArray, List.set_cons_zero, List.set_cons_succ, i64_w, i32_w]
           rfl
          refine pure_ (i := 20) (N := some 5) (v := ?_) (a' := ?_) #[true, true, true, true, true, true, true, true, true, true, true, true, true, true, true, true, true, true, true, true, true] rfl rfl (any_of HT_.out (by kernel_rfl)) (fun _ _ _ h => h) (Or.inl ⟨by rfl, ?_⟩) ?_ ?_
          rotate_left
          ·intro w'
           go_simp
           with_reducible rfl
          rotate_left
          ·simp only [Act.put, List.setIfInBounds_toArray, List.set_cons_zero, List.set_cons_succ, i64_w, i32_w]
           rfl
          refine done_ (done_of HT_.out (by kernel_rfl)) ?_
          try go_wp2
          go_roundg k2
          case measure => have := HJ2.out; have := HK2.out; omega
          case rel => exact ⟨(y169), (wrap64 (x6_2 + 1)), (by first | rfl | (simp; done) | (simp [*]; done)), H', ⟨by have := HJ2.out; have := HK2.out; omega⟩, ⟨Rq HO171.out⟩, ⟨bkq BK155⟩, ⟨bkq BK156⟩, ⟨bwq HB⟩⟩
         ·rw [if_neg c24] at H
          exact absurd H (by simp)
        ·rw [if_neg c22] at H
         have c22b0 : (((rd_T77 l0_0 x6_2).f0) == 1) = false := beq_eq_false_iff_ne.mpr c22
         have c22b1 : (((rd_T77 l0_0 x6_2).f0) != 1) = true := bne_iff_ne.mpr c22
         by_cases c30 : x5_2.length < 140737488355328
         ·rw [if_pos c30] at H
          have LMc30 := Aside0.mk c30
          clear c30
          obtain ⟨y172, hy172⟩ : ∃ y_ : List Bool, y_ = (x5_2 ++ [false]) := ⟨_, rfl⟩
          replace H : (spec_ExprComp.l0 k2 y172 (wrap64 (x6_2 + 1)) l0_0 a1_0 a1_1 a1_2 a1_3 a1_4) = some r := by first | (rw [hy172]; with_reducible exact H) | (have H2_ := (Option.bind_some _ _).symm.trans H; rw [hy172]; with_reducible exact H2_) | (have H2_ := (Option.bind_some _ _).symm.trans H; with_reducible exact H2_) | with_reducible exact H | (rw [hy172]; exact H) | exact H
          have Ny172 := Aside0.mk hy172
          clear hy172
          have H' := Aside0.mk H
          clear H
          have hnb31 := NB155_156.out
          have hnc31 := NB156_155.out
          obtain ⟨hcz32, hfz32⟩ := bcf BK155
          try go_wp2
          replace HO_5 := Aside0.mk (Kd.R_drew HO_5.out)
          replace BK155 := Aside0.mk (blk_drew BK155.out)
          replace BK156 := Aside0.mk (blk_drew BK156.out)
          replace HB := Aside0.mk (below_drew1 HB.out)
          have p162 : 0 ≤ (x6_2 : Int) := oda
          have q162 : x6_2 < (l0_0.length : Int) := oda
          obtain ⟨ad162, A162_7, c162_7, e162, hx162_0, hx162_1, hx162_2, hx162_3, hx162_4, hx162_5, hx162_6, hx162_7, hl162_7, hi162_7⟩ := at_T77 HR0_0.out x6_2 p162 q162
          have hw162_7 := hx162_7
          have hw162_6 := hx162_6
          have hw162_5 := hx162_5
          have hw162_4 := hx162_4
          have hw162_3 := hx162_3
          have hw162_2 := hx162_2
          have hw162_1 := hx162_1
          have hw162_0 := hx162_0
          cases e162
          replace hx162_0 := hxb HB hx162_0
          replace hx162_1 := hxb HB hx162_1
          replace hx162_2 := hxb HB hx162_2
          replace hx162_3 := hxb HB hx162_3
          replace hx162_4 := hxb HB hx162_4
          replace hx162_5 := hxb HB hx162_5
          replace hx162_6 := hxb HB hx162_6
          replace hx162_7 := hxb HB hx162_7
          have HR162_7 := Aside0.mk hi162_7
          have HC162_7 := Aside0.mk hl162_7
          clear hi162_7 hl162_7
          replace p162 := eq_true p162
          replace q162 := eq_true q162
          refine start_ (n := 21) (S := fun w' => w'.cell? ⟨gb155, 0, none⟩ = some (.slice (some ad162) l0_0.length c0_0) ∧ w'.cell? (ad162.add ((x6_2).toNat * 8)) = some (.int .i64 ((rd_T77 l0_0 x6_2).f0)) ∧ w'.cell? ⟨(ad162.add ((x6_2).toNat * 8)).block, (ad162.add ((x6_2).toNat * 8)).off + 1, none⟩ = some (.int .i64 ((rd_T77 l0_0 x6_2).f1)) ∧ w'.cell? ⟨(ad162.add ((x6_2).toNat * 8)).block, (ad162.add ((x6_2).toNat * 8)).off + 2, none⟩ = some (.int .i64 ((rd_T77 l0_0 x6_2).f2)) ∧ w'.cell? ⟨(ad162.add ((x6_2).toNat * 8)).block, (ad162.add ((x6_2).toNat * 8)).off + 3, none⟩ = some (.int .i64 ((rd_T77 l0_0 x6_2).f3.f0)) ∧ w'.cell? ⟨(ad162.add ((x6_2).toNat * 8)).block, (ad162.add ((x6_2).toNat * 8)).off + 4, none⟩ = some (.int .i64 ((rd_T77 l0_0 x6_2).f3.f1)) ∧ w'.cell? ⟨(ad162.add ((x6_2).toNat * 8)).block, (ad162.add ((x6_2).toNat * 8)).off + 5, none⟩ = some (.int .i64 ((rd_T77 l0_0 x6_2).f4.f0)) ∧ w'.cell? ⟨(ad162.add ((x6_2).toNat * 8)).block, (ad162.add ((x6_2).toNat * 8)).off + 6, none⟩ = some (.int .i64 ((rd_T77 l0_0 x6_2).f4.f1)) ∧ w'.cell? ⟨(ad162.add ((x6_2).toNat * 8)).block, (ad162.add ((x6_2).toNat * 8)).off + 7, none⟩ = some (.slice A162_7 ((rd_T77 l0_0 x6_2).f5).length c162_7)) (ds := []) #[false, false, false, false, false, false, false, false, false, false, false, false, false, false, false, false, false, false, false, false, false] (by kernel_rfl) rfl rfl ⟨(blk_cell BK155.out 0).trans rfl, ((HB.out.cell (World.block_lt_of_cell? w _ hw162_0)).trans hw162_0), ((HB.out.cell (World.block_lt_of_cell? w _ hw162_1)).trans hw162_1), ((HB.out.cell (World.block_lt_of_cell? w _ hw162_2)).trans hw162_2), ((HB.out.cell (World.block_lt_of_cell? w _ hw162_3)).trans hw162_3), ((HB.out.cell (World.block_lt_of_cell? w _ hw162_4)).trans hw162_4), ((HB.out.cell (World.block_lt_of_cell? w _ hw162_5)).trans hw162_5), ((HB.out.cell (World.block_lt_of_cell? w _ hw162_6)).trans hw162_6), ((HB.out.cell (World.block_lt_of_cell? w _ hw162_7)).trans hw162_7)⟩ (fun hHeld => ?_); refine with_tabW spec_ExprComp.tab7 spec_ExprComp.bits7 (fun HT_ HW_ => ?_)
          generalize wr.drew = w33 at HO_5 BK155 BK156 HB HR162_7 hx162_0 hx162_1 hx162_2 hx162_3 hx162_4 hx162_5 hx162_6 hx162_7 hHeld ⊢
          refine pure_ (i := 0) (N := some 24) (v := ?_) (a' := ?_) #[true, false, false, false, false, false, false, false, false, false, false, false, false, false, false, false, false, false, false, false, false] rfl rfl (any_of HT_.out (by kernel_rfl)) (fun _ _ _ h => h) (Or.inl ⟨by rfl, ?_⟩) ?_ ?_
          rotate_left
          ·intro w'
           go_simp
           with_reducible rfl
          rotate_left
          ·simp only [Act.put, List.setIfInBounds_toArray, List.set_cons_zero, List.set_cons_succ, i64_w, i32_w]
           rfl
          refine pure_ (i := 1) (N := some 25) (v := ?_) (a' := ?_) #[true, true, false, false, false, false, false, false, false, false, false, false, false, false, false, false, false, false, false, false, false] rfl rfl (any_of HT_.out (by kernel_rfl)) (fun _ _ _ h => h) (Or.inl ⟨by rfl, ?_⟩) ?_ ?_
          rotate_left
          ·intro w'
           go_simp
           with_reducible rfl
          rotate_left
          ·simp only [Act.put, List.setIfInBounds_toArray, List.set_cons_zero, List.set_cons_succ, i64_w, i32_w]
           rfl
          refine pure_ (i := 3) (N := some 27) (v := ?_) (a' := ?_) #[true, true, false, true, false, false, false, false, false, false, false, false, false, false, false, false, false, false, false, false, false] rfl rfl (any_of HT_.out (by kernel_rfl)) (fun _ _ _ h => h) (Or.inl ⟨by rfl, ?_⟩) ?_ ?_
          rotate_left
          ·intro w'
           go_simp
           with_reducible rfl
          rotate_left
          ·simp only [Act.put, List.setIfInBounds_toArray, List.set_cons_zero, List.set_cons_succ, i64_w, i32_w]
           rfl
          refine take_ (i := 2) (N := some 26) (v := ?_) (a' := ?_) #[true, true, true, true, false, false, false, false, false, false, false, false, false, false, false, false, false, false, false, false, false] rfl rfl (take_ofW HT_.out HW_.out (by kernel_rfl)) (fun _ _ _ h => h) (Or.inl ⟨by rfl, ?_⟩) hHeld ?_ ?_
          rotate_left
          ·rintro w' ⟨s0, s1, s2, s3, s4, s5, s6, s7, s8⟩
           go_simp
           with_reducible rfl
          rotate_left
          ·simp only [Act.put, List.setIfInBounds_toArray, List.set_cons_zero, List.set_cons_succ, i64_w, i32_w]
           rfl
          refine pure_ (i := 4) (N := some 28) (v := ?_) (a' := ?_) #[true, true, true, true, true, false, false, false, false, false, false, false, false, false, false, false, false, false, false, false, false] rfl rfl (any_of HT_.out (by kernel_rfl)) (fun _ _ _ h => h) (Or.inl ⟨by rfl, ?_⟩) ?_ ?_
          rotate_left
          ·intro w'
           go_simp
           with_reducible rfl
          rotate_left
          ·simp only [Act.put, List.setIfInBounds_toArray, List.set_cons_zero, List.set_cons_succ, i64_w, i32_w]
           rfl
          refine pure_ (i := 5) (N := some 29) (v := ?_) (a' := ?_) #[true, true, true, true, true, true, false, false, false, false, false, false, false, false, false, false, false, false, false, false, false] rfl rfl (any_of HT_.out (by kernel_rfl)) (fun _ _ _ h => h) (Or.inl ⟨by rfl, ?_⟩) ?_ ?_
          rotate_left
          ·intro w'
           go_simp
           with_reducible rfl
          rotate_left
          ·simp only [Act.put, List.setIfInBounds_toArray, List.set_cons_zero, List.set_cons_succ, i64_w, i32_w]
           rfl
          refine take_ (i := 6) (N := some 30) (v := ?_) (a' := ?_) #[true, true, true, true, true, true, true, false, false, false, false, false, false, false, false, false, false, false, false, false, false] rfl rfl (take_ofW HT_.out HW_.out (by kernel_rfl)) (fun _ _ _ h => h) (Or.inl ⟨by rfl, ?_⟩) hHeld ?_ ?_
          rotate_left
          ·rintro w' ⟨s0, s1, s2, s3, s4, s5, s6, s7, s8⟩
           go_simp
           with_reducible rfl
          rotate_left
          ·simp only [Act.put, List.setIfInBounds_toArray, List.set_cons_zero, List.set_cons_succ, i64_w, i32_w]
           rfl
          refine pure_ (i := 7) (N := some 31) (v := ?_) (a' := ?_) #[true, true, true, true, true, true, true, true, false, false, false, false, false, false, false, false, false, false, false, false, false] rfl rfl (any_of HT_.out (by kernel_rfl)) (fun _ _ _ h => h) (Or.inl ⟨by rfl, ?_⟩) ?_ ?_
          rotate_left
          ·intro w'
           go_simp
           with_reducible rfl
          rotate_left
          ·simp only [Act.put, List.setIfInBounds_toArray, List.set_cons_zero, List.set_cons_succ, i64_w, i32_w]
           rfl
          refine pure_ (i := 8) (N := some 32) (v := ?_) (a' := ?_) #[true, true, true, true, true, true, true, true, true, false, false, false, false, false, false, false, false, false, false, false, false] rfl rfl (any_of HT_.out (by kernel_rfl)) (fun _ _ _ h => h) (Or.inl ⟨by rfl, ?_⟩) ?_ ?_
          rotate_left
          ·intro w'
           go_simp
           with_reducible rfl
          rotate_left
          ·simp only [Act.put, List.setIfInBounds_toArray, List.set_cons_zero, List.set_cons_succ, i64_w, i32_w]
           rfl
          refine pure_ (i := 9) (N := some 33) (v := undef) (a' := ?_) #[true, true, true, true, true, true, true, true, true, true, false, false, false, false, false, false, false, false, false, false, false] rfl rfl (any_of HT_.out (by kernel_rfl)) (fun _ _ _ h => h) (Or.inr ⟨by rfl, rfl⟩) ?_ ?_
          rotate_left
          ·simp only [Act.put, List.setIfInBounds_toArray, List.set_cons_zero, List.set_cons_succ, i64_w, i32_w]
           rfl
          refine pure_ (i := 10) (N := some 34) (v := undef) (a' := ?_) #[true, true, true, true, true, true, true, true, true, true, true, false, false, false, false, false, false, false, false, false, false] rfl rfl (any_of HT_.out (by kernel_rfl)) (fun _ _ _ h => h) (Or.inr ⟨by rfl, rfl⟩) ?_ ?_
          rotate_left
          ·simp only [Act.put, List.setIfInBounds_toArray, List.set_cons_zero, List.set_cons_succ, i64_w, i32_w]
           rfl
          refine pure_ (i := 11) (N := some 35) (v := undef) (a' := ?_) #[true, true, true, true, true, true, true, true, true, true, true, true, false, false, false, false, false, false, false, false, false] rfl rfl (any_of HT_.out (by kernel_rfl)) (fun _ _ _ h => h) (Or.inr ⟨by rfl, rfl⟩) ?_ ?_
          rotate_left
          ·simp only [Act.put, List.setIfInBounds_toArray, List.set_cons_zero, List.set_cons_succ, i64_w, i32_w]
           rfl
          refine pure_ (i := 12) (N := some 36) (v := undef) (a' := ?_) #[true, true, true, true, true, true, true, true, true, true, true, true, true, false, false, false, false, false, false, false, false] rfl rfl (any_of HT_.out (by kernel_rfl)) (fun _ _ _ h => h) (Or.inr ⟨by rfl, rfl⟩) ?_ ?_
          rotate_left
          ·simp only [Act.put, List.setIfInBounds_toArray, List.set_cons_zero, List.set_cons_succ, i64_w, i32_w]
           rfl
          refine pure_ (i := 13) (N := some 37) (v := undef) (a' := ?_) #[true, true, true, true, true, true, true, true, true, true, true, true, true, true, false, false, false, false, false, false, false] rfl rfl (any_of HT_.out (by kernel_rfl)) (fun _ _ _ h => h) (Or.inr ⟨by rfl, rfl⟩) ?_ ?_
          rotate_left
          ·simp only [Act.put, List.setIfInBounds_toArray, List.set_cons_zero, List.set_cons_succ, i64_w, i32_w]
           rfl
          refine pure_ (i := 14) (N := some 38) (v := undef) (a' := ?_) #[true, true, true, true, true, true, true, true, true, true, true, true, true, true, true, false, false, false, false, false, false] rfl rfl (any_of HT_.out (by kernel_rfl)) (fun _ _ _ h => h) (Or.inr ⟨by rfl, rfl⟩) ?_ ?_
          rotate_left
          ·simp only [Act.put, List.setIfInBounds_toArray, List.set_cons_zero, List.set_cons_succ, i64_w, i32_w]
           rfl
          refine pure_ (i := 15) (N := some 39) (v := undef) (a' := ?_) #[true, true, true, true, true, true, true, true, true, true, true, true, true, true, true, true, false, false, false, false, false] rfl rfl (any_of HT_.out (by kernel_rfl)) (fun _ _ _ h => h) (Or.inr ⟨by rfl, rfl⟩) ?_ ?_
          rotate_left
          ·simp only [Act.put, List.setIfInBounds_toArray, List.set_cons_zero, List.set_cons_succ, i64_w, i32_w]
           rfl
          refine pure_ (i := 16) (N := some 40) (v := undef) (a' := ?_) #[true, true, true, true, true, true, true, true, true, true, true, true, true, true, true, true, true, false, false, false, false] rfl rfl (any_of HT_.out (by kernel_rfl)) (fun _ _ _ h => h) (Or.inr ⟨by rfl, rfl⟩) ?_ ?_
          rotate_left
          ·simp only [Act.put, List.setIfInBounds_toArray, List.set_cons_zero, List.set_cons_succ, i64_w, i32_w]
           rfl
          refine pure_ (i := 17) (N := some 41) (v := ?_) (a' := ?_) #[true, true, true, true, true, true, true, true, true, true, true, true, true, true, true, true, true, true, false, false, false] rfl rfl (any_of HT_.out (by kernel_rfl)) (fun _ _ _ h => h) (Or.inl ⟨by rfl, ?_⟩) ?_ ?_
          rotate_left
          ·intro w'
           go_simp
           with_reducible rfl
          rotate_left
          ·simp only [Act.put, List.setIfInBounds_toArray, List.set_cons_zero, List.set_cons_succ, i64_w, i32_w]
           rfl
          refine one_ (i := 18) (N := some 42) #[true, true, true, true, true, true, true, true, true, true, true, true, true, true, true, true, true, true, true, false, false] rfl rfl (one_of HT_.out (by kernel_rfl)) (by decide) (fun K hK => ?_)
          refine value_ (w1 := ?_) (v := ?_) (by rfl) rfl ?_ ?_
          rotate_left 2
          ·go_simp
           constructor
           ·rfl
           ·rfl
          refine hK.out _ _ ⟨(blk_cell (blk_alloc BK155.out _) 0).trans rfl, (World.cell?_alloc_lt _ _ _ (World.block_lt_of_cell? _ _ (((HB.out.cell (World.block_lt_of_cell? w _ hw162_0)).trans hw162_0)))).trans (((HB.out.cell (World.block_lt_of_cell? w _ hw162_0)).trans hw162_0)), (World.cell?_alloc_lt _ _ _ (World.block_lt_of_cell? _ _ (((HB.out.cell (World.block_lt_of_cell? w _ hw162_1)).trans hw162_1)))).trans (((HB.out.cell (World.block_lt_of_cell? w _ hw162_1)).trans hw162_1)), (World.cell?_alloc_lt _ _ _ (World.block_lt_of_cell? _ _ (((HB.out.cell (World.block_lt_of_cell? w _ hw162_2)).trans hw162_2)))).trans (((HB.out.cell (World.block_lt_of_cell? w _ hw162_2)).trans hw162_2)), (World.cell?_alloc_lt _ _ _ (World.block_lt_of_cell? _ _ (((HB.out.cell (World.block_lt_of_cell? w _ hw162_3)).trans hw162_3)))).trans (((HB.out.cell (World.block_lt_of_cell? w _ hw162_3)).trans hw162_3)), (World.cell?_alloc_lt _ _ _ (World.block_lt_of_cell? _ _ (((HB.out.cell (World.block_lt_of_cell? w _ hw162_4)).trans hw162_4)))).trans (((HB.out.cell (World.block_lt_of_cell? w _ hw162_4)).trans hw162_4)), (World.cell?_alloc_lt _ _ _ (World.block_lt_of_cell? _ _ (((HB.out.cell (World.block_lt_of_cell? w _ hw162_5)).trans hw162_5)))).trans (((HB.out.cell (World.block_lt_of_cell? w _ hw162_5)).trans hw162_5)), (World.cell?_alloc_lt _ _ _ (World.block_lt_of_cell? _ _ (((HB.out.cell (World.block_lt_of_cell? w _ hw162_6)).trans hw162_6)))).trans (((HB.out.cell (World.block_lt_of_cell? w _ hw162_6)).trans hw162_6)), (World.cell?_alloc_lt _ _ _ (World.block_lt_of_cell? _ _ (((HB.out.cell (World.block_lt_of_cell? w _ hw162_7)).trans hw162_7)))).trans (((HB.out.cell (World.block_lt_of_cell? w _ hw162_7)).trans hw162_7))⟩ (fun hHeld => ?_)
          clear hK K
          refine norm_ (a' := ?_) ?_ ?_
          rotate_left
          ·show Act.put _ (some 42) _ = _
           simp only [Act.put, List.setIfInBounds_toArray, List.set_cons_zero, List.set_cons_succ, i64_w, i32_w]
           rfl
          refine one_ (i := 19) (N := some 43) #[true, true, true, true, true, true, true, true, true, true, true, true, true, true, true, true, true, true, true, true, false] rfl rfl (one_of HT_.out (by kernel_rfl)) (by decide) (fun K hK => ?_)
          refine Kd.R_append_step Kd.bool (w0 := w) w.heap.size (by rfl) (.tmp 24) (.tmp 42) 29 4 (.bool false) 1 rfl Try.underlying29 info4 rfl (by decide) (by omega) u5 x5_2 false [.bool false] (fun _ => True) (fun _ => False) rfl rfl ?aP (fun _ hk => hk.elim) ?aF ?aO ?aB ?aS ?aL ?_
          (case aP => exact rfl)
          (case aB => exact (bwq HB))
          (case aF => exact (fun _ _ => trivial))
          (case aO => exact (Rq HO_5.out))
          (case aS => exact (below_size (bwq HB)))
          (case aL => have := LMc30.out; omega)
          intro v173 w34 ho hb hg hat
          rw [← Ny172.out] at ho
          have n0_ := Aside0.mk (blk_grown (g := gb155) (o := .cells #[.slice (some ad162) l0_0.length c0_0] 38 (0, 0)) (bkq BK155) hg (Kd.R_ne HO_5.out BK155.out (by decide)))
          have n1_ := Aside0.mk (blk_grown (g := gb156) (o := .cells #[.int .i64 a1_0, .int .i64 a1_1, .int .i64 a1_2, .int .i64 a1_3, .int .i64 a1_4] 42 (0, 0)) (bkq BK156) hg (Kd.R_ne HO_5.out BK156.out (by decide)))
          have n2_ := Aside0.mk (hb)
          have n3_ := Aside0.mk (ho)
          clear BK155
          clear BK156
          clear HB
          clear HO_5
          have BK155 := n0_
          have BK156 := n1_
          have HB := n2_
          have HO174 := n3_
          clear n0_ n1_ n2_ n3_
          clear ho hb hg hat
          refine hK.out _ _ ⟨(blk_cell BK155.out 0).trans rfl, ((HB.out.cell (World.block_lt_of_cell? w _ hw162_0)).trans hw162_0), ((HB.out.cell (World.block_lt_of_cell? w _ hw162_1)).trans hw162_1), ((HB.out.cell (World.block_lt_of_cell? w _ hw162_2)).trans hw162_2), ((HB.out.cell (World.block_lt_of_cell? w _ hw162_3)).trans hw162_3), ((HB.out.cell (World.block_lt_of_cell? w _ hw162_4)).trans hw162_4), ((HB.out.cell (World.block_lt_of_cell? w _ hw162_5)).trans hw162_5), ((HB.out.cell (World.block_lt_of_cell? w _ hw162_6)).trans hw162_6), ((HB.out.cell (World.block_lt_of_cell? w _ hw162_7)).trans hw162_7)⟩ (fun hHeld => ?_)
          clear hK K
          refine norm_ (a' := ?_) ?_ ?_
          rotate_left
          ·show Act.put _ (some 43) _ = _
           simp only [Act.put, List.setIfInBounds_toArray, List.set_cons_zero, List.set_cons_succ, i64_w, i32_w]
           rfl
          refine pure_ (i := 20) (N := some 5) (v := ?_) (a' := ?_) #[true, true, true, true, true, true, true, true, true, true, true, true, true, true, true, true, true, true, true, true, true] rfl rfl (any_of HT_.out (by kernel_rfl)) (fun _ _ _ h => h) (Or.inl ⟨by rfl, ?_⟩) ?_ ?_
          rotate_left
          ·intro w'
           go_simp
           with_reducible rfl
          rotate_left
          ·simp only [Act.put, List.setIfInBounds_toArray, List.set_cons_zero, List.set_cons_succ, i64_w, i32_w]
           rfl
          refine done_ (done_of HT_.out (by kernel_rfl)) ?_
          try go_wp2
          go_roundg k2
          case measure => have := HJ2.out; have := HK2.out; omega
          case rel => exact ⟨(y172), (wrap64 (x6_2 + 1)), (by first | rfl | (simp; done) | (simp [*]; done)), H', ⟨by have := HJ2.out; have := HK2.out; omega⟩, ⟨Rq HO174.out⟩, ⟨bkq BK155⟩, ⟨bkq BK156⟩, ⟨bwq HB⟩⟩
         ·rw [if_neg c30] at H
          exact absurd H (by simp)
       ·rw [if_neg c21] at H
        exact absurd H (by simp)
      ·rw [if_neg c20] at H
       have c20b0 : decide (x6_2 < (l0_0.length : Int)) = false := decide_eq_false c20
       clear c20
       obtain rfl := Option.some.inj H
       have hnb35 := NB155_156.out
       have hnc35 := NB156_155.out
       obtain ⟨hcz36, hfz36⟩ := bcf BK155
       go_wp2
       go_ret
       exact ⟨_, by first | rfl | (simp [errW_none, errW_some] <;> rfl) | (simp [*, errW_none, errW_some] <;> rfl), Rq HO_5.out, bwq HB⟩
end Go.Proofs.Ytcgbbhkjkkpfoaa.P
namespace Go.Proofs.Ytcgbbhkjkkpfoaa.P
open Go.RowKit Go.Proofs.YtcgbbhkjkkpfoaaW.PrintWords Go.Proofs.YtcgbbhkjkkpfoaaW.PrintLast Go.Proofs.YtcgbbhkjkkpfoaaW.PrintMore
attribute [local go_sem] max2_int min2_int max_two min_two max_three min_three max_four min_four
set_option linter.unusedVariables false
set_option linter.unusedSimpArgs false
mutual
def spec_FlowReach.l0 : Nat → List Bool → Bool → List (S77) → Option (List Bool)
 | 0, _, _, _ => none
 | k + 1, x3, x4, x453000 => if x4 = true then (spec_FlowReach.l1 k x3 false 0 x453000) else (some x3)
def spec_FlowReach.l1 : Nat → List Bool → Bool → Int → List (S77) → Option (List Bool)
 | 0, _, _, _, _ => none
 | k + 1, x3, x4, x5, x453000 => if x5 < (x453000.length : Int) then (spec_FlowReach.l2 k x3 x4 x5 0 x453000) else (spec_FlowReach.l0 k x3 x4 x453000)
def spec_FlowReach.l2 : Nat → List Bool → Bool → Int → Int → List (S77) → Option (List Bool)
 | 0, _, _, _, _, _ => none
 | k + 1, x3, x4, x5, x6, x453000 => if 0 ≤ x5 then (if x5 < (x453000.length : Int) then (if x6 < (((rd_T77 x453000 x5).f5).length : Int) then (if x5 < (x3.length : Int) then (spec_FlowReach.j3 k x3 x4 x5 x6 (rdOf false x3 x5) x453000) else (none)) else (spec_FlowReach.j3 k x3 x4 x5 x6 false x453000)) else (none)) else (none)
def spec_FlowReach.j3 : Nat → List Bool → Bool → Int → Int → Bool → List (S77) → Option (List Bool)
 | 0, _, _, _, _, _, _ => none
 | k + 1, x3, x4, x5, x6, x39, x453000 => if x39 = true then (if 0 ≤ x5 then (if x5 < (x453000.length : Int) then (if 0 ≤ x6 then (if x6 < (((rd_T77 x453000 x5).f5).length : Int) then (if 0 ≤ (rd ((rd_T77 x453000 x5).f5) x6) then (if (rd ((rd_T77 x453000 x5).f5) x6) < (x3.length : Int) then (if (rdOf false x3 (rd ((rd_T77 x453000 x5).f5) x6) = true) then (spec_FlowReach.l2 k x3 x4 x5 (wrap64 (x6 + 1)) x453000) else (spec_FlowReach.l2 k (x3.set ((rd ((rd_T77 x453000 x5).f5) x6) : Int).toNat true) true x5 (wrap64 (x6 + 1)) x453000)) else (none)) else (none)) else (none)) else (none)) else (none)) else (none)) else (spec_FlowReach.l1 k x3 x4 (wrap64 (x5 + 1)) x453000)
end
def spec_FlowReach.f (k : Nat) (l0_0 : List (S77)) : Option (List Bool) := (spec_ProgOk.f k l0_0).bind fun t453 => (if t453 = true then (if 0 ≤ (l0_0.length : Int) then (if ((l0_0.length : Int) : Int).toNat ≤ 281474976710656 then ((some (List.replicate ((l0_0.length : Int) : Int).toNat false : List Bool)).bind fun y457 => (if 0 < (y457.length : Int) then (spec_FlowReach.l0 k (y457.set (0 : Int).toNat true) true l0_0) else (none))) else (none)) else (none)) else (some (([] : List Bool))))
set_option maxHeartbeats 8000000 in
set_option maxRecDepth 100000 in
theorem spec_FlowReach.calls (k : Nat) (A0_0 : Option Addr) (c0_0 : Nat) (l0_0 : List (S77)) (r : List Bool) (w : World) (hr0_0 : Kd.C k77 w A0_0 l0_0.length l0_0) (hc0_0 : l0_0.length ≤ c0_0) (h : spec_FlowReach.f k l0_0 = some r) :
  Calls Try.prog 65 #[.agg #[.slice A0_0 l0_0.length c0_0]] w fun e w' => ∃ v0_ : Value, e = .returned (v0_) ∧ Kd.R Kd.bool 4 w' w.heap.size (fun _ => True) v0_ r ∧ Below w.heap.size w w' := by
 have hu38 := Try.underlying38
 have HR0_0 := Aside0.mk hr0_0
 have HC0_0 := Aside0.mk hc0_0
 clear hr0_0 hc0_0
 have HB := Aside0.mk (Below.refl w.heap.size w)
 have H : ((spec_ProgOk.f k l0_0).bind fun t453 => (if t453 = true then (if 0 ≤ (l0_0.length : Int) then (if ((l0_0.length : Int) : Int).toNat ≤ 281474976710656 then ((some (List.replicate ((l0_0.length : Int) : Int).toNat false : List Bool)).bind fun y457 => (if 0 < (y457.length : Int) then (spec_FlowReach.l0 k (y457.set (0 : Int).toNat true) true l0_0) else (none))) else (none)) else (none)) else (some (([] : List Bool))))) = some r := h
 clear h
 replace H := Option.bind_eq_some_iff.mp H
 obtain ⟨t453, A20, H⟩ := H
 have A2 := Aside0.mk A20
 clear A20
 by_cases c3 : t453 = true
 ·subst c3
  rw [if_pos rfl] at H
  by_cases c4 : 0 ≤ (l0_0.length : Int)
  ·rw [if_pos c4] at H
   have c4b0 := eq_true c4
   have c4b1 : decide (0 ≤ (l0_0.length : Int)) = true := decide_eq_true c4
   clear c4
   by_cases c5 : ((l0_0.length : Int) : Int).toNat ≤ 281474976710656
   ·rw [if_pos c5] at H
    have c5b0 := eq_true c5
    have c5b1 : decide (((l0_0.length : Int) : Int).toNat ≤ 281474976710656) = true := decide_eq_true c5
    clear c5
    obtain ⟨y457, hy457⟩ : ∃ y_ : List Bool, y_ = (List.replicate ((l0_0.length : Int) : Int).toNat false) := ⟨_, rfl⟩
    replace H : (if 0 < (y457.length : Int) then (spec_FlowReach.l0 k (y457.set (0 : Int).toNat true) true l0_0) else (none)) = some r := by first | (rw [hy457]; with_reducible exact H) | (have H2_ := (Option.bind_some _ _).symm.trans H; rw [hy457]; with_reducible exact H2_) | (have H2_ := (Option.bind_some _ _).symm.trans H; with_reducible exact H2_) | with_reducible exact H | (rw [hy457]; exact H) | exact H
    have Ny457 := Aside0.mk hy457
    clear hy457
    by_cases c6 : 0 < (y457.length : Int)
    ·rw [if_pos c6] at H
     have c6b0 : decide (0 < (y457.length : Int)) = true := decide_eq_true c6
     have c6b1 : decide (0 < y457.length) = true := decide_eq_true (by omega)
     clear c6
     obtain ⟨y460, hy460⟩ : ∃ y_ : List Bool, y_ = (y457.set (0 : Int).toNat true) := ⟨_, rfl⟩
     replace H : (spec_FlowReach.l0 k y460 true l0_0) = some r := by first | (rw [hy460]; with_reducible exact H) | (have H2_ := (Option.bind_some _ _).symm.trans H; rw [hy460]; with_reducible exact H2_) | (have H2_ := (Option.bind_some _ _).symm.trans H; with_reducible exact H2_) | with_reducible exact H | (rw [hy460]; exact H) | exact H
     have Ny460 := Aside0.mk hy460
     clear hy460
     have H' := Aside0.mk H
     clear H
     go_enter Try.func65, Try.ntmps65
     go_wp2_with (first | ((with_reducible refine gate_dst (N := 1) rfl ?_); refine bxe (cs := #[.slice A0_0 l0_0.length c0_0]) (t := 38) ?_; intro gb452 hg w8 hbox hb; have BK452 := Aside0.mk (hbox); have GW452 := bwz HB hg; have GE452 := bwz HB hg; replace HB := bwb HB hb; clear hb hbox hg; obtain ⟨hcz9, hfz9⟩ := bcf BK452) | ((with_reducible refine gate_callee (f := 76) rfl ?_); refine goesM (some 8) rfl rfl Try.func76 #[.agg #[.slice A0_0 l0_0.length c0_0]] rfl ?_; (with_reducible refine (spec_ProgOk.calls k _ _ l0_0 true _ ?side1 ?side2 A2.out).mono ?_); (case side1 => exact Cq (Kd.C_below HR0_0.out HB.out)); (case side2 => exact HC0_0.out); rintro e w10 ⟨rfl, hb⟩; refine ⟨_, rfl, ?_⟩; replace BK452 := bkb BK452 hb; replace HB := bwb HB hb; (try clear hb); (try clear hb2); (try clear hk); (try clear hi); obtain ⟨hcz11, hfz11⟩ := bcf BK452) | ((with_reducible refine gate_dst (N := 14) rfl ?_); refine Kd.R_make Kd.bool _ 4 rfl (N := 14) rfl 29 _ _ rfl (l0_0.length : Int) rfl rfl Try.underlying29 (.bool false) 1 info4 rfl (by decide) (by omega) false (ok := fun _ => True) (okp := fun _ => True) rfl (fun _ hk => hk) trivial (oda) (Nat.le_trans (Nat.mul_le_mul_right _ (oda : (l0_0.length : Int).toNat ≤ 281474976710656)) (by omega)) (Below.refl _ _) (Nat.le_refl _) ?_; intro v458 w12 ho13 hb hg_ hnew_; clear hg_ hnew_; (first | rw [← Ny457.out] at ho13 | (simp only [Int.reduceToNat] at ho13; rw [← Ny457.out] at ho13)); have HO459 := Aside0.mk (Kd.R_lower ho13 (below_size (bwq HB))); replace BK452 := bkb BK452 hb; replace HB := bwb HB hb; clear hb ho13; have p7 : 0 ≤ (0 : Int) := (by omega); have q7 : (0 : Int) < ((y457.length : Int) : Int) := oda; have qi7 : (0 < y457.length) = True := eq_true (by omega); obtain ⟨go7, co7, eo7, gb7, gl7, cl7, HG7⟩ := Kd.R_form HO459.out (by omega); (first | cases eo7 | (injection eo7 with ea_ en_ ec_; (first | subst ea_ | (injection ea_ with ea_; subst ea_)); subst ec_; clear en_)); have GB7 := Aside0.mk gb7; have GG7 := Aside0.mk HG7; clear gb7 gl7 HG7; obtain ⟨hx7_0, hf7_0⟩ := Kd.R_celln false HO459.out (0 : Int) p7 q7; (try rw [show ((0 : Int)).toNat = 0 from rfl] at hx7_0); (try simp only [Nat.reduceMul, Nat.zero_mul, Nat.zero_add, Nat.reduceAdd] at hx7_0); (try rw [show ((0 : Int)).toNat = 0 from rfl] at hf7_0); (try simp only [Nat.reduceMul, Nat.zero_mul, Nat.zero_add, Nat.reduceAdd] at hf7_0); replace p7 := eq_true p7; replace q7 := eq_true q7; obtain ⟨hy14_, hz14_⟩ := Kd.R_celln false HO459.out (0 : Int) (by omega) (oda); (try simp only [Int.reduceToNat, Int.toNat_zero, Int.toNat_ofNat, Nat.reduceMul, Nat.zero_mul, Nat.zero_add] at hy14_ hz14_); (try rw [show ((0 : Int)).toNat = 0 from rfl] at hy14_); (try rw [show ((0 : Int)).toNat = 0 from rfl] at hz14_); have HP14 := Kd.R_putg HO459.out (0 : Int) true) | ((with_reducible refine gate_store (t := 4) (p := 16) rfl ?_); refine store_event (t := 4) (p := 16) (v := ?vo_w15) (w1 := (w12.setCell ⟨go7, (0 : Int).toNat, none⟩ (.bool true))) ?hg ?ho ?hn ?hr ?_; (case ho => rfl); (case hg => rfl); (case hn => rfl); (case hr => first | (go_simp; done) | (go_simp; rfl) | (go_simp; rfl)); intro w15 hw; have hg : w12.grownBy w15 (some go7) := (by rw [hw]; exact HP14.2); have hp_ : Kd.R Kd.bool 4 w15 w.heap.size (fun _ => True) (.slice (some ⟨go7, 0, none⟩) y457.length co7) y460 := (by rw [hw, Ny460.out]; exact HP14.1); clear HP14; replace BK452 := Aside0.mk (blk_grown (g := gb452) (o := .cells #[.slice A0_0 l0_0.length c0_0] 38 (0, 0)) (bkq BK452) hg (Kd.R_ne HO459.out BK452.out (by decide))); replace HO459 := Aside0.mk (hp_); replace HB := Aside0.mk ((by rw [hw]; exact below_set (HB.out) GB7.out : Below w.heap.size w w15)); clear hg hw hp_))
     go_loopg [4] k (fun kq v4 w' => ∃ (x3_1 : List Bool) (x4_1 : Bool), v4 = .bool x4_1 ∧ Aside0 (spec_FlowReach.l0 kq x3_1 x4_1 l0_0 = some r) ∧ Aside0 (kq ≤ k) ∧ Aside0 (Kd.R Kd.bool 4 w' w.heap.size (fun _ => True) (.slice (some ⟨go7, 0, none⟩) y457.length co7) x3_1) ∧ Aside0 (w'.heap[gb452]? = some (.cells #[(.slice A0_0 l0_0.length c0_0)] 38 (0, 0))) ∧ Aside0 (Below w.heap.size w w'))
     case atStart => exact ⟨(y460), (true), (by first | rfl | (simp; done) | (simp [*]; done)), H', ⟨Nat.le_refl _⟩, ⟨Rq HO459.out⟩, ⟨bkq BK452⟩, ⟨bwq HB⟩⟩
     case round =>
      clear H'
      try clear p2
      try clear c3
      try clear c4
      try clear c4b0
      try clear c4b1
      try clear c5
      try clear c5b0
      try clear c5b1
      try clear c6
      try clear c6b0
      try clear c6b1
      try clear c7
      try clear p7
      try clear q7
      try clear hx7
      try clear qi7
      try clear hf7
      try clear hcz11
      try clear hcz9
      try clear hfz11
      try clear hfz9
      try clear hx7_0
      try clear p7
      try clear q7
      obtain ⟨x3_1, x4_1, rfl, HA, HK1, HO_3, BK452, HB⟩ := hrel
      have hl3_1 := (Kd.R_reads' HO_3.out).1
      rw [hl3_1] at HO_3
      (try simp only [hl3_1])
      (try simp only [hl3_1] at BK452)
      cases gk with
      | zero => exact absurd HA.out (by intro h_; first | (cases h_; done) | (simp [spec_FlowReach.l0] at h_))
      | succ k1 =>
       have H := HA.out
       clear HA
       simp only [spec_FlowReach.l0] at H
       by_cases c16 : x4_1 = true
       ·subst c16
        rw [if_pos rfl] at H
        have H' := Aside0.mk H
        clear H
        go_wp2
        go_loopg [4, 5] k1 (fun kq v4 v5 w' => ∃ (x3_2 : List Bool) (x4_2 : Bool) (x5_2 : Int), v4 = .bool x4_2 ∧ v5 = .int .i64 x5_2 ∧ Aside0 (spec_FlowReach.l1 kq x3_2 x4_2 x5_2 l0_0 = some r) ∧ Aside0 (kq ≤ k1) ∧ Aside0 (Kd.R Kd.bool 4 w' w.heap.size (fun _ => True) (.slice (some ⟨go7, 0, none⟩) x3_1.length co7) x3_2) ∧ Aside0 (w'.heap[gb452]? = some (.cells #[(.slice A0_0 l0_0.length c0_0)] 38 (0, 0))) ∧ Aside0 (Below w.heap.size w w'))
        case atStart => exact ⟨(x3_1), (false), (0), (by first | rfl | (simp; done) | (simp [*]; done)), (by first | rfl | (simp; done) | (simp [*]; done)), H', ⟨Nat.le_refl _⟩, ⟨by (try simp only [hl3_1]); exact Rq HO_3.out⟩, ⟨by (try simp only [hl3_1]); exact bkq BK452⟩, ⟨bwq HB⟩⟩
        case round =>
         clear H'
         try clear c1
         try clear p2
         try clear c3
         try clear c4
         try clear c4b0
         try clear c4b1
         try clear c5
         try clear c5b0
         try clear c5b1
         try clear c6
         try clear c6b0
         try clear c6b1
         try clear c7
         try clear p7
         try clear q7
         try clear hx7
         try clear qi7
         try clear hf7
         try clear c16
         try clear hcz11
         try clear hcz9
         try clear hfz11
         try clear hfz9
         try clear hx7_0
         try clear p2
         try clear p7
         try clear q7
         obtain ⟨x3_2, x4_2, x5_2, rfl, rfl, HA, HK2, HO_3, BK452, HB⟩ := hrel
         have hl3_2 := (Kd.R_reads' HO_3.out).1
         rw [hl3_2] at HO_3
         (try simp only [hl3_2])
         (try simp only [hl3_2] at BK452)
         cases gk with
         | zero => exact absurd HA.out (by intro h_; first | (cases h_; done) | (simp [spec_FlowReach.l1] at h_))
         | succ k2 =>
          have H := HA.out
          clear HA
          simp only [spec_FlowReach.l1] at H
          by_cases c17 : x5_2 < (l0_0.length : Int)
          ·rw [if_pos c17] at H
           have c17b0 : decide (x5_2 < (l0_0.length : Int)) = true := decide_eq_true c17
           clear c17
           have H' := Aside0.mk H
           clear H
           obtain ⟨hcz18, hfz18⟩ := bcf BK452
           go_wp2
           go_loopg [4, 6] k2 (fun kq v4 v6 w' => ∃ (x3_3 : List Bool) (x4_3 : Bool) (x6_3 : Int), v4 = .bool x4_3 ∧ v6 = .int .i64 x6_3 ∧ Aside0 (spec_FlowReach.l2 kq x3_3 x4_3 x5_2 x6_3 l0_0 = some r) ∧ Aside0 (kq ≤ k2) ∧ Aside0 (Kd.R Kd.bool 4 w' w.heap.size (fun _ => True) (.slice (some ⟨go7, 0, none⟩) x3_2.length co7) x3_3) ∧ Aside0 (w'.heap[gb452]? = some (.cells #[(.slice A0_0 l0_0.length c0_0)] 38 (0, 0))) ∧ Aside0 (Below w.heap.size w w'))
           case atStart => exact ⟨(x3_2), (x4_2), (0), (by first | rfl | (simp; done) | (simp [*]; done)), (by first | rfl | (simp; done) | (simp [*]; done)), H', ⟨Nat.le_refl _⟩, ⟨by (try simp only [hl3_1]); (try simp only [hl3_2]); exact Rq HO_3.out⟩, ⟨by (try simp only [hl3_1]); (try simp only [hl3_2]); exact bkq BK452⟩, ⟨bwq HB⟩⟩
           case round =>
            clear H'
            try clear c1
            try clear p2
            try clear c3
            try clear c4
            try clear c4b0
            try clear c4b1
            try clear c5
            try clear c5b0
            try clear c5b1
            try clear c6
            try clear c6b0
            try clear c6b1
            try clear c7
            try clear p7
            try clear q7
            try clear hx7
            try clear qi7
            try clear hf7
            try clear c16
            try clear c17
            try clear c17b0
            try clear hcz11
            try clear hcz18
            try clear hcz9
            try clear hfz11
            try clear hfz18
            try clear hfz9
            try clear hx7_0
            try clear p2
            try clear p7
            try clear q7
            obtain ⟨x3_3, x4_3, x6_3, rfl, rfl, HA, HK3, HO_3, BK452, HB⟩ := hrel
            have hl3_3 := (Kd.R_reads' HO_3.out).1
            rw [hl3_3] at HO_3
            (try simp only [hl3_3])
            (try simp only [hl3_3] at BK452)
            cases gk with
            | zero => exact absurd HA.out (by intro h_; first | (cases h_; done) | (simp [spec_FlowReach.l2] at h_))
            | succ k3 =>
             have H := HA.out
             clear HA
             simp only [spec_FlowReach.l2] at H
             have HC19 := Aside0.mk H
             clear H
             go_upto_region 12 with (fail)
             go_cut [39] (fun v39 wc => ∃ (kq : Nat) (x39_18 : Bool), v39 = .bool x39_18 ∧ Aside0 (spec_FlowReach.j3 kq x3_3 x4_3 x5_2 x6_3 x39_18 l0_0 = some r) ∧ Aside0 (kq ≤ k3) ∧ Aside0 (Kd.R Kd.bool 4 wc w.heap.size (fun _ => True) (.slice (some ⟨go7, 0, none⟩) x3_3.length co7) x3_3) ∧ Aside0 (wc.heap[gb452]? = some (.cells #[(.slice A0_0 l0_0.length c0_0)] 38 (0, 0))) ∧ Aside0 (Below w.heap.size w wc))
             case first =>
              have H := HC19.out
              clear HC19
              by_cases c20 : 0 ≤ x5_2
              ·rw [if_pos c20] at H
               have c20b0 : decide (0 ≤ x5_2) = true := decide_eq_true c20
               clear c20
               (first | rw [c20b0] | (simp only [i64_w, i32_w]; rw [c20b0]) | skip)
               by_cases c21 : x5_2 < (l0_0.length : Int)
               ·rw [if_pos c21] at H
                have c21b0 : decide (x5_2 < (l0_0.length : Int)) = true := decide_eq_true c21
                clear c21
                by_cases c22 : x6_3 < (((rd_T77 l0_0 x5_2).f5).length : Int)
                ·rw [if_pos c22] at H
                 have c22b0 : decide (x6_3 < (((rd_T77 l0_0 x5_2).f5).length : Int)) = true := decide_eq_true c22
                 clear c22
                 by_cases c23 : x5_2 < (x3_3.length : Int)
                 ·rw [if_pos c23] at H
                  have c23b0 : decide (x5_2 < (x3_3.length : Int)) = true := decide_eq_true c23
                  clear c23
                  have H' := Aside0.mk H
                  clear H
                  obtain ⟨hcz24, hfz24⟩ := bcf BK452
                  have p461 : 0 ≤ (x5_2 : Int) := oda
                  have q461 : x5_2 < (l0_0.length : Int) := oda
                  obtain ⟨ad461, A461_7, c461_7, e461, hx461_0, hx461_1, hx461_2, hx461_3, hx461_4, hx461_5, hx461_6, hx461_7, hl461_7, hi461_7⟩ := at_T77 HR0_0.out x5_2 p461 q461
                  cases e461
                  replace hx461_0 := hxb HB hx461_0
                  replace hx461_1 := hxb HB hx461_1
                  replace hx461_2 := hxb HB hx461_2
                  replace hx461_3 := hxb HB hx461_3
                  replace hx461_4 := hxb HB hx461_4
                  replace hx461_5 := hxb HB hx461_5
                  replace hx461_6 := hxb HB hx461_6
                  replace hx461_7 := hxb HB hx461_7
                  have HR461_7 := Aside0.mk hi461_7
                  have HC461_7 := Aside0.mk hl461_7
                  clear hi461_7 hl461_7
                  replace p461 := eq_true p461
                  replace q461 := eq_true q461
                  have p462 : 0 ≤ (x5_2 : Int) := oda
                  have q462 : x5_2 < (x3_3.length : Int) := oda
                  obtain ⟨ad462, e462, hx462_0⟩ := Kd.at_bool (Kd.R_reads' HO_3.out).2.2 x5_2 p462 q462
                  obtain rfl : (⟨go7, 0, none⟩ : Addr) = ad462 := (by injection e462)
                  (first | simp only [add_plain] at hx462_0 | simp only [add_at] at hx462_0 | simp only [Addr.add, Nat.zero_add] at hx462_0 | skip)
                  replace p462 := eq_true p462
                  replace q462 := eq_true q462
                  go_wp2
                  go_meet
                  case rel => exact ⟨_, (rdOf false x3_3 x5_2), (by first | rfl | (simp; done) | (simp [*]; done)), H', ⟨by have := HK1.out; have := HK2.out; have := HK3.out; first | omega | exact Nat.le_refl _⟩, ⟨by (try simp only [hl3_1]); (try simp only [hl3_2]); (try simp only [hl3_3]); exact Rq HO_3.out⟩, ⟨by (try simp only [hl3_1]); (try simp only [hl3_2]); (try simp only [hl3_3]); exact bkq BK452⟩, ⟨bwq HB⟩⟩
                 ·rw [if_neg c23] at H
                  exact absurd H (by simp)
                ·rw [if_neg c22] at H
                 have c22b0 : decide (x6_3 < (((rd_T77 l0_0 x5_2).f5).length : Int)) = false := decide_eq_false c22
                 clear c22
                 have H' := Aside0.mk H
                 clear H
                 obtain ⟨hcz25, hfz25⟩ := bcf BK452
                 have p461 : 0 ≤ (x5_2 : Int) := oda
                 have q461 : x5_2 < (l0_0.length : Int) := oda
                 obtain ⟨ad461, A461_7, c461_7, e461, hx461_0, hx461_1, hx461_2, hx461_3, hx461_4, hx461_5, hx461_6, hx461_7, hl461_7, hi461_7⟩ := at_T77 HR0_0.out x5_2 p461 q461
                 cases e461
                 replace hx461_0 := hxb HB hx461_0
                 replace hx461_1 := hxb HB hx461_1
                 replace hx461_2 := hxb HB hx461_2
                 replace hx461_3 := hxb HB hx461_3
                 replace hx461_4 := hxb HB hx461_4
                 replace hx461_5 := hxb HB hx461_5
                 replace hx461_6 := hxb HB hx461_6
                 replace hx461_7 := hxb HB hx461_7
                 have HR461_7 := Aside0.mk hi461_7
                 have HC461_7 := Aside0.mk hl461_7
                 clear hi461_7 hl461_7
                 replace p461 := eq_true p461
                 replace q461 := eq_true q461
                 go_wp2
                 go_meet
                 case rel => exact ⟨_, (false), (by first | rfl | (simp; done) | (simp [*]; done)), H', ⟨by have := HK1.out; have := HK2.out; have := HK3.out; first | omega | exact Nat.le_refl _⟩, ⟨by (try simp only [hl3_1]); (try simp only [hl3_2]); (try simp only [hl3_3]); exact Rq HO_3.out⟩, ⟨by (try simp only [hl3_1]); (try simp only [hl3_2]); (try simp only [hl3_3]); exact bkq BK452⟩, ⟨bwq HB⟩⟩
               ·rw [if_neg c21] at H
                exact absurd H (by simp)
              ·rw [if_neg c20] at H
               exact absurd H (by simp)
             case rest =>
              clear HC19
              try clear c1
              try clear c2
              try clear p2
              try clear c3
              try clear c4
              try clear c4b0
              try clear c4b1
              try clear p4
              try clear q4
              try clear hx4
              try clear c5
              try clear c5b0
              try clear c5b1
              try clear c6
              try clear c6b0
              try clear c6b1
              try clear c7
              try clear p7
              try clear q7
              try clear hx7
              try clear qi7
              try clear hf7
              try clear c16
              try clear c17
              try clear c17b0
              try clear c20
              try clear c20b0
              try clear c21
              try clear c21b0
              try clear c22
              try clear c22b0
              try clear c23
              try clear c23b0
              try clear hcz11
              try clear hcz18
              try clear hcz24
              try clear hcz25
              try clear hcz9
              try clear hfz11
              try clear hfz18
              try clear hfz24
              try clear hfz25
              try clear hfz9
              try clear hx461_0
              try clear hx461_1
              try clear hx461_2
              try clear hx461_3
              try clear hx461_4
              try clear hx461_5
              try clear hx461_6
              try clear hx461_7
              try clear hx462_0
              try clear hx7_0
              try clear p2
              try clear p461
              try clear p462
              try clear p7
              try clear q461
              try clear q462
              try clear q7
              obtain ⟨kq, x39_18, rfl, HA, HJ18, HO_3, BK452, HB⟩ := hcut
              cases kq with
              | zero => exact absurd HA.out (by intro h_; first | (cases h_; done) | (simp [spec_FlowReach.j3] at h_))
              | succ kj18 =>
               have H := HA.out
               clear HA
               simp only [spec_FlowReach.j3] at H
               by_cases c26 : x39_18 = true
               ·subst c26
                rw [if_pos rfl] at H
                by_cases c27 : 0 ≤ x5_2
                ·rw [if_pos c27] at H
                 have c27b0 : decide (0 ≤ x5_2) = true := decide_eq_true c27
                 clear c27
                 by_cases c28 : x5_2 < (l0_0.length : Int)
                 ·rw [if_pos c28] at H
                  have c28b0 : decide (x5_2 < (l0_0.length : Int)) = true := decide_eq_true c28
                  clear c28
                  by_cases c29 : 0 ≤ x6_3
                  ·rw [if_pos c29] at H
                   have c29b0 : decide (0 ≤ x6_3) = true := decide_eq_true c29
                   clear c29
                   by_cases c30 : x6_3 < (((rd_T77 l0_0 x5_2).f5).length : Int)
                   ·rw [if_pos c30] at H
                    have c30b0 : decide (x6_3 < (((rd_T77 l0_0 x5_2).f5).length : Int)) = true := decide_eq_true c30
                    clear c30
                    by_cases c31 : 0 ≤ (rd ((rd_T77 l0_0 x5_2).f5) x6_3)
                    ·rw [if_pos c31] at H
                     have c31b0 : decide (0 ≤ (rd ((rd_T77 l0_0 x5_2).f5) x6_3)) = true := decide_eq_true c31
                     clear c31
                     by_cases c32 : (rd ((rd_T77 l0_0 x5_2).f5) x6_3) < (x3_3.length : Int)
                     ·rw [if_pos c32] at H
                      have c32b0 : decide ((rd ((rd_T77 l0_0 x5_2).f5) x6_3) < (x3_3.length : Int)) = true := decide_eq_true c32
                      clear c32
                      obtain ⟨bq33, hbq33⟩ : ∃ b_ : Bool, b_ = (rdOf false x3_3 (rd ((rd_T77 l0_0 x5_2).f5) x6_3)) := ⟨_, rfl⟩
                      replace H : (if (bq33 = true) then (spec_FlowReach.l2 kj18 x3_3 x4_3 x5_2 (wrap64 (x6_3 + 1)) l0_0) else (spec_FlowReach.l2 kj18 (x3_3.set ((rd ((rd_T77 l0_0 x5_2).f5) x6_3) : Int).toNat true) true x5_2 (wrap64 (x6_3 + 1)) l0_0)) = some r := by rw [← hbq33] at H; exact H
                      have Nbq33 := Aside0.mk hbq33
                      clear hbq33
                      by_cases c34 : (bq33 = true)
                      ·subst c34
                       rw [if_pos rfl] at H
                       have H' := Aside0.mk H
                       clear H
                       obtain ⟨hcz35, hfz35⟩ := bcf BK452
                       have p463 : 0 ≤ (x5_2 : Int) := oda
                       have q463 : x5_2 < (l0_0.length : Int) := oda
                       obtain ⟨ad463, A463_7, c463_7, e463, hx463_0, hx463_1, hx463_2, hx463_3, hx463_4, hx463_5, hx463_6, hx463_7, hl463_7, hi463_7⟩ := at_T77 HR0_0.out x5_2 p463 q463
                       cases e463
                       replace hx463_0 := hxb HB hx463_0
                       replace hx463_1 := hxb HB hx463_1
                       replace hx463_2 := hxb HB hx463_2
                       replace hx463_3 := hxb HB hx463_3
                       replace hx463_4 := hxb HB hx463_4
                       replace hx463_5 := hxb HB hx463_5
                       replace hx463_6 := hxb HB hx463_6
                       replace hx463_7 := hxb HB hx463_7
                       have HR463_7 := Aside0.mk hi463_7
                       have HC463_7 := Aside0.mk hl463_7
                       clear hi463_7 hl463_7
                       replace p463 := eq_true p463
                       replace q463 := eq_true q463
                       have p464 : 0 ≤ (x6_3 : Int) := oda
                       have q464 : x6_3 < (((rd_T77 l0_0 x5_2).f5).length : Int) := oda
                       obtain ⟨ad464, e464, hx464_0⟩ := Kd.at_int HR463_7.out x6_3 p464 q464
                       cases e464
                       replace hx464_0 := hxb HB hx464_0
                       replace p464 := eq_true p464
                       replace q464 := eq_true q464
                       have p465 : 0 ≤ ((rd ((rd_T77 l0_0 x5_2).f5) x6_3) : Int) := oda
                       have q465 : (rd ((rd_T77 l0_0 x5_2).f5) x6_3) < (x3_3.length : Int) := oda
                       obtain ⟨ad465, e465, hx465_0⟩ := Kd.at_bool (Kd.R_reads' HO_3.out).2.2 (rd ((rd_T77 l0_0 x5_2).f5) x6_3) p465 q465
                       (try rw [← Nbq33.out] at hx465_0)
                       obtain rfl : (⟨go7, 0, none⟩ : Addr) = ad465 := (by injection e465)
                       (first | simp only [add_plain] at hx465_0 | simp only [add_at] at hx465_0 | simp only [Addr.add, Nat.zero_add] at hx465_0 | skip)
                       replace p465 := eq_true p465
                       replace q465 := eq_true q465
                       go_wp2
                       (try simp only [← hl3_3])
                       go_roundg kj18
                       case measure => have := HK1.out; have := HK2.out; have := HK3.out; have := HJ18.out; omega
                       case rel => exact ⟨(x3_3), (x4_3), (wrap64 (x6_3 + 1)), (by first | rfl | (simp; done) | (simp [*]; done)), (by first | rfl | (simp; done) | (simp [*]; done)), H', ⟨by have := HK1.out; have := HK2.out; have := HK3.out; have := HJ18.out; omega⟩, ⟨by (try simp only [hl3_1]); (try simp only [hl3_2]); (try simp only [hl3_3]); exact Rq HO_3.out⟩, ⟨by (try simp only [hl3_1]); (try simp only [hl3_2]); (try simp only [hl3_3]); exact bkq BK452⟩, ⟨bwq HB⟩⟩
                      ·replace c34 := Bool.eq_false_iff.mpr c34
                       subst c34
                       have H1 : (spec_FlowReach.l2 kj18 (x3_3.set ((rd ((rd_T77 l0_0 x5_2).f5) x6_3) : Int).toNat true) true x5_2 (wrap64 (x6_3 + 1)) l0_0) = some r := by rw [if_neg (show ¬ (false = true) by decide)] at H; exact H
                       clear H
                       have H := H1
                       clear H1
                       obtain ⟨y468, hy468⟩ : ∃ y_ : List Bool, y_ = (x3_3.set ((rd ((rd_T77 l0_0 x5_2).f5) x6_3) : Int).toNat true) := ⟨_, rfl⟩
                       replace H : (spec_FlowReach.l2 kj18 y468 true x5_2 (wrap64 (x6_3 + 1)) l0_0) = some r := by first | (rw [hy468]; with_reducible exact H) | (have H2_ := (Option.bind_some _ _).symm.trans H; rw [hy468]; with_reducible exact H2_) | (have H2_ := (Option.bind_some _ _).symm.trans H; with_reducible exact H2_) | with_reducible exact H | (rw [hy468]; exact H) | exact H
                       have Ny468 := Aside0.mk hy468
                       clear hy468
                       have H' := Aside0.mk H
                       clear H
                       obtain ⟨hcz37, hfz37⟩ := bcf BK452
                       have p463 : 0 ≤ (x5_2 : Int) := oda
                       have q463 : x5_2 < (l0_0.length : Int) := oda
                       obtain ⟨ad463, A463_7, c463_7, e463, hx463_0, hx463_1, hx463_2, hx463_3, hx463_4, hx463_5, hx463_6, hx463_7, hl463_7, hi463_7⟩ := at_T77 HR0_0.out x5_2 p463 q463
                       cases e463
                       replace hx463_0 := hxb HB hx463_0
                       replace hx463_1 := hxb HB hx463_1
                       replace hx463_2 := hxb HB hx463_2
                       replace hx463_3 := hxb HB hx463_3
                       replace hx463_4 := hxb HB hx463_4
                       replace hx463_5 := hxb HB hx463_5
                       replace hx463_6 := hxb HB hx463_6
                       replace hx463_7 := hxb HB hx463_7
                       have HR463_7 := Aside0.mk hi463_7
                       have HC463_7 := Aside0.mk hl463_7
                       clear hi463_7 hl463_7
                       replace p463 := eq_true p463
                       replace q463 := eq_true q463
                       have p464 : 0 ≤ (x6_3 : Int) := oda
                       have q464 : x6_3 < (((rd_T77 l0_0 x5_2).f5).length : Int) := oda
                       obtain ⟨ad464, e464, hx464_0⟩ := Kd.at_int HR463_7.out x6_3 p464 q464
                       cases e464
                       replace hx464_0 := hxb HB hx464_0
                       replace p464 := eq_true p464
                       replace q464 := eq_true q464
                       have p465 : 0 ≤ ((rd ((rd_T77 l0_0 x5_2).f5) x6_3) : Int) := oda
                       have q465 : (rd ((rd_T77 l0_0 x5_2).f5) x6_3) < (x3_3.length : Int) := oda
                       obtain ⟨ad465, e465, hx465_0⟩ := Kd.at_bool (Kd.R_reads' HO_3.out).2.2 (rd ((rd_T77 l0_0 x5_2).f5) x6_3) p465 q465
                       (try rw [← Nbq33.out] at hx465_0)
                       obtain rfl : (⟨go7, 0, none⟩ : Addr) = ad465 := (by injection e465)
                       (first | simp only [add_plain] at hx465_0 | simp only [add_at] at hx465_0 | simp only [Addr.add, Nat.zero_add] at hx465_0 | skip)
                       replace p465 := eq_true p465
                       replace q465 := eq_true q465
                       have p466 : 0 ≤ (x5_2 : Int) := oda
                       have q466 : x5_2 < (l0_0.length : Int) := oda
                       obtain ⟨ad466, A466_7, c466_7, e466, hx466_0, hx466_1, hx466_2, hx466_3, hx466_4, hx466_5, hx466_6, hx466_7, hl466_7, hi466_7⟩ := at_T77 HR0_0.out x5_2 p466 q466
                       obtain rfl : ad463 = ad466 := (by injection e466)
                       replace hx466_0 := hxb HB hx466_0
                       replace hx466_1 := hxb HB hx466_1
                       replace hx466_2 := hxb HB hx466_2
                       replace hx466_3 := hxb HB hx466_3
                       replace hx466_4 := hxb HB hx466_4
                       replace hx466_5 := hxb HB hx466_5
                       replace hx466_6 := hxb HB hx466_6
                       replace hx466_7 := hxb HB hx466_7
                       have HR466_7 := Aside0.mk hi466_7
                       have HC466_7 := Aside0.mk hl466_7
                       clear hi466_7 hl466_7
                       replace p466 := eq_true p466
                       replace q466 := eq_true q466
                       have ea_ := Option.some.inj (hx463_7.symm.trans hx466_7)
                       injection ea_ with ea_ en_ ec_
                       subst ea_
                       subst ec_
                       clear en_
                       have p467 : 0 ≤ (x6_3 : Int) := oda
                       have q467 : x6_3 < (((rd_T77 l0_0 x5_2).f5).length : Int) := oda
                       obtain ⟨ad467, e467, hx467_0⟩ := Kd.at_int HR466_7.out x6_3 p467 q467
                       cases e467
                       replace hx467_0 := hxb HB hx467_0
                       replace p467 := eq_true p467
                       replace q467 := eq_true q467
                       have p36 : 0 ≤ ((rd ((rd_T77 l0_0 x5_2).f5) x6_3) : Int) := oda
                       have q36 : ((rd ((rd_T77 l0_0 x5_2).f5) x6_3) : Int) < ((x3_3.length : Int) : Int) := oda
                       obtain ⟨hx36_0, hf36_0⟩ := Kd.R_celln false HO_3.out ((rd ((rd_T77 l0_0 x5_2).f5) x6_3) : Int) p36 q36
                       replace p36 := eq_true p36
                       replace q36 := eq_true q36
                       have HP38 := Kd.R_putg HO_3.out ((rd ((rd_T77 l0_0 x5_2).f5) x6_3) : Int) true
                       go_wp2_with (first | ((with_reducible refine gate_store (t := 4) (p := 65) rfl ?_); refine store_event (t := 4) (p := 65) (v := ?vo_w39) (w1 := (wc.setCell ⟨go7, ((rd ((rd_T77 l0_0 x5_2).f5) x6_3) : Int).toNat, none⟩ (.bool true))) ?hg ?ho ?hn ?hr ?_; (case ho => rfl); (case hg => rfl); (case hn => rfl); (case hr => first | (go_simp; done) | (go_simp; rfl) | (go_simp; rfl)); intro w39 hw; have hg : wc.grownBy w39 (some go7) := (by rw [hw]; exact HP38.2); have hp_ : Kd.R Kd.bool 4 w39 w.heap.size (fun _ => True) (.slice (some ⟨go7, 0, none⟩) x3_3.length co7) y468 := (by rw [hw, Ny468.out]; exact HP38.1); clear HP38; replace BK452 := Aside0.mk (blk_grown (g := gb452) (o := .cells #[.slice (some ad463) l0_0.length c0_0] 38 (0, 0)) (bkq BK452) hg (Kd.R_ne HO_3.out BK452.out (by decide))); replace HO_3 := Aside0.mk (hp_); replace HB := Aside0.mk ((by rw [hw]; exact below_set (HB.out) GB7.out : Below w.heap.size w w39)); clear hg hw hp_))
                       (try simp only [← hl3_3])
                       go_roundg kj18
                       case measure => have := HK1.out; have := HK2.out; have := HK3.out; have := HJ18.out; omega
                       case rel => exact ⟨(y468), (true), (wrap64 (x6_3 + 1)), (by first | rfl | (simp; done) | (simp [*]; done)), (by first | rfl | (simp; done) | (simp [*]; done)), H', ⟨by have := HK1.out; have := HK2.out; have := HK3.out; have := HJ18.out; omega⟩, ⟨by (try simp only [hl3_1]); (try simp only [hl3_2]); (try simp only [hl3_3]); exact Rq HO_3.out⟩, ⟨by (try simp only [hl3_1]); (try simp only [hl3_2]); (try simp only [hl3_3]); exact bkq BK452⟩, ⟨bwq HB⟩⟩
                     ·rw [if_neg c32] at H
                      exact absurd H (by simp)
                    ·rw [if_neg c31] at H
                     exact absurd H (by simp)
                   ·rw [if_neg c30] at H
                    exact absurd H (by simp)
                  ·rw [if_neg c29] at H
                   exact absurd H (by simp)
                 ·rw [if_neg c28] at H
                  exact absurd H (by simp)
                ·rw [if_neg c27] at H
                 exact absurd H (by simp)
               ·replace c26 := Bool.eq_false_iff.mpr c26
                subst c26
                have H1 : (spec_FlowReach.l1 kj18 x3_3 x4_3 (wrap64 (x5_2 + 1)) l0_0) = some r := by rw [if_neg (show ¬ (false = true) by decide)] at H; exact H
                clear H
                have H := H1
                clear H1
                have H' := Aside0.mk H
                clear H
                go_wp2
                (try simp only [← hl3_2, ← hl3_3])
                go_roundg kj18
                case measure => have := HK1.out; have := HK2.out; have := HK3.out; have := HJ18.out; omega
                case rel => exact ⟨(x3_3), (x4_3), (wrap64 (x5_2 + 1)), (by first | rfl | (simp; done) | (simp [*]; done)), (by first | rfl | (simp; done) | (simp [*]; done)), H', ⟨by have := HK1.out; have := HK2.out; have := HK3.out; have := HJ18.out; omega⟩, ⟨by (try simp only [hl3_1]); (try simp only [hl3_2]); (try simp only [hl3_3]); exact Rq HO_3.out⟩, ⟨by (try simp only [hl3_1]); (try simp only [hl3_2]); (try simp only [hl3_3]); exact bkq BK452⟩, ⟨bwq HB⟩⟩
          ·rw [if_neg c17] at H
           have c17b0 : decide (x5_2 < (l0_0.length : Int)) = false := decide_eq_false c17
           clear c17
           have H' := Aside0.mk H
           clear H
           obtain ⟨hcz40, hfz40⟩ := bcf BK452
           go_wp2
           (try simp only [← hl3_1, ← hl3_2])
           go_roundg k2
           case measure => have := HK1.out; have := HK2.out; omega
           case rel => exact ⟨(x3_2), (x4_2), (by first | rfl | (simp; done) | (simp [*]; done)), H', ⟨by have := HK1.out; have := HK2.out; omega⟩, ⟨by (try simp only [hl3_1]); (try simp only [hl3_2]); exact Rq HO_3.out⟩, ⟨by (try simp only [hl3_1]); (try simp only [hl3_2]); exact bkq BK452⟩, ⟨bwq HB⟩⟩
       ·replace c16 := Bool.eq_false_iff.mpr c16
        subst c16
        have H1 : (some x3_1) = some r := by rw [if_neg (show ¬ (false = true) by decide)] at H; exact H
        clear H
        have H := H1
        clear H1
        obtain rfl := Option.some.inj H
        go_wp2
        go_ret
        exact ⟨_, by first | rfl | (simp [errW_none, errW_some] <;> rfl) | (simp [*, errW_none, errW_some] <;> rfl), Rq HO_3.out, bwq HB⟩
    ·rw [if_neg c6] at H
     exact absurd H (by simp)
   ·rw [if_neg c5] at H
    exact absurd H (by simp)
  ·rw [if_neg c4] at H
   exact absurd H (by simp)
 ·replace c3 := Bool.eq_false_iff.mpr c3
  subst c3
  have H1 : (some (([] : List Bool))) = some r := by rw [if_neg (show ¬ (false = true) by decide)] at H; exact H
  clear H
  have H := H1
  clear H1
  obtain ⟨y454, hy454⟩ : ∃ y_ : List Bool, y_ = (([] : List Bool)) := ⟨_, rfl⟩
  replace H : (some y454) = some r := by first | (rw [hy454]; with_reducible exact H) | (have H2_ := (Option.bind_some _ _).symm.trans H; rw [hy454]; with_reducible exact H2_) | (have H2_ := (Option.bind_some _ _).symm.trans H; with_reducible exact H2_) | with_reducible exact H | (rw [hy454]; exact H) | exact H
  have Ny454 := Aside0.mk hy454
  clear hy454
  obtain rfl := Option.some.inj H
  go_enter Try.func65, Try.ntmps65
  go_wp2_with (first | ((with_reducible refine gate_dst (N := 1) rfl ?_); refine bxe (cs := #[.slice A0_0 l0_0.length c0_0]) (t := 38) ?_; intro gb452 hg w41 hbox hb; have BK452 := Aside0.mk (hbox); have GW452 := bwz HB hg; have GE452 := bwz HB hg; replace HB := bwb HB hb; clear hb hbox hg; obtain ⟨hcz42, hfz42⟩ := bcf BK452) | ((with_reducible refine gate_callee (f := 76) rfl ?_); refine goesM (some 8) rfl rfl Try.func76 #[.agg #[.slice A0_0 l0_0.length c0_0]] rfl ?_; (with_reducible refine (spec_ProgOk.calls k _ _ l0_0 false _ ?side1 ?side2 A2.out).mono ?_); (case side1 => exact Cq (Kd.C_below HR0_0.out HB.out)); (case side2 => exact HC0_0.out); rintro e w43 ⟨rfl, hb⟩; refine ⟨_, rfl, ?_⟩; replace BK452 := bkb BK452 hb; replace HB := bwb HB hb; (try clear hb); (try clear hb2); (try clear hk); (try clear hi)) | ((with_reducible refine gate_dst (N := 10) rfl ?_); refine Kd.R_lit Kd.bool _ 4 ?hg (N := 10) ?hd (xs := ([] : List Bool)) (inner := []) (ok := fun _ => True) (okp := fun _ => True) ?hr ?hp (fun _ hk => hk) trivial (Below.refl _ _) (Nat.le_refl _) (by simp) ?_; (case hd => rfl); (case hg => rfl); (case hr => first | (go_simp; done) | (go_simp; rfl) | (go_simp; rfl)); (case hp => exact (Reps.none _ _)); intro v455 w44 ho45 hb hg_ hnew_; clear hg_ hnew_; (first | rw [← Ny454.out] at ho45 | (simp only [Int.reduceToNat] at ho45; rw [← Ny454.out] at ho45)); have HO456 := Aside0.mk (Kd.R_lower ho45 (below_size (bwq HB))); replace BK452 := bkb BK452 hb; replace HB := bwb HB hb; clear hb ho45))
  go_ret
  exact ⟨_, by first | rfl | (simp [errW_none, errW_some] <;> rfl) | (simp [*, errW_none, errW_some] <;> rfl), Rq HO456.out, bwq HB⟩
mutual
def spec_FlowPreds.l0 : Nat → List (List Int) → List Bool → Int → List (S77) → Option ((List (List Int)))
 | 0, _, _, _, _ => none
 | k + 1, x3, x4, x5, x523000 => if x5 < (x523000.length : Int) then (spec_FlowPreds.l1 k x3 x4 x5 (([] : List Int)) 0 x523000) else (some x3)
def spec_FlowPreds.l1 : Nat → List (List Int) → List Bool → Int → List Int → Int → List (S77) → Option ((List (List Int)))
 | 0, _, _, _, _, _, _ => none
 | k + 1, x3, x4, x5, x6, x7, x523000 => if x7 < (x523000.length : Int) then (if 0 ≤ x7 then (if x7 < (x4.length : Int) then (if rdOf false x4 x7 = true then ((spec_l2Goes.f k ((rd_T77 x523000 x7).f0) ((rd_T77 x523000 x7).f1) ((rd_T77 x523000 x7).f2) ((rd_T77 x523000 x7).f3.f0) ((rd_T77 x523000 x7).f3.f1) ((rd_T77 x523000 x7).f4.f0) ((rd_T77 x523000 x7).f4.f1) ((rd_T77 x523000 x7).f5) x5).bind fun t535 => (if t535 = true then (if x6.length < 17592186044416 then (spec_FlowPreds.l1 k x3 x4 x5 (x6 ++ [x7]) (wrap64 (x7 + 1)) x523000) else (none)) else (spec_FlowPreds.l1 k x3 x4 x5 x6 (wrap64 (x7 + 1)) x523000))) else (spec_FlowPreds.l1 k x3 x4 x5 x6 (wrap64 (x7 + 1)) x523000)) else (none)) else (none)) else (if x3.length < 5864062014805 then (spec_FlowPreds.l0 k (x3 ++ [x6]) x4 (wrap64 (x5 + 1)) x523000) else (none))
end
def spec_FlowPreds.f (k : Nat) (l0_0 : List (S77)) : Option ((List (List Int))) := (some (([] : List (List Int)) : List (List Int))).bind fun y523 => ((spec_ProgOk.f k l0_0).bind fun t526 => (if t526 = true then ((spec_FlowReach.f k l0_0).bind fun t527 => (spec_FlowPreds.l0 k y523 t527 0 l0_0)) else (some y523)))
set_option maxHeartbeats 8000000 in
set_option maxRecDepth 100000 in
theorem spec_FlowPreds.calls (k : Nat) (A0_0 : Option Addr) (c0_0 : Nat) (l0_0 : List (S77)) (r : List (List Int)) (w : World) (hr0_0 : Kd.C k77 w A0_0 l0_0.length l0_0) (hc0_0 : l0_0.length ≤ c0_0) (h : spec_FlowPreds.f k l0_0 = some r) :
  Calls Try.prog 94 #[.agg #[.slice A0_0 l0_0.length c0_0]] w fun e w' => ∃ v0_ : Value, e = .returned (v0_) ∧ Kd.S (Kd.slice 3 (Kd.int .i64)) 32 w' w.heap.size (fun _ => True) v0_ r ∧ Below w.heap.size w w' := by
 have hu38 := Try.underlying38
 have hu77 := Try.underlying77
 have HR0_0 := Aside0.mk hr0_0
 have HC0_0 := Aside0.mk hc0_0
 clear hr0_0 hc0_0
 have HB := Aside0.mk (Below.refl w.heap.size w)
 have H : ((some (([] : List (List Int)) : List (List Int))).bind fun y523 => ((spec_ProgOk.f k l0_0).bind fun t526 => (if t526 = true then ((spec_FlowReach.f k l0_0).bind fun t527 => (spec_FlowPreds.l0 k y523 t527 0 l0_0)) else (some y523)))) = some r := h
 clear h
 obtain ⟨y523, hy523⟩ : ∃ y_ : List (List Int), y_ = (([] : List (List Int))) := ⟨_, rfl⟩
 replace H : ((spec_ProgOk.f k l0_0).bind fun t526 => (if t526 = true then ((spec_FlowReach.f k l0_0).bind fun t527 => (spec_FlowPreds.l0 k y523 t527 0 l0_0)) else (some y523))) = some r := by first | (rw [hy523]; with_reducible exact H) | (have H2_ := (Option.bind_some _ _).symm.trans H; rw [hy523]; with_reducible exact H2_) | (have H2_ := (Option.bind_some _ _).symm.trans H; with_reducible exact H2_) | with_reducible exact H | (rw [hy523]; exact H) | exact H
 have Ny523 := Aside0.mk hy523
 clear hy523
 replace H := Option.bind_eq_some_iff.mp H
 obtain ⟨t526, A20, H⟩ := H
 have A2 := Aside0.mk A20
 clear A20
 by_cases c3 : t526 = true
 ·subst c3
  rw [if_pos rfl] at H
  replace H := Option.bind_eq_some_iff.mp H
  obtain ⟨t527, A40, H⟩ := H
  have A4 := Aside0.mk A40
  clear A40
  have H' := Aside0.mk H
  clear H
  go_enter Try.func94, Try.ntmps94
  go_wp2_with (first | ((with_reducible refine gate_dst (N := 1) rfl ?_); refine bxe (cs := #[.slice A0_0 l0_0.length c0_0]) (t := 38) ?_; intro gb522 hg w5 hbox hb; have BK522 := Aside0.mk (hbox); have GW522 := bwz HB hg; have GE522 := bwz HB hg; replace HB := bwb HB hb; clear hb hbox hg) | ((with_reducible refine gate_dst (N := 8) rfl ?_); refine Kd.S_lit (Kd.slice 3 (Kd.int .i64)) _ 32 ?hg (N := 8) ?hd (xs := ([] : List (List Int))) (inner := []) (ok := fun _ => True) (okp := fun _ => True) ?hr ?hp (fun _ hk => hk) trivial (Below.refl _ _) (Nat.le_refl _) (by simp) ?_; (case hd => rfl); (case hg => rfl); (case hr => first | (go_simp; done) | (go_simp; rfl) | (go_simp; rfl)); (case hp => exact (Reps.none _ _)); intro v524 w6 ho7 hb hg_ hnew_; clear hg_ hnew_; (first | rw [← Ny523.out] at ho7 | (simp only [Int.reduceToNat] at ho7; rw [← Ny523.out] at ho7)); have HO525 := Aside0.mk (Kd.S_lower ho7 (below_size (bwq HB))); replace BK522 := bkb BK522 hb; replace HB := bwb HB hb; clear hb ho7; obtain ⟨hcz8, hfz8⟩ := bcf BK522) | ((with_reducible refine gate_callee (f := 76) rfl ?_); refine goesM (some 10) rfl rfl Try.func76 #[.agg #[.slice A0_0 l0_0.length c0_0]] rfl ?_; (with_reducible refine (spec_ProgOk.calls k _ _ l0_0 true _ ?side1 ?side2 A2.out).mono ?_); (case side1 => exact Cq (Kd.C_below HR0_0.out HB.out)); (case side2 => exact HC0_0.out); rintro e w9 ⟨rfl, hb⟩; refine ⟨_, rfl, ?_⟩; replace HO525 := Aside0.mk (Kd.S_below (Sq HO525.out) hb); replace BK522 := bkb BK522 hb; replace HB := bwb HB hb; (try clear hb); (try clear hb2); (try clear hk); (try clear hi); obtain ⟨hcz10, hfz10⟩ := bcf BK522) | ((with_reducible refine gate_callee (f := 65) rfl ?_); refine goesM (some 14) rfl rfl Try.func65 #[.agg #[.slice A0_0 l0_0.length c0_0]] rfl ?_; (with_reducible refine (spec_FlowReach.calls k _ _ l0_0 t527 _ ?side1 ?side2 A4.out).mono ?_); (case side1 => exact Cq (Kd.C_below HR0_0.out HB.out)); (case side2 => exact HC0_0.out); rintro e w11 ⟨v528, rfl, ho0, hb⟩; refine ⟨_, rfl, ?_⟩; replace HO525 := Aside0.mk (Kd.S_below (Sq HO525.out) hb); have HO529 := Aside0.mk (Kd.R_lower ho0 (below_size (bwq HB))); replace BK522 := bkb BK522 hb; replace HB := bwb HB hb; (try clear hb); (try clear hb2); (try clear hk); (try clear hi); (try clear ho0)))
  go_loopg [3, 5] k (fun kq v3 v5 w' => ∃ (x3_1 : List (List Int)) (x5_1 : Int), v5 = .int .i64 x5_1 ∧ Aside0 (spec_FlowPreds.l0 kq x3_1 t527 x5_1 l0_0 = some r) ∧ Aside0 (kq ≤ k) ∧ Aside0 (Kd.S (Kd.slice 3 (Kd.int .i64)) 32 w' w.heap.size (fun _ => True) v3 x3_1) ∧ Aside0 (Kd.R Kd.bool 4 w' w.heap.size (fun _ => True) v528 t527) ∧ Aside0 (w'.heap[gb522]? = some (.cells #[(.slice A0_0 l0_0.length c0_0)] 38 (0, 0))) ∧ Aside0 (Below w.heap.size w w'))
  case atStart => exact ⟨(y523), (0), (by first | rfl | (simp; done) | (simp [*]; done)), H', ⟨Nat.le_refl _⟩, ⟨Sq HO525.out⟩, ⟨Rq HO529.out⟩, ⟨bkq BK522⟩, ⟨bwq HB⟩⟩
  case round =>
   clear H'
   try clear p2
   try clear c3
   try clear c6
   try clear c7
   try clear c9
   try clear hcz10
   try clear hcz8
   try clear hfz10
   try clear hfz8
   obtain ⟨x3_1, x5_1, rfl, HA, HK1, HO_3, HO_4, BK522, HB⟩ := hrel
   cases gk with
   | zero => exact absurd HA.out (by intro h_; first | (cases h_; done) | (simp [spec_FlowPreds.l0] at h_))
   | succ k1 =>
    have H := HA.out
    clear HA
    simp only [spec_FlowPreds.l0] at H
    by_cases c12 : x5_1 < (l0_0.length : Int)
    ·rw [if_pos c12] at H
     have c12b0 : decide (x5_1 < (l0_0.length : Int)) = true := decide_eq_true c12
     clear c12
     obtain ⟨y530, hy530⟩ : ∃ y_ : List Int, y_ = (([] : List Int)) := ⟨_, rfl⟩
     replace H : (spec_FlowPreds.l1 k1 x3_1 t527 x5_1 y530 0 l0_0) = some r := by first | (rw [hy530]; with_reducible exact H) | (have H2_ := (Option.bind_some _ _).symm.trans H; rw [hy530]; with_reducible exact H2_) | (have H2_ := (Option.bind_some _ _).symm.trans H; with_reducible exact H2_) | with_reducible exact H | (rw [hy530]; exact H) | exact H
     have Ny530 := Aside0.mk hy530
     clear hy530
     have H' := Aside0.mk H
     clear H
     obtain ⟨hcz13, hfz13⟩ := bcf BK522
     go_wp2_with (first | ((with_reducible refine gate_dst (N := 22) rfl ?_); refine Kd.R_lit (Kd.int .i64) _ 3 ?hg (N := 22) ?hd (xs := ([] : List Int)) (inner := []) (ok := fun _ => True) (okp := fun _ => True) ?hr ?hp (fun _ hk => hk) trivial (Below.refl _ _) (Nat.le_refl _) (by simp) ?_; (case hd => rfl); (case hg => rfl); (case hr => first | (go_simp; done) | (go_simp; rfl) | (go_simp; rfl)); (case hp => exact (Reps.none _ _)); intro v531 w14 ho15 hb hg_ hnew_; clear hg_ hnew_; (first | rw [← Ny530.out] at ho15 | (simp only [Int.reduceToNat] at ho15; rw [← Ny530.out] at ho15)); replace HO_3 := Aside0.mk (Kd.S_elder' (Sq HO_3.out) (Kd.R_base ho15) hb); replace HO_4 := Aside0.mk (Kd.R_below (Rq HO_4.out) hb); have HO532 := Aside0.mk (Kd.R_lower ho15 (below_size (bwq HB))); replace BK522 := bkb BK522 hb; replace HB := bwb HB hb; clear hb ho15))
     go_loopg [6, 7] k1 (fun kq v6 v7 w' => ∃ (x6_2 : List Int) (x7_2 : Int), v7 = .int .i64 x7_2 ∧ Aside0 (spec_FlowPreds.l1 kq x3_1 t527 x5_1 x6_2 x7_2 l0_0 = some r) ∧ Aside0 (kq ≤ k1) ∧ Aside0 (Kd.S (Kd.slice 3 (Kd.int .i64)) 32 w' w.heap.size (fun k_ => some k_ ≠ (v6 : Value).ownBlock) u3 x3_1) ∧ Aside0 (Kd.R Kd.bool 4 w' w.heap.size (fun _ => True) v528 t527) ∧ Aside0 (Kd.R (Kd.int .i64) 3 w' w.heap.size (fun _ => True) v6 x6_2) ∧ Aside0 (w'.heap[gb522]? = some (.cells #[(.slice A0_0 l0_0.length c0_0)] 38 (0, 0))) ∧ Aside0 (Below w.heap.size w w'))
     case atStart => exact ⟨(y530), (0), (by first | rfl | (simp; done) | (simp [*]; done)), H', ⟨Nat.le_refl _⟩, ⟨by (with_reducible repeat (first | apply Kd.S_alloc | apply Kd.S_drewN | apply Kd.S_drew)); exact Kd.S_mono HO_3.out (fun _ hk => hk.2)⟩, ⟨Rq HO_4.out⟩, ⟨Rq HO532.out⟩, ⟨bkq BK522⟩, ⟨bwq HB⟩⟩
     case round =>
      clear H'
      try clear c1
      try clear p2
      try clear c3
      try clear c6
      try clear c7
      try clear c9
      try clear c12
      try clear c12b0
      try clear hcz10
      try clear hcz13
      try clear hcz8
      try clear hfz10
      try clear hfz13
      try clear hfz8
      try clear p2
      obtain ⟨x6_2, x7_2, rfl, HA, HK2, HO_3, HO_4, HO_6, BK522, HB⟩ := hrel
      cases gk with
      | zero => exact absurd HA.out (by intro h_; first | (cases h_; done) | (simp [spec_FlowPreds.l1] at h_))
      | succ k2 =>
       have H := HA.out
       clear HA
       simp only [spec_FlowPreds.l1] at H
       by_cases c16 : x7_2 < (l0_0.length : Int)
       ·rw [if_pos c16] at H
        have c16b0 : decide (x7_2 < (l0_0.length : Int)) = true := decide_eq_true c16
        clear c16
        by_cases c17 : 0 ≤ x7_2
        ·rw [if_pos c17] at H
         have c17b0 : decide (0 ≤ x7_2) = true := decide_eq_true c17
         clear c17
         by_cases c18 : x7_2 < (t527.length : Int)
         ·rw [if_pos c18] at H
          have c18b0 : decide (x7_2 < (t527.length : Int)) = true := decide_eq_true c18
          clear c18
          obtain ⟨bq19, hbq19⟩ : ∃ b_ : Bool, b_ = (rdOf false t527 x7_2) := ⟨_, rfl⟩
          replace H : (if bq19 = true then ((spec_l2Goes.f k2 ((rd_T77 l0_0 x7_2).f0) ((rd_T77 l0_0 x7_2).f1) ((rd_T77 l0_0 x7_2).f2) ((rd_T77 l0_0 x7_2).f3.f0) ((rd_T77 l0_0 x7_2).f3.f1) ((rd_T77 l0_0 x7_2).f4.f0) ((rd_T77 l0_0 x7_2).f4.f1) ((rd_T77 l0_0 x7_2).f5) x5_1).bind fun t535 => (if t535 = true then (if x6_2.length < 17592186044416 then (spec_FlowPreds.l1 k2 x3_1 t527 x5_1 (x6_2 ++ [x7_2]) (wrap64 (x7_2 + 1)) l0_0) else (none)) else (spec_FlowPreds.l1 k2 x3_1 t527 x5_1 x6_2 (wrap64 (x7_2 + 1)) l0_0))) else (spec_FlowPreds.l1 k2 x3_1 t527 x5_1 x6_2 (wrap64 (x7_2 + 1)) l0_0)) = some r := by rw [← hbq19] at H; exact H
          have Nbq19 := Aside0.mk hbq19
          clear hbq19
          by_cases c20 : bq19 = true
          ·subst c20
           rw [if_pos rfl] at H
           replace H := Option.bind_eq_some_iff.mp H
           obtain ⟨t535, A210, H⟩ := H
           have A21 := Aside0.mk A210
           clear A210
           by_cases c22 : t535 = true
           ·subst c22
            rw [if_pos rfl] at H
            by_cases c23 : x6_2.length < 17592186044416
            ·rw [if_pos c23] at H
             have LMc23 := Aside0.mk c23
             clear c23
             obtain ⟨y536, hy536⟩ : ∃ y_ : List Int, y_ = (x6_2 ++ [x7_2]) := ⟨_, rfl⟩
             replace H : (spec_FlowPreds.l1 k2 x3_1 t527 x5_1 y536 (wrap64 (x7_2 + 1)) l0_0) = some r := by first | (rw [hy536]; with_reducible exact H) | (have H2_ := (Option.bind_some _ _).symm.trans H; rw [hy536]; with_reducible exact H2_) | (have H2_ := (Option.bind_some _ _).symm.trans H; with_reducible exact H2_) | with_reducible exact H | (rw [hy536]; exact H) | exact H
             have Ny536 := Aside0.mk hy536
             clear hy536
             have H' := Aside0.mk H
             clear H
             obtain ⟨hcz24, hfz24⟩ := bcf BK522
             obtain ⟨Ao25, co25, eo25⟩ := Kd.R_slice HO_4.out
             subst eo25
             have p533 : 0 ≤ (x7_2 : Int) := oda
             have q533 : x7_2 < (t527.length : Int) := oda
             obtain ⟨ad533, e533, hx533_0⟩ := Kd.at_bool (Kd.R_reads' HO_4.out).2.2 x7_2 p533 q533
             (try rw [← Nbq19.out] at hx533_0)
             cases e533
             replace p533 := eq_true p533
             replace q533 := eq_true q533
             have p534 : 0 ≤ (x7_2 : Int) := oda
             have q534 : x7_2 < (l0_0.length : Int) := oda
             obtain ⟨ad534, A534_7, c534_7, e534, hx534_0, hx534_1, hx534_2, hx534_3, hx534_4, hx534_5, hx534_6, hx534_7, hl534_7, hi534_7⟩ := at_T77 HR0_0.out x7_2 p534 q534
             cases e534
             replace hx534_0 := hxb HB hx534_0
             replace hx534_1 := hxb HB hx534_1
             replace hx534_2 := hxb HB hx534_2
             replace hx534_3 := hxb HB hx534_3
             replace hx534_4 := hxb HB hx534_4
             replace hx534_5 := hxb HB hx534_5
             replace hx534_6 := hxb HB hx534_6
             replace hx534_7 := hxb HB hx534_7
             have HR534_7 := Aside0.mk hi534_7
             have HC534_7 := Aside0.mk hl534_7
             clear hi534_7 hl534_7
             replace p534 := eq_true p534
             replace q534 := eq_true q534
             go_wp2_with (first | (go_at_call 78; (with_reducible refine (spec_l2Goes.calls k2 ((rd_T77 l0_0 x7_2).f0) ((rd_T77 l0_0 x7_2).f1) ((rd_T77 l0_0 x7_2).f2) ((rd_T77 l0_0 x7_2).f3.f0) ((rd_T77 l0_0 x7_2).f3.f1) ((rd_T77 l0_0 x7_2).f4.f0) ((rd_T77 l0_0 x7_2).f4.f1) _ _ ((rd_T77 l0_0 x7_2).f5) x5_1 true _ ?side1 ?side2 A21.out).mono ?_); (case side1 => exact Cq (Kd.C_below HR534_7.out HB.out)); (case side2 => exact HC534_7.out); rintro e w26 ⟨rfl, hb⟩; replace HO_3 := Aside0.mk (Kd.S_below (Sq HO_3.out) hb); replace HO_4 := Aside0.mk (Kd.R_below (Rq HO_4.out) hb); replace HO_6 := Aside0.mk (Kd.R_below (Rq HO_6.out) hb); replace BK522 := bkb BK522 hb; replace HB := bwb HB hb; (try clear hb); (try clear hb2); (try clear hk); (try clear hi)) | ((with_reducible refine gate_builtin (b := .append) (xs := #[.tmp 43, .tmp 45]) rfl ?_); at_builtin; refine Kd.R_append (Kd.int .i64) (w0 := w) w.heap.size rfl (.tmp 43) (.tmp 45) 32 3 (.int .i64 0) 8 rfl Try.underlying32 info3 rfl (by decide) (by omega) u6 x6_2 x7_2 [.int .i64 x7_2] (fun _ => True) (fun _ => False) rfl rfl ?aP (fun _ hk => hk.elim) ?aF ?aO ?aB ?aS ?aL ?_; (case aP => exact rfl); (case aB => exact (bwq HB)); (case aF => exact (fun _ _ => trivial)); (case aO => exact (Rq HO_6.out)); (case aS => exact (below_size (bwq HB))); (case aL => have := LMc23.out; omega); intro v537 w27 ho hb hg hat; rw [← Ny536.out] at ho; have n0_ := Aside0.mk (Kd.S_after (ok := (fun _ => True)) (by (with_reducible repeat (first | apply Kd.S_alloc | apply Kd.S_drewN | apply Kd.S_drew)); exact Kd.S_mono HO_3.out (fun _ hk => ⟨trivial, hk⟩)) hg hat); have n1_ := Aside0.mk (Kd.R_over' (Rq HO_4.out) (Kd.R_typed (Rq HO_6.out)) (by decide) hg); have n2_ := Aside0.mk (blk_grown (g := gb522) (o := .cells #[.slice (some ad534) l0_0.length c0_0] 38 (0, 0)) (bkq BK522) hg (Kd.R_ne HO_6.out BK522.out (by decide))); have n3_ := Aside0.mk (hb); have n4_ := Aside0.mk (ho); clear HO_3; clear HO_4; clear BK522; clear HB; clear HO_6; have HO_3 := n0_; have HO_4 := n1_; have BK522 := n2_; have HB := n3_; have HO538 := n4_; clear n0_ n1_ n2_ n3_ n4_; clear ho hb hg hat))
             go_roundg k2
             case measure => have := HK1.out; have := HK2.out; omega
             case rel => exact ⟨(y536), (wrap64 (x7_2 + 1)), (by first | rfl | (simp; done) | (simp [*]; done)), H', ⟨by have := HK1.out; have := HK2.out; omega⟩, ⟨by (with_reducible repeat (first | apply Kd.S_alloc | apply Kd.S_drewN | apply Kd.S_drew)); exact Kd.S_mono HO_3.out (fun _ hk => hk.2)⟩, ⟨Rq HO_4.out⟩, ⟨Rq HO538.out⟩, ⟨bkq BK522⟩, ⟨bwq HB⟩⟩
            ·rw [if_neg c23] at H
             exact absurd H (by simp)
           ·replace c22 := Bool.eq_false_iff.mpr c22
            subst c22
            have H1 : (spec_FlowPreds.l1 k2 x3_1 t527 x5_1 x6_2 (wrap64 (x7_2 + 1)) l0_0) = some r := by rw [if_neg (show ¬ (false = true) by decide)] at H; exact H
            clear H
            have H := H1
            clear H1
            have H' := Aside0.mk H
            clear H
            obtain ⟨hcz28, hfz28⟩ := bcf BK522
            obtain ⟨Ao29, co29, eo29⟩ := Kd.R_slice HO_4.out
            subst eo29
            have p533 : 0 ≤ (x7_2 : Int) := oda
            have q533 : x7_2 < (t527.length : Int) := oda
            obtain ⟨ad533, e533, hx533_0⟩ := Kd.at_bool (Kd.R_reads' HO_4.out).2.2 x7_2 p533 q533
            (try rw [← Nbq19.out] at hx533_0)
            cases e533
            replace p533 := eq_true p533
            replace q533 := eq_true q533
            have p534 : 0 ≤ (x7_2 : Int) := oda
            have q534 : x7_2 < (l0_0.length : Int) := oda
            obtain ⟨ad534, A534_7, c534_7, e534, hx534_0, hx534_1, hx534_2, hx534_3, hx534_4, hx534_5, hx534_6, hx534_7, hl534_7, hi534_7⟩ := at_T77 HR0_0.out x7_2 p534 q534
            cases e534
            replace hx534_0 := hxb HB hx534_0
            replace hx534_1 := hxb HB hx534_1
            replace hx534_2 := hxb HB hx534_2
            replace hx534_3 := hxb HB hx534_3
            replace hx534_4 := hxb HB hx534_4
            replace hx534_5 := hxb HB hx534_5
            replace hx534_6 := hxb HB hx534_6
            replace hx534_7 := hxb HB hx534_7
            have HR534_7 := Aside0.mk hi534_7
            have HC534_7 := Aside0.mk hl534_7
            clear hi534_7 hl534_7
            replace p534 := eq_true p534
            replace q534 := eq_true q534
            go_wp2_with (first | (go_at_call 78; (with_reducible refine (spec_l2Goes.calls k2 ((rd_T77 l0_0 x7_2).f0) ((rd_T77 l0_0 x7_2).f1) ((rd_T77 l0_0 x7_2).f2) ((rd_T77 l0_0 x7_2).f3.f0) ((rd_T77 l0_0 x7_2).f3.f1) ((rd_T77 l0_0 x7_2).f4.f0) ((rd_T77 l0_0 x7_2).f4.f1) _ _ ((rd_T77 l0_0 x7_2).f5) x5_1 false _ ?side1 ?side2 A21.out).mono ?_); (case side1 => exact Cq (Kd.C_below HR534_7.out HB.out)); (case side2 => exact HC534_7.out); rintro e w30 ⟨rfl, hb⟩; replace HO_3 := Aside0.mk (Kd.S_below (Sq HO_3.out) hb); replace HO_4 := Aside0.mk (Kd.R_below (Rq HO_4.out) hb); replace HO_6 := Aside0.mk (Kd.R_below (Rq HO_6.out) hb); replace BK522 := bkb BK522 hb; replace HB := bwb HB hb; (try clear hb); (try clear hb2); (try clear hk); (try clear hi)))
            go_roundg k2
            case measure => have := HK1.out; have := HK2.out; omega
            case rel => exact ⟨(x6_2), (wrap64 (x7_2 + 1)), (by first | rfl | (simp; done) | (simp [*]; done)), H', ⟨by have := HK1.out; have := HK2.out; omega⟩, ⟨Sq HO_3.out⟩, ⟨Rq HO_4.out⟩, ⟨Rq HO_6.out⟩, ⟨bkq BK522⟩, ⟨bwq HB⟩⟩
          ·replace c20 := Bool.eq_false_iff.mpr c20
           subst c20
           have H1 : (spec_FlowPreds.l1 k2 x3_1 t527 x5_1 x6_2 (wrap64 (x7_2 + 1)) l0_0) = some r := by rw [if_neg (show ¬ (false = true) by decide)] at H; exact H
           clear H
           have H := H1
           clear H1
           have H' := Aside0.mk H
           clear H
           obtain ⟨hcz31, hfz31⟩ := bcf BK522
           obtain ⟨Ao32, co32, eo32⟩ := Kd.R_slice HO_4.out
           subst eo32
           have p533 : 0 ≤ (x7_2 : Int) := oda
           have q533 : x7_2 < (t527.length : Int) := oda
           obtain ⟨ad533, e533, hx533_0⟩ := Kd.at_bool (Kd.R_reads' HO_4.out).2.2 x7_2 p533 q533
           (try rw [← Nbq19.out] at hx533_0)
           cases e533
           replace p533 := eq_true p533
           replace q533 := eq_true q533
           go_wp2
           go_roundg k2
           case measure => have := HK1.out; have := HK2.out; omega
           case rel => exact ⟨(x6_2), (wrap64 (x7_2 + 1)), (by first | rfl | (simp; done) | (simp [*]; done)), H', ⟨by have := HK1.out; have := HK2.out; omega⟩, ⟨Sq HO_3.out⟩, ⟨Rq HO_4.out⟩, ⟨Rq HO_6.out⟩, ⟨bkq BK522⟩, ⟨bwq HB⟩⟩
         ·rw [if_neg c18] at H
          exact absurd H (by simp)
        ·rw [if_neg c17] at H
         exact absurd H (by simp)
       ·rw [if_neg c16] at H
        have c16b0 : decide (x7_2 < (l0_0.length : Int)) = false := decide_eq_false c16
        clear c16
        by_cases c33 : x3_1.length < 5864062014805
        ·rw [if_pos c33] at H
         have LMc33 := Aside0.mk c33
         clear c33
         obtain ⟨y539, hy539⟩ : ∃ y_ : List (List Int), y_ = (x3_1 ++ [x6_2]) := ⟨_, rfl⟩
         replace H : (spec_FlowPreds.l0 k2 y539 t527 (wrap64 (x5_1 + 1)) l0_0) = some r := by first | (rw [hy539]; with_reducible exact H) | (have H2_ := (Option.bind_some _ _).symm.trans H; rw [hy539]; with_reducible exact H2_) | (have H2_ := (Option.bind_some _ _).symm.trans H; with_reducible exact H2_) | with_reducible exact H | (rw [hy539]; exact H) | exact H
         have Ny539 := Aside0.mk hy539
         clear hy539
         have H' := Aside0.mk H
         clear H
         obtain ⟨hcz34, hfz34⟩ := bcf BK522
         obtain ⟨Ao36, co36, eo36⟩ := Kd.R_slice HO_6.out
         subst eo36
         go_wp2_with (first | ((with_reducible refine gate_builtin (b := .append) (xs := #[.tmp 47, .tmp 49]) rfl ?_); at_builtin; refine Kd.S_append (Kd.slice 3 (Kd.int .i64)) (w0 := w) w.heap.size rfl (.tmp 47) (.tmp 49) 72 32 (.slice none 0 0) 24 rfl Try.underlying72 info32 rfl (by decide) (by omega) u3 x3_1 x6_2 [.slice Ao36 x6_2.length co36] (fun _ => True) (fun k_ => some k_ = (.slice Ao36 x6_2.length co36 : Value).ownBlock) rfl rfl ?aP (fun k_ hk_ => ((Kd.R_mono (ok' := fun k_ => ((fun _ => True)) k_ ∧ some k_ ≠ (u3 : Value).ownBlock) (Kd.R_apart' (HO_6.out) (Kd.S_typed HO_3.out) (by decide)) (fun k_ hk => ⟨trivial, hk.2⟩))).1 k_ hk_.symm) ?aF ?aO ?aB ?aS ?aL ?_; (case aP => exact Kd.M_row (Kd.R_mono (Kd.R_tight rfl (Kd.R_mono (ok' := fun k_ => ((fun _ => True)) k_ ∧ some k_ ≠ (u3 : Value).ownBlock) (Kd.R_apart' (HO_6.out) (Kd.S_typed HO_3.out) (by decide)) (fun k_ hk => ⟨trivial, hk.2⟩))) (fun _ h_ => h_))); (case aB => exact (bwq HB)); (case aF => exact (fun _ _ => trivial)); (case aO => exact (by (with_reducible repeat (first | apply Kd.S_alloc | apply Kd.S_drewN | apply Kd.S_drew)); exact Kd.S_mono HO_3.out (fun k_ hk => ⟨trivial, fun e_ => hk e_⟩))); (case aS => exact (below_size (bwq HB))); (case aL => have := LMc33.out; omega); intro v540 w35 ho hb hg hat; rw [← Ny539.out] at ho; have n0_ := Aside0.mk (Kd.R_over' (Rq HO_4.out) (Kd.S_typed (Sq HO_3.out)) (by decide) hg); have n1_ := Aside0.mk (blk_grown (g := gb522) (o := .cells #[.slice A0_0 l0_0.length c0_0] 38 (0, 0)) (bkq BK522) hg (Kd.S_ne HO_3.out BK522.out (by decide))); have n2_ := Aside0.mk (hb); have n3_ := Aside0.mk (ho); clear HO_4; clear BK522; clear HB; clear HO_3; clear HO_6; have HO_4 := n0_; have BK522 := n1_; have HB := n2_; have HO541 := n3_; clear n0_ n1_ n2_ n3_; clear ho hb hg hat))
         go_roundg k2
         case measure => have := HK1.out; have := HK2.out; omega
         case rel => exact ⟨(y539), (wrap64 (x5_1 + 1)), (by first | rfl | (simp; done) | (simp [*]; done)), H', ⟨by have := HK1.out; have := HK2.out; omega⟩, ⟨Sq HO541.out⟩, ⟨Rq HO_4.out⟩, ⟨bkq BK522⟩, ⟨bwq HB⟩⟩
        ·rw [if_neg c33] at H
         exact absurd H (by simp)
    ·rw [if_neg c12] at H
     have c12b0 : decide (x5_1 < (l0_0.length : Int)) = false := decide_eq_false c12
     clear c12
     obtain rfl := Option.some.inj H
     obtain ⟨hcz37, hfz37⟩ := bcf BK522
     go_wp2
     go_ret
     exact ⟨_, by first | rfl | (simp [errW_none, errW_some] <;> rfl) | (simp [*, errW_none, errW_some] <;> rfl), Sq HO_3.out, bwq HB⟩
 ·replace c3 := Bool.eq_false_iff.mpr c3
  subst c3
  have H1 : (some y523) = some r := by rw [if_neg (show ¬ (false = true) by decide)] at H; exact H
  clear H
  have H := H1
  clear H1
  obtain rfl := Option.some.inj H
  go_enter Try.func94, Try.ntmps94
  go_wp2_with (first | ((with_reducible refine gate_dst (N := 1) rfl ?_); refine bxe (cs := #[.slice A0_0 l0_0.length c0_0]) (t := 38) ?_; intro gb522 hg w38 hbox hb; have BK522 := Aside0.mk (hbox); have GW522 := bwz HB hg; have GE522 := bwz HB hg; replace HB := bwb HB hb; clear hb hbox hg) | ((with_reducible refine gate_dst (N := 8) rfl ?_); refine Kd.S_lit (Kd.slice 3 (Kd.int .i64)) _ 32 ?hg (N := 8) ?hd (xs := ([] : List (List Int))) (inner := []) (ok := fun _ => True) (okp := fun _ => True) ?hr ?hp (fun _ hk => hk) trivial (Below.refl _ _) (Nat.le_refl _) (by simp) ?_; (case hd => rfl); (case hg => rfl); (case hr => first | (go_simp; done) | (go_simp; rfl) | (go_simp; rfl)); (case hp => exact (Reps.none _ _)); intro v524 w39 ho40 hb hg_ hnew_; clear hg_ hnew_; (first | rw [← Ny523.out] at ho40 | (simp only [Int.reduceToNat] at ho40; rw [← Ny523.out] at ho40)); have HO525 := Aside0.mk (Kd.S_lower ho40 (below_size (bwq HB))); replace BK522 := bkb BK522 hb; replace HB := bwb HB hb; clear hb ho40; obtain ⟨hcz41, hfz41⟩ := bcf BK522) | ((with_reducible refine gate_callee (f := 76) rfl ?_); refine goesM (some 10) rfl rfl Try.func76 #[.agg #[.slice A0_0 l0_0.length c0_0]] rfl ?_; (with_reducible refine (spec_ProgOk.calls k _ _ l0_0 false _ ?side1 ?side2 A2.out).mono ?_); (case side1 => exact Cq (Kd.C_below HR0_0.out HB.out)); (case side2 => exact HC0_0.out); rintro e w42 ⟨rfl, hb⟩; refine ⟨_, rfl, ?_⟩; replace HO525 := Aside0.mk (Kd.S_below (Sq HO525.out) hb); replace BK522 := bkb BK522 hb; replace HB := bwb HB hb; (try clear hb); (try clear hb2); (try clear hk); (try clear hi)))
  go_ret
  exact ⟨_, by first | rfl | (simp [errW_none, errW_some] <;> rfl) | (simp [*, errW_none, errW_some] <;> rfl), Sq HO525.out, bwq HB⟩
def spec_l11Sets.f (a0_0 : Int) (a0_1 : Int) (a0_2 : Int) (a0_3 : Int) (a0_4 : Int) (a0_5 : Int) (a0_6 : Int) (l0_7 : List Int) : Option (Int) := if a0_0 = 1 then (some a0_1) else (if a0_0 = 2 then (some a0_1) else (if a0_0 = 3 then (some a0_1) else (some (-1))))
set_option maxHeartbeats 8000000 in
set_option maxRecDepth 100000 in
theorem spec_l11Sets.calls (a0_0 : Int) (a0_1 : Int) (a0_2 : Int) (a0_3 : Int) (a0_4 : Int) (a0_5 : Int) (a0_6 : Int) (A0_7 : Option Addr) (c0_7 : Nat) (l0_7 : List Int) (r : Int) (w : World) (hr0_7 : Kd.C (Kd.int .i64) w A0_7 l0_7.length l0_7) (hc0_7 : l0_7.length ≤ c0_7) (h : spec_l11Sets.f a0_0 a0_1 a0_2 a0_3 a0_4 a0_5 a0_6 l0_7 = some r) :
  Calls Try.prog 125 #[.agg #[.int .i64 a0_0, .int .i64 a0_1, .int .i64 a0_2, .int .i64 a0_3, .int .i64 a0_4, .int .i64 a0_5, .int .i64 a0_6, .slice A0_7 l0_7.length c0_7]] w fun e w' => e = .returned (.int .i64 r) ∧ Below w.heap.size w w' := by
 have hu77 := Try.underlying77
 have HR0_7 := Aside0.mk hr0_7
 have HC0_7 := Aside0.mk hc0_7
 clear hr0_7 hc0_7
 have HB := Aside0.mk (Below.refl w.heap.size w)
 have H : (if a0_0 = 1 then (some a0_1) else (if a0_0 = 2 then (some a0_1) else (if a0_0 = 3 then (some a0_1) else (some (-1))))) = some r := h
 clear h
 by_cases c2 : a0_0 = 1
 ·rw [if_pos c2] at H
  have c2b0 : (a0_0 == 1) = true := beq_iff_eq.mpr c2
  have c2b1 : (a0_0 != 1) = false := bne_eq_false_iff_eq.mpr c2
  clear c2
  obtain rfl := Option.some.inj H
  go_enter Try.func125, Try.ntmps125
  go_wp2_with (first | ((with_reducible refine gate_dst (N := 1) rfl ?_); refine bxe (cs := #[.int .i64 a0_0, .int .i64 a0_1, .int .i64 a0_2, .int .i64 a0_3, .int .i64 a0_4, .int .i64 a0_5, .int .i64 a0_6, .slice A0_7 l0_7.length c0_7]) (t := 77) ?_; intro gb479 hg w3 hbox hb; have BK479 := Aside0.mk (hbox); have GW479 := bwz HB hg; have GE479 := bwz HB hg; replace HB := bwb HB hb; clear hb hbox hg; obtain ⟨hcz4, hfz4⟩ := bcf BK479))
  go_ret
  exact ⟨by first | rfl | (simp [errW_none, errW_some] <;> rfl) | (simp [*, errW_none, errW_some] <;> rfl), bwq HB⟩
 ·rw [if_neg c2] at H
  have c2b0 : (a0_0 == 1) = false := beq_eq_false_iff_ne.mpr c2
  have c2b1 : (a0_0 != 1) = true := bne_iff_ne.mpr c2
  by_cases c5 : a0_0 = 2
  ·rw [if_pos c5] at H
   have c5b0 : (a0_0 == 2) = true := beq_iff_eq.mpr c5
   have c5b1 : (a0_0 != 2) = false := bne_eq_false_iff_eq.mpr c5
   clear c5
   obtain rfl := Option.some.inj H
   go_enter Try.func125, Try.ntmps125
   go_wp2_with (first | ((with_reducible refine gate_dst (N := 1) rfl ?_); refine bxe (cs := #[.int .i64 a0_0, .int .i64 a0_1, .int .i64 a0_2, .int .i64 a0_3, .int .i64 a0_4, .int .i64 a0_5, .int .i64 a0_6, .slice A0_7 l0_7.length c0_7]) (t := 77) ?_; intro gb479 hg w6 hbox hb; have BK479 := Aside0.mk (hbox); have GW479 := bwz HB hg; have GE479 := bwz HB hg; replace HB := bwb HB hb; clear hb hbox hg; obtain ⟨hcz7, hfz7⟩ := bcf BK479))
   go_ret
   exact ⟨by first | rfl | (simp [errW_none, errW_some] <;> rfl) | (simp [*, errW_none, errW_some] <;> rfl), bwq HB⟩
  ·rw [if_neg c5] at H
   have c5b0 : (a0_0 == 2) = false := beq_eq_false_iff_ne.mpr c5
   have c5b1 : (a0_0 != 2) = true := bne_iff_ne.mpr c5
   by_cases c8 : a0_0 = 3
   ·rw [if_pos c8] at H
    have c8b0 : (a0_0 == 3) = true := beq_iff_eq.mpr c8
    have c8b1 : (a0_0 != 3) = false := bne_eq_false_iff_eq.mpr c8
    clear c8
    obtain rfl := Option.some.inj H
    go_enter Try.func125, Try.ntmps125
    go_wp2_with (first | ((with_reducible refine gate_dst (N := 1) rfl ?_); refine bxe (cs := #[.int .i64 a0_0, .int .i64 a0_1, .int .i64 a0_2, .int .i64 a0_3, .int .i64 a0_4, .int .i64 a0_5, .int .i64 a0_6, .slice A0_7 l0_7.length c0_7]) (t := 77) ?_; intro gb479 hg w9 hbox hb; have BK479 := Aside0.mk (hbox); have GW479 := bwz HB hg; have GE479 := bwz HB hg; replace HB := bwb HB hb; clear hb hbox hg; obtain ⟨hcz10, hfz10⟩ := bcf BK479))
    go_ret
    exact ⟨by first | rfl | (simp [errW_none, errW_some] <;> rfl) | (simp [*, errW_none, errW_some] <;> rfl), bwq HB⟩
   ·rw [if_neg c8] at H
    have c8b0 : (a0_0 == 3) = false := beq_eq_false_iff_ne.mpr c8
    have c8b1 : (a0_0 != 3) = true := bne_iff_ne.mpr c8
    obtain rfl := Option.some.inj H
    go_enter Try.func125, Try.ntmps125
    go_wp2_with (first | ((with_reducible refine gate_dst (N := 1) rfl ?_); refine bxe (cs := #[.int .i64 a0_0, .int .i64 a0_1, .int .i64 a0_2, .int .i64 a0_3, .int .i64 a0_4, .int .i64 a0_5, .int .i64 a0_6, .slice A0_7 l0_7.length c0_7]) (t := 77) ?_; intro gb479 hg w11 hbox hb; have BK479 := Aside0.mk (hbox); have GW479 := bwz HB hg; have GE479 := bwz HB hg; replace HB := bwb HB hb; clear hb hbox hg; obtain ⟨hcz12, hfz12⟩ := bcf BK479))
    go_ret
    exact ⟨by first | rfl | (simp [errW_none, errW_some] <;> rfl) | (simp [*, errW_none, errW_some] <;> rfl), bwq HB⟩
mutual
def spec_ExprKeeps.j0 : Nat → List Bool → Bool → List (S77) → Int → Int → Int → Int → Int → Option (List Bool)
 | 0, _, _, _, _, _, _, _, _ => none
 | k + 1, x5, x16, x481000, x482000, x482001, x482002, x482003, x482004 => if x16 = true then (some x5) else (spec_ExprKeeps.l0 k x5 0 x481000 x482000 x482001 x482002 x482003 x482004)
def spec_ExprKeeps.l0 : Nat → List Bool → Int → List (S77) → Int → Int → Int → Int → Int → Option (List Bool)
 | 0, _, _, _, _, _, _, _, _ => none
 | k + 1, x5, x6, x481000, x482000, x482001, x482002, x482003, x482004 => if x6 < (x481000.length : Int) then (if 0 ≤ x6 then ((spec_l11Sets.f ((rd_T77 x481000 x6).f0) ((rd_T77 x481000 x6).f1) ((rd_T77 x481000 x6).f2) ((rd_T77 x481000 x6).f3.f0) ((rd_T77 x481000 x6).f3.f1) ((rd_T77 x481000 x6).f4.f0) ((rd_T77 x481000 x6).f4.f1) ((rd_T77 x481000 x6).f5)).bind fun t488 => (if t488 < 0 then (if x5.length < 140737488355328 then (spec_ExprKeeps.l0 k (x5 ++ [true]) (wrap64 (x6 + 1)) x481000 x482000 x482001 x482002 x482003 x482004) else (none)) else (if t488 = x482001 then (if x5.length < 140737488355328 then (spec_ExprKeeps.l0 k (x5 ++ [false]) (wrap64 (x6 + 1)) x481000 x482000 x482001 x482002 x482003 x482004) else (none)) else (if x5.length < 140737488355328 then (spec_ExprKeeps.l0 k (x5 ++ [(t488 != x482003)]) (wrap64 (x6 + 1)) x481000 x482000 x482001 x482002 x482003 x482004) else (none))))) else (none)) else (some x5)
end
def spec_ExprKeeps.f (k : Nat) (l0_0 : List (S77)) (a1_0 : Int) (a1_1 : Int) (a1_2 : Int) (a1_3 : Int) (a1_4 : Int) : Option (List Bool) := (some (([] : List Bool) : List Bool)).bind fun y482 => ((spec_ProgOk.f k l0_0).bind fun t485 => (if t485 = true then ((spec_ExprOk.f a1_0 a1_1 a1_2 a1_3 a1_4).bind fun t486 => (spec_ExprKeeps.j0 k y482 (!t486) l0_0 a1_0 a1_1 a1_2 a1_3 a1_4)) else (spec_ExprKeeps.j0 k y482 true l0_0 a1_0 a1_1 a1_2 a1_3 a1_4)))
set_option maxHeartbeats 8000000 in
set_option maxRecDepth 100000 in
theorem spec_ExprKeeps.calls (k : Nat) (A0_0 : Option Addr) (c0_0 : Nat) (l0_0 : List (S77)) (a1_0 : Int) (a1_1 : Int) (a1_2 : Int) (a1_3 : Int) (a1_4 : Int) (r : List Bool) (w : World) (hr0_0 : Kd.C k77 w A0_0 l0_0.length l0_0) (hc0_0 : l0_0.length ≤ c0_0) (h : spec_ExprKeeps.f k l0_0 a1_0 a1_1 a1_2 a1_3 a1_4 = some r) :
  Calls Try.prog 93 #[.agg #[.slice A0_0 l0_0.length c0_0], .agg #[.int .i64 a1_0, .int .i64 a1_1, .int .i64 a1_2, .int .i64 a1_3, .int .i64 a1_4]] w fun e w' => ∃ v0_ : Value, e = .returned (v0_) ∧ Kd.R Kd.bool 4 w' w.heap.size (fun _ => True) v0_ r ∧ Below w.heap.size w w' := by
 have hu38 := Try.underlying38
 have hu42 := Try.underlying42
 have hu77 := Try.underlying77
 have HR0_0 := Aside0.mk hr0_0
 have HC0_0 := Aside0.mk hc0_0
 clear hr0_0 hc0_0
 have HB := Aside0.mk (Below.refl w.heap.size w)
 have H : ((some (([] : List Bool) : List Bool)).bind fun y482 => ((spec_ProgOk.f k l0_0).bind fun t485 => (if t485 = true then ((spec_ExprOk.f a1_0 a1_1 a1_2 a1_3 a1_4).bind fun t486 => (spec_ExprKeeps.j0 k y482 (!t486) l0_0 a1_0 a1_1 a1_2 a1_3 a1_4)) else (spec_ExprKeeps.j0 k y482 true l0_0 a1_0 a1_1 a1_2 a1_3 a1_4)))) = some r := h
 clear h
 obtain ⟨y482, hy482⟩ : ∃ y_ : List Bool, y_ = (([] : List Bool)) := ⟨_, rfl⟩
 replace H : ((spec_ProgOk.f k l0_0).bind fun t485 => (if t485 = true then ((spec_ExprOk.f a1_0 a1_1 a1_2 a1_3 a1_4).bind fun t486 => (spec_ExprKeeps.j0 k y482 (!t486) l0_0 a1_0 a1_1 a1_2 a1_3 a1_4)) else (spec_ExprKeeps.j0 k y482 true l0_0 a1_0 a1_1 a1_2 a1_3 a1_4))) = some r := by first | (rw [hy482]; with_reducible exact H) | (have H2_ := (Option.bind_some _ _).symm.trans H; rw [hy482]; with_reducible exact H2_) | (have H2_ := (Option.bind_some _ _).symm.trans H; with_reducible exact H2_) | with_reducible exact H | (rw [hy482]; exact H) | exact H
 have Ny482 := Aside0.mk hy482
 clear hy482
 have HC3 := Aside0.mk H
 clear H
 go_enter Try.func93, Try.ntmps93
 go_upto_region 2 with (first | ((with_reducible refine gate_dst (N := 2) rfl ?_); refine bxe (cs := #[.slice A0_0 l0_0.length c0_0]) (t := 38) ?_; intro gb480 hg w4 hbox hb; have BK480 := Aside0.mk (hbox); have GW480 := bwz HB hg; have GE480 := bwz HB hg; replace HB := bwb HB hb; clear hb hbox hg) | ((with_reducible refine gate_dst (N := 3) rfl ?_); refine bxe (cs := #[.int .i64 a1_0, .int .i64 a1_1, .int .i64 a1_2, .int .i64 a1_3, .int .i64 a1_4]) (t := 42) ?_; intro gb481 hg w5 hbox hb; have BK481 := Aside0.mk (hbox); have GW481 := bwz HB hg; have GE481 := bwz HB hg; replace HB := bwb HB hb; have NB480_481 := bkl BK480 hg; have NB481_480 := bkg BK480 hg; replace BK480 := bkb BK480 hb; clear hb hbox hg) | ((with_reducible refine gate_dst (N := 8) rfl ?_); refine Kd.R_lit Kd.bool _ 4 ?hg (N := 8) ?hd (xs := ([] : List Bool)) (inner := []) (ok := fun _ => True) (okp := fun _ => True) ?hr ?hp (fun _ hk => hk) trivial (Below.refl _ _) (Nat.le_refl _) (by simp) ?_; (case hd => rfl); (case hg => rfl); (case hr => first | (go_simp; done) | (go_simp; rfl) | (go_simp; rfl)); (case hp => exact (Reps.none _ _)); intro v483 w6 ho7 hb hg_ hnew_; clear hg_ hnew_; (first | rw [← Ny482.out] at ho7 | (simp only [Int.reduceToNat] at ho7; rw [← Ny482.out] at ho7)); have HO484 := Aside0.mk (Kd.R_lower ho7 (below_size (bwq HB))); replace BK480 := bkb BK480 hb; replace BK481 := bkb BK481 hb; replace HB := bwb HB hb; clear hb ho7))
 (try simp only [Act.put, List.setIfInBounds_toArray, List.set_cons_zero, List.set_cons_succ])
 go_cut [16] (fun v16 wc => ∃ (kq : Nat) (x16_2 : Bool), v16 = .bool x16_2 ∧ Aside0 (spec_ExprKeeps.j0 kq y482 x16_2 l0_0 a1_0 a1_1 a1_2 a1_3 a1_4 = some r) ∧ Aside0 (kq ≤ k) ∧ Aside0 (Kd.R Kd.bool 4 wc w.heap.size (fun _ => True) v483 y482) ∧ Aside0 (wc.heap[gb480]? = some (.cells #[(.slice A0_0 l0_0.length c0_0)] 38 (0, 0))) ∧ Aside0 (wc.heap[gb481]? = some (.cells #[.int .i64 a1_0, .int .i64 a1_1, .int .i64 a1_2, .int .i64 a1_3, .int .i64 a1_4] 42 (0, 0))) ∧ Aside0 (Below w.heap.size w wc))
 case first =>
  have H := HC3.out
  clear HC3
  replace H := Option.bind_eq_some_iff.mp H
  obtain ⟨t485, A80, H⟩ := H
  have A8 := Aside0.mk A80
  clear A80
  by_cases c9 : t485 = true
  ·subst c9
   rw [if_pos rfl] at H
   replace H := Option.bind_eq_some_iff.mp H
   obtain ⟨t486, A100, H⟩ := H
   have A10 := Aside0.mk A100
   clear A100
   have H' := Aside0.mk H
   clear H
   have hnb11 := NB480_481.out
   have hnc11 := NB481_480.out
   obtain ⟨hcz12, hfz12⟩ := bcf BK480
   go_wp2_with (first | ((with_reducible refine gate_callee (f := 76) rfl ?_); refine goesM (some 10) rfl rfl Try.func76 #[.agg #[.slice A0_0 l0_0.length c0_0]] rfl ?_; (with_reducible refine (spec_ProgOk.calls k _ _ l0_0 true _ ?side1 ?side2 A8.out).mono ?_); (case side1 => exact Cq (Kd.C_below HR0_0.out HB.out)); (case side2 => exact HC0_0.out); rintro e w13 ⟨rfl, hb⟩; refine ⟨_, rfl, ?_⟩; replace HO484 := Aside0.mk (Kd.R_below (Rq HO484.out) hb); replace BK480 := bkb BK480 hb; replace BK481 := bkb BK481 hb; replace HB := bwb HB hb; (try clear hb); (try clear hb2); (try clear hk); (try clear hi); obtain ⟨hcz14, hfz14⟩ := bcf BK481) | (go_at_call 79; (with_reducible refine (spec_ExprOk.calls a1_0 a1_1 a1_2 a1_3 a1_4 t486 _ A10.out).mono ?_); rintro e w15 ⟨rfl, hb⟩; replace HO484 := Aside0.mk (Kd.R_below (Rq HO484.out) hb); replace BK480 := bkb BK480 hb; replace BK481 := bkb BK481 hb; replace HB := bwb HB hb; (try clear hb); (try clear hb2); (try clear hk); (try clear hi)))
   go_meet
   case rel => exact ⟨_, (!t486), (by first | rfl | (simp; done) | (simp [*]; done)), H', ⟨by first | omega | exact Nat.le_refl _⟩, ⟨Rq HO484.out⟩, ⟨bkq BK480⟩, ⟨bkq BK481⟩, ⟨bwq HB⟩⟩
  ·replace c9 := Bool.eq_false_iff.mpr c9
   subst c9
   have H1 : (spec_ExprKeeps.j0 k y482 true l0_0 a1_0 a1_1 a1_2 a1_3 a1_4) = some r := by rw [if_neg (show ¬ (false = true) by decide)] at H; exact H
   clear H
   have H := H1
   clear H1
   have H' := Aside0.mk H
   clear H
   have hnb16 := NB480_481.out
   have hnc16 := NB481_480.out
   obtain ⟨hcz17, hfz17⟩ := bcf BK480
   go_wp2_with (first | ((with_reducible refine gate_callee (f := 76) rfl ?_); refine goesM (some 10) rfl rfl Try.func76 #[.agg #[.slice A0_0 l0_0.length c0_0]] rfl ?_; (with_reducible refine (spec_ProgOk.calls k _ _ l0_0 false _ ?side1 ?side2 A8.out).mono ?_); (case side1 => exact Cq (Kd.C_below HR0_0.out HB.out)); (case side2 => exact HC0_0.out); rintro e w18 ⟨rfl, hb⟩; refine ⟨_, rfl, ?_⟩; replace HO484 := Aside0.mk (Kd.R_below (Rq HO484.out) hb); replace BK480 := bkb BK480 hb; replace BK481 := bkb BK481 hb; replace HB := bwb HB hb; (try clear hb); (try clear hb2); (try clear hk); (try clear hi)))
   go_meet
   case rel => exact ⟨_, (true), (by first | rfl | (simp; done) | (simp [*]; done)), H', ⟨by first | omega | exact Nat.le_refl _⟩, ⟨Rq HO484.out⟩, ⟨bkq BK480⟩, ⟨bkq BK481⟩, ⟨bwq HB⟩⟩
 case rest =>
  clear HC3
  try clear c1
  try clear p2
  try clear c7
  try clear c9
  try clear c11
  try clear c16
  try clear hcz12
  try clear hcz14
  try clear hcz17
  try clear hfz12
  try clear hfz14
  try clear hfz17
  obtain ⟨kq, x16_2, rfl, HA, HJ2, HO_5, BK480, BK481, HB⟩ := hcut
  cases kq with
  | zero => exact absurd HA.out (by intro h_; first | (cases h_; done) | (simp [spec_ExprKeeps.j0] at h_))
  | succ kj2 =>
   have H := HA.out
   clear HA
   simp only [spec_ExprKeeps.j0] at H
   by_cases c19 : x16_2 = true
   ·subst c19
    rw [if_pos rfl] at H
    obtain rfl := Option.some.inj H
    go_wp2
    go_ret
    exact ⟨_, by first | rfl | (simp [errW_none, errW_some] <;> rfl) | (simp [*, errW_none, errW_some] <;> rfl), Rq HO_5.out, bwq HB⟩
   ·replace c19 := Bool.eq_false_iff.mpr c19
    subst c19
    have H1 : (spec_ExprKeeps.l0 kj2 y482 0 l0_0 a1_0 a1_1 a1_2 a1_3 a1_4) = some r := by rw [if_neg (show ¬ (false = true) by decide)] at H; exact H
    clear H
    have H := H1
    clear H1
    have H' := Aside0.mk H
    clear H
    go_wp2
    go_loopg [5, 6] kj2 (fun kq v5 v6 w' => ∃ (x5_2 : List Bool) (x6_2 : Int), v6 = .int .i64 x6_2 ∧ Aside0 (spec_ExprKeeps.l0 kq x5_2 x6_2 l0_0 a1_0 a1_1 a1_2 a1_3 a1_4 = some r) ∧ Aside0 (kq ≤ kj2) ∧ Aside0 (Kd.R Kd.bool 4 w' w.heap.size (fun _ => True) v5 x5_2) ∧ Aside0 (w'.heap[gb480]? = some (.cells #[(.slice A0_0 l0_0.length c0_0)] 38 (0, 0))) ∧ Aside0 (w'.heap[gb481]? = some (.cells #[.int .i64 a1_0, .int .i64 a1_1, .int .i64 a1_2, .int .i64 a1_3, .int .i64 a1_4] 42 (0, 0))) ∧ Aside0 (Below w.heap.size w w'))
    case atStart => exact ⟨(y482), (0), (by first | rfl | (simp; done) | (simp [*]; done)), H', ⟨Nat.le_refl _⟩, ⟨Rq HO_5.out⟩, ⟨bkq BK480⟩, ⟨bkq BK481⟩, ⟨bwq HB⟩⟩
    case round =>
     clear H'
     try clear c1
     try clear p2
     try clear c7
     try clear c9
     try clear c11
     try clear c16
     try clear c19
     try clear hcz12
     try clear hcz14
     try clear hcz17
     try clear hfz12
     try clear hfz14
     try clear hfz17
     try clear p2
     obtain ⟨x5_2, x6_2, rfl, HA, HK2, HO_5, BK480, BK481, HB⟩ := hrel
     cases gk with
     | zero => exact absurd HA.out (by intro h_; first | (cases h_; done) | (simp [spec_ExprKeeps.l0] at h_))
     | succ k2 =>
      have H := HA.out
      clear HA
      simp only [spec_ExprKeeps.l0] at H
      by_cases c20 : x6_2 < (l0_0.length : Int)
      ·rw [if_pos c20] at H
       have c20b0 : decide (x6_2 < (l0_0.length : Int)) = true := decide_eq_true c20
       clear c20
       by_cases c21 : 0 ≤ x6_2
       ·rw [if_pos c21] at H
        have c21b0 : decide (0 ≤ x6_2) = true := decide_eq_true c21
        clear c21
        replace H := Option.bind_eq_some_iff.mp H
        obtain ⟨t488, A220, H⟩ := H
        have A22 := Aside0.mk A220
        clear A220
        by_cases c23 : t488 < 0
        ·rw [if_pos c23] at H
         have c23b0 : decide (t488 < 0) = true := decide_eq_true c23
         clear c23
         by_cases c24 : x5_2.length < 140737488355328
         ·rw [if_pos c24] at H
          have LMc24 := Aside0.mk c24
          clear c24
          obtain ⟨y489, hy489⟩ : ∃ y_ : List Bool, y_ = (x5_2 ++ [true]) := ⟨_, rfl⟩
          replace H : (spec_ExprKeeps.l0 k2 y489 (wrap64 (x6_2 + 1)) l0_0 a1_0 a1_1 a1_2 a1_3 a1_4) = some r := by first | (rw [hy489]; with_reducible exact H) | (have H2_ := (Option.bind_some _ _).symm.trans H; rw [hy489]; with_reducible exact H2_) | (have H2_ := (Option.bind_some _ _).symm.trans H; with_reducible exact H2_) | with_reducible exact H | (rw [hy489]; exact H) | exact H
          have Ny489 := Aside0.mk hy489
          clear hy489
          have H' := Aside0.mk H
          clear H
          have hnb25 := NB480_481.out
          have hnc25 := NB481_480.out
          obtain ⟨hcz26, hfz26⟩ := bcf BK480
          have p487 : 0 ≤ (x6_2 : Int) := oda
          have q487 : x6_2 < (l0_0.length : Int) := oda
          obtain ⟨ad487, A487_7, c487_7, e487, hx487_0, hx487_1, hx487_2, hx487_3, hx487_4, hx487_5, hx487_6, hx487_7, hl487_7, hi487_7⟩ := at_T77 HR0_0.out x6_2 p487 q487
          cases e487
          replace hx487_0 := hxb HB hx487_0
          replace hx487_1 := hxb HB hx487_1
          replace hx487_2 := hxb HB hx487_2
          replace hx487_3 := hxb HB hx487_3
          replace hx487_4 := hxb HB hx487_4
          replace hx487_5 := hxb HB hx487_5
          replace hx487_6 := hxb HB hx487_6
          replace hx487_7 := hxb HB hx487_7
          have HR487_7 := Aside0.mk hi487_7
          have HC487_7 := Aside0.mk hl487_7
          clear hi487_7 hl487_7
          replace p487 := eq_true p487
          replace q487 := eq_true q487
          go_wp2_with (first | ((with_reducible refine gate_callee (f := 125) rfl ?_); refine goesM (some 30) rfl rfl Try.func125 #[.agg #[.int .i64 ((rd_T77 l0_0 x6_2).f0), .int .i64 ((rd_T77 l0_0 x6_2).f1), .int .i64 ((rd_T77 l0_0 x6_2).f2), .int .i64 ((rd_T77 l0_0 x6_2).f3.f0), .int .i64 ((rd_T77 l0_0 x6_2).f3.f1), .int .i64 ((rd_T77 l0_0 x6_2).f4.f0), .int .i64 ((rd_T77 l0_0 x6_2).f4.f1), .slice A487_7 ((rd_T77 l0_0 x6_2).f5).length c487_7]] rfl ?_; (with_reducible refine (spec_l11Sets.calls ((rd_T77 l0_0 x6_2).f0) ((rd_T77 l0_0 x6_2).f1) ((rd_T77 l0_0 x6_2).f2) ((rd_T77 l0_0 x6_2).f3.f0) ((rd_T77 l0_0 x6_2).f3.f1) ((rd_T77 l0_0 x6_2).f4.f0) ((rd_T77 l0_0 x6_2).f4.f1) _ _ ((rd_T77 l0_0 x6_2).f5) t488 _ ?side1 ?side2 A22.out).mono ?_); (case side1 => exact Cq (Kd.C_below HR487_7.out HB.out)); (case side2 => exact HC487_7.out); rintro e w27 ⟨rfl, hb⟩; refine ⟨_, rfl, ?_⟩; replace HO_5 := Aside0.mk (Kd.R_below (Rq HO_5.out) hb); replace BK480 := bkb BK480 hb; replace BK481 := bkb BK481 hb; replace HB := bwb HB hb; (try clear hb); (try clear hb2); (try clear hk); (try clear hi)) | ((with_reducible refine gate_builtin (b := .append) (xs := #[.tmp 31, .tmp 48]) rfl ?_); at_builtin; refine Kd.R_append Kd.bool (w0 := w) w.heap.size rfl (.tmp 31) (.tmp 48) 29 4 (.bool false) 1 rfl Try.underlying29 info4 rfl (by decide) (by omega) u5 x5_2 true [.bool true] (fun _ => True) (fun _ => False) rfl rfl ?aP (fun _ hk => hk.elim) ?aF ?aO ?aB ?aS ?aL ?_; (case aP => exact rfl); (case aB => exact (bwq HB)); (case aF => exact (fun _ _ => trivial)); (case aO => exact (Rq HO_5.out)); (case aS => exact (below_size (bwq HB))); (case aL => have := LMc24.out; omega); intro v490 w28 ho hb hg hat; rw [← Ny489.out] at ho; have n0_ := Aside0.mk (blk_grown (g := gb480) (o := .cells #[.slice (some ad487) l0_0.length c0_0] 38 (0, 0)) (bkq BK480) hg (Kd.R_ne HO_5.out BK480.out (by decide))); have n1_ := Aside0.mk (blk_grown (g := gb481) (o := .cells #[.int .i64 a1_0, .int .i64 a1_1, .int .i64 a1_2, .int .i64 a1_3, .int .i64 a1_4] 42 (0, 0)) (bkq BK481) hg (Kd.R_ne HO_5.out BK481.out (by decide))); have n2_ := Aside0.mk (hb); have n3_ := Aside0.mk (ho); clear BK480; clear BK481; clear HB; clear HO_5; have BK480 := n0_; have BK481 := n1_; have HB := n2_; have HO491 := n3_; clear n0_ n1_ n2_ n3_; clear ho hb hg hat))
          go_roundg k2
          case measure => have := HJ2.out; have := HK2.out; omega
          case rel => exact ⟨(y489), (wrap64 (x6_2 + 1)), (by first | rfl | (simp; done) | (simp [*]; done)), H', ⟨by have := HJ2.out; have := HK2.out; omega⟩, ⟨Rq HO491.out⟩, ⟨bkq BK480⟩, ⟨bkq BK481⟩, ⟨bwq HB⟩⟩
         ·rw [if_neg c24] at H
          exact absurd H (by simp)
        ·rw [if_neg c23] at H
         have c23b0 : decide (t488 < 0) = false := decide_eq_false c23
         clear c23
         by_cases c29 : t488 = a1_1
         ·rw [if_pos c29] at H
          have c29b0 : (t488 == a1_1) = true := beq_iff_eq.mpr c29
          have c29b1 : (t488 != a1_1) = false := bne_eq_false_iff_eq.mpr c29
          clear c29
          by_cases c30 : x5_2.length < 140737488355328
          ·rw [if_pos c30] at H
           have LMc30 := Aside0.mk c30
           clear c30
           obtain ⟨y492, hy492⟩ : ∃ y_ : List Bool, y_ = (x5_2 ++ [false]) := ⟨_, rfl⟩
           replace H : (spec_ExprKeeps.l0 k2 y492 (wrap64 (x6_2 + 1)) l0_0 a1_0 a1_1 a1_2 a1_3 a1_4) = some r := by first | (rw [hy492]; with_reducible exact H) | (have H2_ := (Option.bind_some _ _).symm.trans H; rw [hy492]; with_reducible exact H2_) | (have H2_ := (Option.bind_some _ _).symm.trans H; with_reducible exact H2_) | with_reducible exact H | (rw [hy492]; exact H) | exact H
           have Ny492 := Aside0.mk hy492
           clear hy492
           have H' := Aside0.mk H
           clear H
           have hnb31 := NB480_481.out
           have hnc31 := NB481_480.out
           obtain ⟨hcz32, hfz32⟩ := bcf BK480
           have p487 : 0 ≤ (x6_2 : Int) := oda
           have q487 : x6_2 < (l0_0.length : Int) := oda
           obtain ⟨ad487, A487_7, c487_7, e487, hx487_0, hx487_1, hx487_2, hx487_3, hx487_4, hx487_5, hx487_6, hx487_7, hl487_7, hi487_7⟩ := at_T77 HR0_0.out x6_2 p487 q487
           cases e487
           replace hx487_0 := hxb HB hx487_0
           replace hx487_1 := hxb HB hx487_1
           replace hx487_2 := hxb HB hx487_2
           replace hx487_3 := hxb HB hx487_3
           replace hx487_4 := hxb HB hx487_4
           replace hx487_5 := hxb HB hx487_5
           replace hx487_6 := hxb HB hx487_6
           replace hx487_7 := hxb HB hx487_7
           have HR487_7 := Aside0.mk hi487_7
           have HC487_7 := Aside0.mk hl487_7
           clear hi487_7 hl487_7
           replace p487 := eq_true p487
           replace q487 := eq_true q487
           go_wp2_with (first | ((with_reducible refine gate_callee (f := 125) rfl ?_); refine goesM (some 30) rfl rfl Try.func125 #[.agg #[.int .i64 ((rd_T77 l0_0 x6_2).f0), .int .i64 ((rd_T77 l0_0 x6_2).f1), .int .i64 ((rd_T77 l0_0 x6_2).f2), .int .i64 ((rd_T77 l0_0 x6_2).f3.f0), .int .i64 ((rd_T77 l0_0 x6_2).f3.f1), .int .i64 ((rd_T77 l0_0 x6_2).f4.f0), .int .i64 ((rd_T77 l0_0 x6_2).f4.f1), .slice A487_7 ((rd_T77 l0_0 x6_2).f5).length c487_7]] rfl ?_; (with_reducible refine (spec_l11Sets.calls ((rd_T77 l0_0 x6_2).f0) ((rd_T77 l0_0 x6_2).f1) ((rd_T77 l0_0 x6_2).f2) ((rd_T77 l0_0 x6_2).f3.f0) ((rd_T77 l0_0 x6_2).f3.f1) ((rd_T77 l0_0 x6_2).f4.f0) ((rd_T77 l0_0 x6_2).f4.f1) _ _ ((rd_T77 l0_0 x6_2).f5) t488 _ ?side1 ?side2 A22.out).mono ?_); (case side1 => exact Cq (Kd.C_below HR487_7.out HB.out)); (case side2 => exact HC487_7.out); rintro e w33 ⟨rfl, hb⟩; refine ⟨_, rfl, ?_⟩; replace HO_5 := Aside0.mk (Kd.R_below (Rq HO_5.out) hb); replace BK480 := bkb BK480 hb; replace BK481 := bkb BK481 hb; replace HB := bwb HB hb; (try clear hb); (try clear hb2); (try clear hk); (try clear hi); obtain ⟨hcz34, hfz34⟩ := bcf BK481) | ((with_reducible refine gate_builtin (b := .append) (xs := #[.tmp 31, .tmp 48]) rfl ?_); at_builtin; refine Kd.R_append Kd.bool (w0 := w) w.heap.size rfl (.tmp 31) (.tmp 48) 29 4 (.bool false) 1 rfl Try.underlying29 info4 rfl (by decide) (by omega) u5 x5_2 false [.bool false] (fun _ => True) (fun _ => False) rfl rfl ?aP (fun _ hk => hk.elim) ?aF ?aO ?aB ?aS ?aL ?_; (case aP => exact rfl); (case aB => exact (bwq HB)); (case aF => exact (fun _ _ => trivial)); (case aO => exact (Rq HO_5.out)); (case aS => exact (below_size (bwq HB))); (case aL => have := LMc30.out; omega); intro v493 w35 ho hb hg hat; rw [← Ny492.out] at ho; have n0_ := Aside0.mk (blk_grown (g := gb480) (o := .cells #[.slice (some ad487) l0_0.length c0_0] 38 (0, 0)) (bkq BK480) hg (Kd.R_ne HO_5.out BK480.out (by decide))); have n1_ := Aside0.mk (blk_grown (g := gb481) (o := .cells #[.int .i64 a1_0, .int .i64 a1_1, .int .i64 a1_2, .int .i64 a1_3, .int .i64 a1_4] 42 (0, 0)) (bkq BK481) hg (Kd.R_ne HO_5.out BK481.out (by decide))); have n2_ := Aside0.mk (hb); have n3_ := Aside0.mk (ho); clear BK480; clear BK481; clear HB; clear HO_5; have BK480 := n0_; have BK481 := n1_; have HB := n2_; have HO494 := n3_; clear n0_ n1_ n2_ n3_; clear ho hb hg hat))
           go_roundg k2
           case measure => have := HJ2.out; have := HK2.out; omega
           case rel => exact ⟨(y492), (wrap64 (x6_2 + 1)), (by first | rfl | (simp; done) | (simp [*]; done)), H', ⟨by have := HJ2.out; have := HK2.out; omega⟩, ⟨Rq HO494.out⟩, ⟨bkq BK480⟩, ⟨bkq BK481⟩, ⟨bwq HB⟩⟩
          ·rw [if_neg c30] at H
           exact absurd H (by simp)
         ·rw [if_neg c29] at H
          have c29b0 : (t488 == a1_1) = false := beq_eq_false_iff_ne.mpr c29
          have c29b1 : (t488 != a1_1) = true := bne_iff_ne.mpr c29
          by_cases c36 : x5_2.length < 140737488355328
          ·rw [if_pos c36] at H
           have LMc36 := Aside0.mk c36
           clear c36
           obtain ⟨y495, hy495⟩ : ∃ y_ : List Bool, y_ = (x5_2 ++ [(t488 != a1_3)]) := ⟨_, rfl⟩
           replace H : (spec_ExprKeeps.l0 k2 y495 (wrap64 (x6_2 + 1)) l0_0 a1_0 a1_1 a1_2 a1_3 a1_4) = some r := by first | (rw [hy495]; with_reducible exact H) | (have H2_ := (Option.bind_some _ _).symm.trans H; rw [hy495]; with_reducible exact H2_) | (have H2_ := (Option.bind_some _ _).symm.trans H; with_reducible exact H2_) | with_reducible exact H | (rw [hy495]; exact H) | exact H
           have Ny495 := Aside0.mk hy495
           clear hy495
           have H' := Aside0.mk H
           clear H
           have hnb37 := NB480_481.out
           have hnc37 := NB481_480.out
           obtain ⟨hcz38, hfz38⟩ := bcf BK480
           have p487 : 0 ≤ (x6_2 : Int) := oda
           have q487 : x6_2 < (l0_0.length : Int) := oda
           obtain ⟨ad487, A487_7, c487_7, e487, hx487_0, hx487_1, hx487_2, hx487_3, hx487_4, hx487_5, hx487_6, hx487_7, hl487_7, hi487_7⟩ := at_T77 HR0_0.out x6_2 p487 q487
           cases e487
           replace hx487_0 := hxb HB hx487_0
           replace hx487_1 := hxb HB hx487_1
           replace hx487_2 := hxb HB hx487_2
           replace hx487_3 := hxb HB hx487_3
           replace hx487_4 := hxb HB hx487_4
           replace hx487_5 := hxb HB hx487_5
           replace hx487_6 := hxb HB hx487_6
           replace hx487_7 := hxb HB hx487_7
           have HR487_7 := Aside0.mk hi487_7
           have HC487_7 := Aside0.mk hl487_7
           clear hi487_7 hl487_7
           replace p487 := eq_true p487
           replace q487 := eq_true q487
           go_wp2_with (first | ((with_reducible refine gate_callee (f := 125) rfl ?_); refine goesM (some 30) rfl rfl Try.func125 #[.agg #[.int .i64 ((rd_T77 l0_0 x6_2).f0), .int .i64 ((rd_T77 l0_0 x6_2).f1), .int .i64 ((rd_T77 l0_0 x6_2).f2), .int .i64 ((rd_T77 l0_0 x6_2).f3.f0), .int .i64 ((rd_T77 l0_0 x6_2).f3.f1), .int .i64 ((rd_T77 l0_0 x6_2).f4.f0), .int .i64 ((rd_T77 l0_0 x6_2).f4.f1), .slice A487_7 ((rd_T77 l0_0 x6_2).f5).length c487_7]] rfl ?_; (with_reducible refine (spec_l11Sets.calls ((rd_T77 l0_0 x6_2).f0) ((rd_T77 l0_0 x6_2).f1) ((rd_T77 l0_0 x6_2).f2) ((rd_T77 l0_0 x6_2).f3.f0) ((rd_T77 l0_0 x6_2).f3.f1) ((rd_T77 l0_0 x6_2).f4.f0) ((rd_T77 l0_0 x6_2).f4.f1) _ _ ((rd_T77 l0_0 x6_2).f5) t488 _ ?side1 ?side2 A22.out).mono ?_); (case side1 => exact Cq (Kd.C_below HR487_7.out HB.out)); (case side2 => exact HC487_7.out); rintro e w39 ⟨rfl, hb⟩; refine ⟨_, rfl, ?_⟩; replace HO_5 := Aside0.mk (Kd.R_below (Rq HO_5.out) hb); replace BK480 := bkb BK480 hb; replace BK481 := bkb BK481 hb; replace HB := bwb HB hb; (try clear hb); (try clear hb2); (try clear hk); (try clear hi); obtain ⟨hcz40, hfz40⟩ := bcf BK481) | ((with_reducible refine gate_builtin (b := .append) (xs := #[.tmp 31, .tmp 48]) rfl ?_); at_builtin; refine Kd.R_append Kd.bool (w0 := w) w.heap.size rfl (.tmp 31) (.tmp 48) 29 4 (.bool false) 1 rfl Try.underlying29 info4 rfl (by decide) (by omega) u5 x5_2 (t488 != a1_3) [.bool (t488 != a1_3)] (fun _ => True) (fun _ => False) rfl rfl ?aP (fun _ hk => hk.elim) ?aF ?aO ?aB ?aS ?aL ?_; (case aP => exact rfl); (case aB => exact (bwq HB)); (case aF => exact (fun _ _ => trivial)); (case aO => exact (Rq HO_5.out)); (case aS => exact (below_size (bwq HB))); (case aL => have := LMc36.out; omega); intro v496 w41 ho hb hg hat; rw [← Ny495.out] at ho; have n0_ := Aside0.mk (blk_grown (g := gb480) (o := .cells #[.slice (some ad487) l0_0.length c0_0] 38 (0, 0)) (bkq BK480) hg (Kd.R_ne HO_5.out BK480.out (by decide))); have n1_ := Aside0.mk (blk_grown (g := gb481) (o := .cells #[.int .i64 a1_0, .int .i64 a1_1, .int .i64 a1_2, .int .i64 a1_3, .int .i64 a1_4] 42 (0, 0)) (bkq BK481) hg (Kd.R_ne HO_5.out BK481.out (by decide))); have n2_ := Aside0.mk (hb); have n3_ := Aside0.mk (ho); clear BK480; clear BK481; clear HB; clear HO_5; have BK480 := n0_; have BK481 := n1_; have HB := n2_; have HO497 := n3_; clear n0_ n1_ n2_ n3_; clear ho hb hg hat))
           go_roundg k2
           case measure => have := HJ2.out; have := HK2.out; omega
           case rel => exact ⟨(y495), (wrap64 (x6_2 + 1)), (by first | rfl | (simp; done) | (simp [*]; done)), H', ⟨by have := HJ2.out; have := HK2.out; omega⟩, ⟨Rq HO497.out⟩, ⟨bkq BK480⟩, ⟨bkq BK481⟩, ⟨bwq HB⟩⟩
          ·rw [if_neg c36] at H
           exact absurd H (by simp)
       ·rw [if_neg c21] at H
        exact absurd H (by simp)
      ·rw [if_neg c20] at H
       have c20b0 : decide (x6_2 < (l0_0.length : Int)) = false := decide_eq_false c20
       clear c20
       obtain rfl := Option.some.inj H
       have hnb42 := NB480_481.out
       have hnc42 := NB481_480.out
       obtain ⟨hcz43, hfz43⟩ := bcf BK480
       go_wp2
       go_ret
       exact ⟨_, by first | rfl | (simp [errW_none, errW_some] <;> rfl) | (simp [*, errW_none, errW_some] <;> rfl), Rq HO_5.out, bwq HB⟩
end Go.Proofs.Ytcgbbhkjkkpfoaa.P
