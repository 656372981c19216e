/- FnExactPlaceOk: for every argument the law returns true, and each argument reads behind the call as it read before; no condition. Part 4 of 6: written together by a program out of the session's texts and what the print wrote. -/
import Derived.Deep.RegionHeld3
import Derived.Test.YtcgbbhkjkkpfoaaCFnExactPlaceOka2
set_option linter.unusedVariables false
set_option linter.unusedSimpArgs false
set_option maxHeartbeats 16000000
set_option maxRecDepth 100000
namespace Go.Proofs.Ytcgbbhkjkkpfoaa.P
open Go.RowKit Go.Proofs.YtcgbbhkjkkpfoaaW.PrintWords Go.Proofs.YtcgbbhkjkkpfoaaW.PrintLast Go.Proofs.YtcgbbhkjkkpfoaaW.PrintMore Lcm Lcm.G
def Made (w : World) (n : Nat) (P : Nat → Prop) (e : Ending) (w' : World) : Prop := ∃ v : Value, e = .returned v ∧ Kd.R Kd.bool 4 w' w.heap.size (fun _ => True) v (bl n P) ∧ Below w.heap.size w w'
theorem Made.lower {w w1 : World} {n : Nat} {P : Nat → Prop} {e : Ending} {w' : World} (h : Made w1 n P e w') (hb : Below w.heap.size w w1) : Made w n P e w' :=
 let ⟨v, e1, hr, hb2⟩ := h; ⟨v, e1, Kd.R_lower hr hb.size, below_step hb hb2⟩
theorem Made.congr {w : World} {n : Nat} {P Q : Nat → Prop} {e : Ending} {w' : World} (h : Made w n P e w') (hq : ∀ i, i < n → (P i ↔ Q i)) : Made w n Q e w' :=
 let ⟨v, e1, hr, hb2⟩ := h; ⟨v, e1, bl_congr hq ▸ hr, hb2⟩
theorem made_row {w' : World} {n : Nat} {P : Nat → Prop} {v : Value} {b : Nat} (h : Kd.R Kd.bool 4 w' b (fun _ => True) v (bl n P)) : ∃ A c, v = .slice A n c ∧ n ≤ c ∧ Kd.C Kd.bool w' A n (bl n P) := by
 obtain ⟨A, c, rfl⟩ := Kd.R_slice h
 have h2 := Kd.R_reads' h
 rw [bl_len] at h2
 exact ⟨A, c, by rw [bl_len], h2.2.1, h2.2.2⟩
section
variable {g : G} {p : List Stp} {w : World} {b : Nat} {A0 A1 A2 A3 A4 : Option Addr} {c0 c1 c2 c3 c4 : Nat}
theorem great (hf : Fit g p) (hs : Std g p w b A0 A1 A2 A3 A4 c0 c1 c2 c3 c4) {F : (Nat → Prop) → Nat → Prop} (hm : Mono F) (gf : FuncId) (cap : Array Value) (ht : TestsG F p.length (.func (.func gf) #[] cap) w) :
  Calls Try.prog 95 #[.pointer (some ⟨b, 0, none⟩), .func (.func gf) #[] cap] w (Made w p.length (g.Gfp F)) :=
 (greatest_calls g F hm p.length hf.reach hf.pos hf.few b _ _ _ _ A1 c1 gf cap w hs.blk hs.reach ht).mono fun _ _ h => h
theorem m_down (hf : Fit g p) (hs : Std g p w b A0 A1 A2 A3 A4 c0 c1 c2 c3 c4) : Calls Try.prog 60 #[.pointer (some ⟨b, 0, none⟩)] w (Made w p.length g.Down) := by
 have HG : Aside0 (∀ h w1, Below w.heap.size w w1 → w1.heap[h]? = some (.cells #[.pointer (some ⟨b, 0, none⟩)] 68 (0, 0)) → Calls Try.prog 95 #[.pointer (some ⟨b, 0, none⟩), .func (.func 96) #[] #[.pointer (some ⟨h, 0, none⟩)]] w1 (Made w1 p.length g.Down)) :=
  ⟨fun h w1 hb hh => great hf (hs.below hb) g.downF_mono _ _ fun w2 hb2 i hi A c l hl hc kn => ⟨_, _, _, rfl, Try.func96, by kernel_rfl, rfl, h_down1 hf ((hs.below hb).below hb2) (blk_below hh hb2) i hi A c l hl (hl ▸ kn)⟩⟩
 have hmf : ∀ (fn : Fn) (first cap : Array Value) (w : World), (Instr.makeFunc fn first cap).run Try.prog w = .ok (.func fn first cap) w := fun _ _ _ _ => rfl
 have HB := Aside0.mk (Fr.new w)
 clear hs hf
 go_enter Try.func60, Try.ntmps60
 go_wp2_with (first | ((with_reducible refine gate_dst (N := 1) rfl ?_); refine fr_box HB (N := 1) rfl rfl (cs := #[.pointer (some ⟨b, 0, none⟩)]) (t := 68) ?hr ?_; (case hr => first | (go_simp; done) | (go_simp; rfl)); intro h w1 gh HB; have yh := HB.out.c0) | ((with_reducible refine gate_callee (f := 95) rfl ?_); refine goesM (some 5) rfl rfl Try.func95 #[.pointer (some ⟨b, 0, none⟩), .func (.func 96) #[] #[.pointer (some ⟨h, 0, none⟩)]] rfl ?_; refine (HG.out h _ HB.out.below (HB.out.blk 0 rfl)).mono ?_; rintro e w2 hm; obtain ⟨v, rfl, hr, hb⟩ := hm.lower HB.out.below; refine ⟨_, rfl, ?_⟩; have HM := Aside0.mk hr; have HB2 := Aside0.mk hb; clear hr hb hm))
 go_ret
 exact ⟨_, rfl, HM.out, HB2.out⟩
theorem m_up (hf : Fit g p) (hs : Std g p w b A0 A1 A2 A3 A4 c0 c1 c2 c3 c4) : Calls Try.prog 61 #[.pointer (some ⟨b, 0, none⟩)] w (Made w p.length g.Up) := by
 have HG : Aside0 (∀ h w1, Below w.heap.size w w1 → w1.heap[h]? = some (.cells #[.pointer (some ⟨b, 0, none⟩)] 68 (0, 0)) → Calls Try.prog 95 #[.pointer (some ⟨b, 0, none⟩), .func (.func 99) #[] #[.pointer (some ⟨h, 0, none⟩)]] w1 (Made w1 p.length g.Up)) :=
  ⟨fun h w1 hb hh => great hf (hs.below hb) g.upF_mono _ _ fun w2 hb2 i hi A c l hl hc kn => ⟨_, _, _, rfl, Try.func99, by kernel_rfl, rfl, h_up1 hf ((hs.below hb).below hb2) (blk_below hh hb2) i hi A c l hl (hl ▸ kn)⟩⟩
 have hmf : ∀ (fn : Fn) (first cap : Array Value) (w : World), (Instr.makeFunc fn first cap).run Try.prog w = .ok (.func fn first cap) w := fun _ _ _ _ => rfl
 have HB := Aside0.mk (Fr.new w)
 clear hs hf
 go_enter Try.func61, Try.ntmps61
 go_wp2_with (first | ((with_reducible refine gate_dst (N := 1) rfl ?_); refine fr_box HB (N := 1) rfl rfl (cs := #[.pointer (some ⟨b, 0, none⟩)]) (t := 68) ?hr ?_; (case hr => first | (go_simp; done) | (go_simp; rfl)); intro h w1 gh HB; have yh := HB.out.c0) | ((with_reducible refine gate_callee (f := 95) rfl ?_); refine goesM (some 5) rfl rfl Try.func95 #[.pointer (some ⟨b, 0, none⟩), .func (.func 99) #[] #[.pointer (some ⟨h, 0, none⟩)]] rfl ?_; refine (HG.out h _ HB.out.below (HB.out.blk 0 rfl)).mono ?_; rintro e w2 hm; obtain ⟨v, rfl, hr, hb⟩ := hm.lower HB.out.below; refine ⟨_, rfl, ?_⟩; have HM := Aside0.mk hr; have HB2 := Aside0.mk hb; clear hr hb hm))
 go_ret
 exact ⟨_, rfl, HM.out, HB2.out⟩
theorem m_held (hf : Fit g p) (hs : Std g p w b A0 A1 A2 A3 A4 c0 c1 c2 c3 c4) {AP Aq : Option Addr} {cP cq : Nat} {lP : List Bool} (hP : lP.length = p.length) (kP : Kd.C Kd.bool w AP p.length lP) : Calls Try.prog 62 #[.pointer (some ⟨b, 0, none⟩), .agg #[.slice AP p.length cP, .slice Aq p.length cq]] w (Made w p.length (g.Held (on lP))) := by
 have HG : Aside0 (∀ h h2 w1, Below w.heap.size w w1 → w1.heap[h]? = some (.cells #[.pointer (some ⟨b, 0, none⟩)] 68 (0, 0)) → w1.heap[h2]? = some (.cells #[.slice AP p.length cP, .slice Aq p.length cq] 44 (0, 0)) → Calls Try.prog 95 #[.pointer (some ⟨b, 0, none⟩), .func (.func 101) #[] #[.pointer (some ⟨h2, 0, none⟩), .pointer (some ⟨h, 0, none⟩)]] w1 (Made w1 p.length (g.Held (on lP)))) :=
  ⟨fun h h2 w1 hb hh hh2 => great hf (hs.below hb) (g.heldF_mono _) _ _ fun w2 hb2 i hi A c l hl hc kn => ⟨_, _, _, rfl, Try.func101, by kernel_rfl, rfl, h_held1 hf ((hs.below hb).below hb2) (blk_below hh2 hb2) (Kd.C_below (Kd.C_below kP hb) hb2) (blk_below hh hb2) i hi A c l hl (hl ▸ kn)⟩⟩
 have hmf : ∀ (fn : Fn) (first cap : Array Value) (w : World), (Instr.makeFunc fn first cap).run Try.prog w = .ok (.func fn first cap) w := fun _ _ _ _ => rfl
 have HB := Aside0.mk (Fr.new w)
 clear hs hf hP kP
 go_enter Try.func62, Try.ntmps62
 go_wp2_with (first | ((with_reducible refine gate_dst (N := 2) rfl ?_); refine fr_box HB (N := 2) rfl rfl (cs := #[.pointer (some ⟨b, 0, none⟩)]) (t := 68) ?hr ?_; (case hr => first | (go_simp; done) | (go_simp; rfl)); intro h w1 gh HB; have yh := HB.out.c0) | ((with_reducible refine gate_dst (N := 3) rfl ?_); refine fr_box HB (N := 3) rfl rfl (cs := #[.slice AP p.length cP, .slice Aq p.length cq]) (t := 44) ?hr ?_; (case hr => first | (go_simp; done) | (go_simp; rfl)); intro h2 w1 gh2 HB; have yh := HB.out.c1; have yh2 := HB.out.c0) | ((with_reducible refine gate_callee (f := 95) rfl ?_); refine goesM (some 7) rfl rfl Try.func95 #[.pointer (some ⟨b, 0, none⟩), .func (.func 101) #[] #[.pointer (some ⟨h2, 0, none⟩), .pointer (some ⟨h, 0, none⟩)]] rfl ?_; refine (HG.out h h2 _ HB.out.below (HB.out.blk 1 rfl) (HB.out.blk 0 rfl)).mono ?_; rintro e w2 hm; obtain ⟨v, rfl, hr, hb⟩ := hm.lower HB.out.below; refine ⟨_, rfl, ?_⟩; have HM := Aside0.mk hr; have HB2 := Aside0.mk hb; clear hr hb hm))
 go_ret
 exact ⟨_, rfl, HM.out, HB2.out⟩
end
theorem blk_setne {w : World} {g : Nat} {o : Obj} {p : Addr} {v : Value} (h : w.heap[g]? = some o) (hne : g ≠ p.block) : (w.setCell p v).heap[g]? = some o := by rw [Below.heap_setCell w p v g hne]; exact h
def Var (w0 : World) (h : Nat) (t : TypeId) (s u : Value) (w : World) : Prop := ∃ g, s = .pointer (some ⟨g, 0, none⟩) ∧ w.heap[g]? = some (.cells #[u] t (0, 0)) ∧ w0.heap.size ≤ g ∧ g ≠ h
def MadeB (w0 : World) (v : Value) (n : Nat) (P : Nat → Prop) (w : World) : Prop := Kd.R Kd.bool 4 w w0.heap.size (fun _ => True) v (bl n P)
section
variable {w0 w w' : World} {h n : Nat} {t : TypeId} {s u v : Value} {P : Nat → Prop}
theorem Var.new (hb : Below w0.heap.size w0 w) {ob : Obj} (hx : w.heap[h]? = some ob) (u : Value) : Var w0 h t (.pointer (some ⟨w.heap.size, 0, none⟩)) u (w.alloc (.cells #[u] t (0, 0))) := ⟨_, rfl, blk_new _ _, hb.size, Nat.ne_of_gt (blk_lt hx)⟩
theorem Var.set (hv : Var w0 h t s u w) {g : Nat} (hne : s ≠ .pointer (some ⟨g, 0, none⟩)) (x : Value) : Var w0 h t s u (w.setCell ⟨g, 0, none⟩ x) :=
 let ⟨g1, e, k, r⟩ := hv; ⟨g1, e, blk_setne k (fun c => hne (by rw [e]; exact congrArg (fun k => Value.pointer (some (⟨k, 0, none⟩ : Addr))) c)), r⟩
theorem MadeB.set (hv : MadeB w0 v n P w) {g : Nat} (hg : w.heap[g]? = some (.cells #[u] 29 (0, 0))) (x : Value) : MadeB w0 v n P (w.setCell ⟨g, 0, none⟩ x) := Kd.R_set hv hg (by decide) 0 x
end
def Way (n : Nat) (P Q : Nat → Prop) (i : Nat) (l : List Bool) : Prop := l.length = n ∧ ∀ j, j < n → (on l j ↔ if j < i then P j else Q j)
theorem Way.start (n : Nat) (P Q : Nat → Prop) : Way n P Q 0 (bl n Q) := ⟨bl_len _ _, fun j hj => by rw [on_bl, if_neg (by omega)]; exact ⟨fun h => h.2, fun h => ⟨hj, h⟩⟩⟩
theorem Way.at_ {n i : Nat} {P Q : Nat → Prop} {l : List Bool} (h : Way n P Q i l) (hi : i < n) : on l i ↔ Q i := by have := h.2 i hi; rwa [if_neg (by omega)] at this
theorem Way.step {n i : Nat} {P Q : Nat → Prop} {l : List Bool} (h : Way n P Q i l) (hi : i < n) {r : Bool} (hr : r = true ↔ P i) : Way n P Q (i + 1) (l.set i r) := ⟨by rw [List.length_set]; exact h.1, fun j hj => by
 rw [on_set (by rw [h.1]; exact hi)]
 by_cases e : j = i
 ·subst e; rw [if_pos rfl, if_pos (by omega)]; exact hr
 ·rw [if_neg e, h.2 j hj]
  by_cases h2 : j < i
  ·rw [if_pos h2, if_pos (by omega)]
  ·rw [if_neg h2, if_neg (by omega)]⟩
theorem Way.done {n : Nat} {P Q : Nat → Prop} {l : List Bool} (h : Way n P Q n l) : l = bl n P := eq_bl h.1 fun i hi => by rw [h.2 i hi, if_pos hi]
def exOkB (e0 e1 e2 e3 e4 : Int) : Bool := inB e0 1 4 && (opOkB e1 e2 && opOkB e3 e4)
theorem implExprOk_eq (e0 e1 e2 e3 e4 : Int) : impl_ExprOk.f e0 e1 e2 e3 e4 = some (exOkB e0 e1 e2 e3 e4) := by
 unfold impl_ExprOk.f exOkB
 rw [impl_isOp_eq, impl_Opnd_ok_eq, impl_Opnd_ok_eq]
 cases inB e0 1 4 <;> cases opOkB e1 e2 <;> simp
def StudyMade (g : G) (p : List Stp) (A0 : Option Addr) (c0 : Nat) (w : World) (e : Ending) (w' : World) : Prop :=
 ∃ b A1 A2 A3 A4 c1 c2 c3 c4 m1 m2 m3, e = .returned (.tuple #[.pointer (some ⟨b, 0, none⟩), .bool true]) ∧ Std g p w' b A0 A1 A2 A3 A4 c0 c1 c2 c3 c4 ∧ w.heap.size ≤ b ∧ Below w.heap.size w w' ∧
  Kd.R Kd.bool 4 w' w.heap.size (Ages0 w.heap.size m1) (.slice A1 p.length c1) (bl p.length g.Reach) ∧ Kd.R Kd.bool 4 w' w.heap.size (Ages0 m2 m3) (.slice A3 p.length c3) (bl p.length g.comp) ∧ m1 ≤ m2 ∧ m3 ≤ b
section
variable {e0 e1 e2 e3 e4 : Int} {w : World} {p : List Stp} {A0 : Option Addr} {c0 : Nat}
theorem own_ages {w1 w2 w' : World} {n : Nat} {P : Nat → Prop} {v : Value} (h : Kd.R Kd.bool 4 w2 w1.heap.size (fun _ => True) v (bl n P)) (hb : Below w2.heap.size w2 w') (hb1 : Below w.heap.size w w1) :
  Kd.R Kd.bool 4 w' w.heap.size (Ages0 w1.heap.size w2.heap.size) v (bl n P) := Kd.R_lower (Kd.R_below (R_ages0 h) hb) hb1.size
theorem prl_len (g : G) (n : Nat) : (prl g n).length = n := by unfold prl; simp
theorem made_rows {w' : World} {n b : Nat} {g : G} {v : Value} (h : Kd.S (Kd.slice 3 (Kd.int .i64)) 32 w' b (fun _ => True) v (prl g n)) : ∃ A c, v = .slice A n c ∧ Kd.C (Kd.slice 3 (Kd.int .i64)) w' A n (prl g n) := by
 obtain ⟨A, c, rfl⟩ := Kd.S_slice h
 have h2 := Kd.S_reads' h
 rw [prl_len] at h2
 exact ⟨A, c, by rw [prl_len], h2.2.2⟩
theorem studyOf_ok (hp : progOkB p = true) (he : exOkB e0 e1 e2 e3 e4 = true) (hr : Kd.C k77 w A0 p.length p) (hc : p.length ≤ c0) :
  Calls Try.prog 50 #[.agg #[.slice A0 p.length c0], exV e0 e1 e2 e3 e4] w (StudyMade (gOf p e0 e1 e2 e3 e4) p A0 c0 w) := by
 have hf := fit_of hp e0 e1 e2 e3 e4
 obtain ⟨K1, q1⟩ := reach_ev hf
 obtain ⟨K2, q2⟩ := preds_ev hf
 have H1 : Aside0 (∀ w1, Below w.heap.size w w1 → Calls Try.prog 82 #[.agg #[.slice A0 p.length c0]] w1 fun e w' => e = .returned (.bool true) ∧ Below w1.heap.size w1 w') := ⟨fun w1 hb => impl_ProgOk.calls A0 c0 p true w1 (Kd.C_below hr hb) hc (by rw [implProgOk_eq, hp])⟩
 have H2 : Aside0 (∀ w1, Calls Try.prog 83 #[exV e0 e1 e2 e3 e4] w1 fun e w' => e = .returned (.bool true) ∧ Below w1.heap.size w1 w') := ⟨fun w1 => impl_ExprOk.calls _ _ _ _ _ true w1 (by rw [implExprOk_eq, he])⟩
 have H3 : Aside0 (∀ w1, Below w.heap.size w w1 → Calls Try.prog 84 #[.agg #[.slice A0 p.length c0]] w1 fun e w' => ∃ v : Value, e = .returned v ∧ Kd.R Kd.bool 4 w' w1.heap.size (fun _ => True) v (bl p.length (gOf p e0 e1 e2 e3 e4).Reach) ∧ Below w1.heap.size w1 w') :=
  ⟨fun w1 hb => impl_Prog_reach.calls K1 A0 c0 p _ w1 (Kd.C_below hr hb) hc (q1 K1 (Nat.le_refl _))⟩
 have H4 : Aside0 (∀ w1, Below w.heap.size w w1 → Calls Try.prog 85 #[.agg #[.slice A0 p.length c0]] w1 fun e w' => ∃ v : Value, e = .returned v ∧ Kd.S (Kd.slice 3 (Kd.int .i64)) 32 w' w1.heap.size (fun _ => True) v (prl (gOf p e0 e1 e2 e3 e4) p.length) ∧ Below w1.heap.size w1 w') :=
  ⟨fun w1 hb => impl_Prog_preds.calls K2 A0 c0 p _ w1 (Kd.C_below hr hb) hc (q2 K2 (Nat.le_refl _))⟩
 have H5 : Aside0 (∀ w1, Below w.heap.size w w1 → Calls Try.prog 86 #[.agg #[.slice A0 p.length c0], exV e0 e1 e2 e3 e4] w1 fun e w' => ∃ v : Value, e = .returned v ∧ Kd.R Kd.bool 4 w' w1.heap.size (fun _ => True) v (bl p.length (gOf p e0 e1 e2 e3 e4).comp) ∧ Below w1.heap.size w1 w') :=
  ⟨fun w1 hb => by have h := comp_calls (w := w1) (e0 := e0) (e1 := e1) (e2 := e2) (e3 := e3) (e4 := e4) A0 c0 p (Kd.C_below hr hb) hf.few; rwa [map_comp] at h⟩
 have H6 : Aside0 (∀ w1, Below w.heap.size w w1 → Calls Try.prog 87 #[.agg #[.slice A0 p.length c0], exV e0 e1 e2 e3 e4] w1 fun e w' => ∃ v : Value, e = .returned v ∧ Kd.R Kd.bool 4 w' w1.heap.size (fun _ => True) v (bl p.length (gOf p e0 e1 e2 e3 e4).keeps) ∧ Below w1.heap.size w1 w') :=
  ⟨fun w1 hb => by have h := keeps_calls (w := w1) (e0 := e0) (e1 := e1) (e2 := e2) (e3 := e3) (e4 := e4) A0 c0 p (Kd.C_below hr hb) hf.few; rwa [map_keeps p e0 e1 e2 e3 e4] at h⟩
 have HR := Aside0.mk hr
 have HG : Aside0 True := ⟨trivial⟩
 generalize gOf p e0 e1 e2 e3 e4 = g at *
 have hu := Try.underlying38
 have hu2 := Try.underlying42
 have hu3 := Try.underlying40
 have hu4 := Try.underlying74
 have HB := Aside0.mk (Fr.new w)
 clear hr hc hp he hf q1 q2
 go_enter Try.func50, Try.ntmps50
 go_upto_region 3 with (first | ((with_reducible refine gate_dst (N := 2) rfl ?_); refine fr_box HB (N := 2) rfl rfl (cs := #[.slice A0 p.length c0]) (t := 38) ?hr ?_; (case hr => first | (go_simp; done) | (go_simp; rfl)); intro gb w1 _ HB; have y0 := HB.out.c0) | ((with_reducible refine gate_dst (N := 3) rfl ?_); refine fr_box HB (N := 3) rfl rfl (cs := #[.int .i64 e0, .int .i64 e1, .int .i64 e2, .int .i64 e3, .int .i64 e4]) (t := 42) ?hr ?_; (case hr => first | (go_simp; done) | (go_simp; rfl)); intro h w1 _ HB; have y0 := HB.out.c1; have y1 := HB.out.c0) | ((with_reducible refine gate_callee (f := 82) rfl ?_); refine goesM (some 7) rfl rfl Try.func82 #[.agg #[.slice A0 p.length c0]] rfl ?_; refine (H1.out _ HB.out.below).mono ?_; rintro e w2 ⟨rfl, hb⟩; refine ⟨_, rfl, ?_⟩; have HB := Aside0.mk (HB.out.step hb); have y0 := HB.out.c1; have y1 := HB.out.c0; clear hb) | ((with_reducible refine gate_callee (f := 83) rfl ?_); (try (refine gate_guard (by rfl) ?_; dsimp only)); refine goesM (some 11) rfl rfl Try.func83 #[exV e0 e1 e2 e3 e4] rfl ?_; refine (H2.out _).mono ?_; rintro e w2 ⟨rfl, hb⟩; refine ⟨_, rfl, ?_⟩; have HB := Aside0.mk (HB.out.step hb); have y0 := HB.out.c1; have y1 := HB.out.c0; clear hb))
 go_region_held3 (fun w' => w'.cell? ⟨gb, 0, none⟩ = some (.slice A0 p.length c0) ∧ w'.cell? ⟨h, 0, none⟩ = some (.int .i64 e0) ∧ w'.cell? ⟨h, 1, none⟩ = some (.int .i64 e1) ∧ w'.cell? ⟨h, 2, none⟩ = some (.int .i64 e2) ∧ w'.cell? ⟨h, 3, none⟩ = some (.int .i64 e3) ∧ w'.cell? ⟨h, 4, none⟩ = some (.int .i64 e4)) (first | exact ⟨(y0 0).trans rfl, (y1 0).trans rfl, (y1 1).trans rfl, (y1 2).trans rfl, (y1 3).trans rfl, (y1 4).trans rfl⟩ | exact ⟨((HB.out.alloc _).c1 0).trans rfl, ((HB.out.alloc _).c0 0).trans rfl, ((HB.out.alloc _).c0 1).trans rfl, ((HB.out.alloc _).c0 2).trans rfl, ((HB.out.alloc _).c0 3).trans rfl, ((HB.out.alloc _).c0 4).trans rfl⟩) (first | (go_at_call 84; have HX0 := Aside0.mk HB.out.drew1.below; refine (H3.out _ HB.out.drew1.below).mono ?_; rintro e wA ⟨v1, rfl, hr_, hb⟩; obtain ⟨A1, c1, rfl, _, k_⟩ := made_row hr_; have HKA := Aside0.mk k_; have HRA := Aside0.mk hr_; clear k_; have HYA := Aside0.mk hb; have HXA := Aside0.mk (below_step HB.out.drew1.below hb); have HB := Aside0.mk (HB.out.drew1.step hb); have y0 := HB.out.c1; have y1 := HB.out.c0; clear hr_ hb) | (go_at_call 85; refine (H4.out _ HXA.out).mono ?_; rintro e wB ⟨v2, rfl, hr_, hb⟩; obtain ⟨A2, c2, rfl, k_⟩ := made_rows hr_; have HKB := Aside0.mk k_; have HRB := Aside0.mk hr_; clear k_; have HYB := Aside0.mk hb; have HXB := Aside0.mk (below_step HXA.out hb); have HB := Aside0.mk (HB.out.step hb); have y0 := HB.out.c1; have y1 := HB.out.c0; clear hr_ hb) | (go_at_call 86; refine (H5.out _ HXB.out).mono ?_; rintro e wC ⟨v3, rfl, hr_, hb⟩; obtain ⟨A3, c3, rfl, _, k_⟩ := made_row hr_; have HKC := Aside0.mk k_; have HRC := Aside0.mk hr_; clear k_; have HYC := Aside0.mk hb; have HXC := Aside0.mk (below_step HXB.out hb); have HB := Aside0.mk (HB.out.step hb); have y0 := HB.out.c1; have y1 := HB.out.c0; clear hr_ hb) | (go_at_call 87; refine (H6.out _ HXC.out).mono ?_; rintro e wD ⟨v4, rfl, hr_, hb⟩; obtain ⟨A4, c4, rfl, _, k_⟩ := made_row hr_; have HKD := Aside0.mk k_; have HRD := Aside0.mk hr_; clear k_; have HYD := Aside0.mk hb; have HXD := Aside0.mk (below_step HXC.out hb); have HB := Aside0.mk (HB.out.step hb); have y0 := HB.out.c1; have y1 := HB.out.c0; clear hr_ hb))
 go_wp2
 go_ret2
 have hZ := below_alloc (Below.refl wD.heap.size wD) (.cells #[.slice A0 p.length c0, .slice A1 p.length c1, .slice A2 p.length c2, .slice A3 p.length c3, .slice A4 p.length c4] 74 (0, 0))
 have hC := below_step HYD.out hZ
 have hB := below_step HYC.out hC
 have hA := below_step HYB.out hB
 exact ⟨wD.heap.size, A1, A2, A3, A4, c1, c2, c3, c4, wA.heap.size, wB.heap.size, wC.heap.size, rfl, ⟨blk_new _ _, Kd.C_below HR.out (below_step HXD.out hZ), Kd.C_below HKA.out hA, Kd.C_below HKB.out hB, Kd.C_below HKC.out hC, Kd.C_below HKD.out hZ⟩, HXD.out.size, below_step HXD.out hZ,
  Kd.R_mono (Kd.R_lower (Kd.R_below (R_ages0 HRA.out) hA) HX0.out.size) (fun k hk => ⟨Nat.le_trans HX0.out.size hk.1, hk.2⟩), own_ages HRC.out hC HXB.out, HYB.out.size, HYD.out.size⟩
theorem studyOf_no (hn : (progOkB p && exOkB e0 e1 e2 e3 e4) = false) (hr : Kd.C k77 w A0 p.length p) (hc : p.length ≤ c0) :
  Calls Try.prog 50 #[.agg #[.slice A0 p.length c0], exV e0 e1 e2 e3 e4] w fun e w' => e = .returned (.tuple #[.pointer none, .bool false]) ∧ Below w.heap.size w w' := by
 have H1 : Aside0 (∀ w1, Below w.heap.size w w1 → Calls Try.prog 82 #[.agg #[.slice A0 p.length c0]] w1 fun e w' => e = .returned (.bool (progOkB p)) ∧ Below w1.heap.size w1 w') := ⟨fun w1 hb => impl_ProgOk.calls A0 c0 p _ w1 (Kd.C_below hr hb) hc (implProgOk_eq p)⟩
 have H2 : Aside0 (∀ w1, Calls Try.prog 83 #[exV e0 e1 e2 e3 e4] w1 fun e w' => e = .returned (.bool (exOkB e0 e1 e2 e3 e4)) ∧ Below w1.heap.size w1 w') := ⟨fun w1 => impl_ExprOk.calls _ _ _ _ _ _ w1 (implExprOk_eq _ _ _ _ _)⟩
 generalize progOkB p = b1 at *
 generalize exOkB e0 e1 e2 e3 e4 = b2 at *
 have hu := Try.underlying38
 have hu2 := Try.underlying42
 have hu3 := Try.underlying40
 have HB := Aside0.mk (Fr.new w)
 clear hr hc
 cases b1 <;> cases b2 <;> first | (exact absurd hn (by decide)) | (
  clear hn
  go_enter Try.func50, Try.ntmps50
  go_wp2_with (first | ((with_reducible refine gate_dst (N := 2) rfl ?_); refine fr_box HB (N := 2) rfl rfl (cs := #[.slice A0 p.length c0]) (t := 38) ?hr ?_; (case hr => first | (go_simp; done) | (go_simp; rfl)); intro gb w1 _ HB; have y0 := HB.out.c0) | ((with_reducible refine gate_dst (N := 3) rfl ?_); refine fr_box HB (N := 3) rfl rfl (cs := #[.int .i64 e0, .int .i64 e1, .int .i64 e2, .int .i64 e3, .int .i64 e4]) (t := 42) ?hr ?_; (case hr => first | (go_simp; done) | (go_simp; rfl)); intro h w1 _ HB; have y0 := HB.out.c1; have y1 := HB.out.c0) | ((with_reducible refine gate_callee (f := 82) rfl ?_); refine goesM (some 7) rfl rfl Try.func82 #[.agg #[.slice A0 p.length c0]] rfl ?_; refine (H1.out _ HB.out.below).mono ?_; rintro e w2 ⟨rfl, hb⟩; refine ⟨_, rfl, ?_⟩; have HB := Aside0.mk (HB.out.step hb); have y0 := HB.out.c1; have y1 := HB.out.c0; clear hb) | ((with_reducible refine gate_callee (f := 83) rfl ?_); (try (refine gate_guard (by rfl) ?_; dsimp only)); refine goesM (some 11) rfl rfl Try.func83 #[exV e0 e1 e2 e3 e4] rfl ?_; refine (H2.out _).mono ?_; rintro e w2 ⟨rfl, hb⟩; refine ⟨_, rfl, ?_⟩; have HB := Aside0.mk (HB.out.step hb); have y0 := HB.out.c1; have y1 := HB.out.c0; clear hb))
  go_ret2
  exact ⟨rfl, HB.out.below⟩)
end
noncomputable def safeL (P : G → Nat → Prop) (p : List Stp) (e0 e1 e2 e3 e4 : Int) : List Bool := if (progOkB p && exOkB e0 e1 e2 e3 e4) = true then bl p.length (P (gOf p e0 e1 e2 e3 e4)) else []
theorem ok_l {a b : Bool} (h : (a && b) = true) : a = true := by cases a <;> simp_all
theorem ok_r {a b : Bool} (h : (a && b) = true) : b = true := by cases a <;> simp_all
end Go.Proofs.Ytcgbbhkjkkpfoaa.P
namespace Go.Proofs.Ytcgbbhkjkkpfoaa.P
open Go.RowKit Go.Proofs.YtcgbbhkjkkpfoaaW.PrintWords Go.Proofs.YtcgbbhkjkkpfoaaW.PrintLast Go.Proofs.YtcgbbhkjkkpfoaaW.PrintMore
attribute [local go_sem] max2_int min2_int max_two min_two max_three min_three max_four min_four
def impl_PlaceNone.B3 : List Nat := [0, 1, 3, 7, 0, 16, 48, 112, 255, 511]
def spec_ExprOk.f (a0_0 : Int) (a0_1 : Int) (a0_2 : Int) (a0_3 : Int) (a0_4 : Int) : Option (Bool) := (spec_l6In.f a0_0 1 4).bind fun t129 => (if t129 = true then ((spec_l1Opnd.f a0_1 a0_2).bind fun t130 => (if t130 = true then ((spec_l1Opnd.f a0_3 a0_4).bind fun t131 => (some t131)) else (some false))) else (some false))
theorem spec_ExprOk.calls (a0_0 : Int) (a0_1 : Int) (a0_2 : Int) (a0_3 : Int) (a0_4 : Int) (r : Bool) (w : World) (h : spec_ExprOk.f a0_0 a0_1 a0_2 a0_3 a0_4 = some r) :
  Calls Try.prog 79 #[.agg #[.int .i64 a0_0, .int .i64 a0_1, .int .i64 a0_2, .int .i64 a0_3, .int .i64 a0_4]] w fun e w' => e = .returned (.bool r) ∧ Below w.heap.size w w' := by
 have hu42 := Try.underlying42
 have hu40 := Try.underlying40
 have HB := Aside0.mk (Below.refl w.heap.size w)
 have H : ((spec_l6In.f a0_0 1 4).bind fun t129 => (if t129 = true then ((spec_l1Opnd.f a0_1 a0_2).bind fun t130 => (if t130 = true then ((spec_l1Opnd.f a0_3 a0_4).bind fun t131 => (some t131)) else (some false))) else (some false))) = some r := h
 clear h
 replace H := Option.bind_eq_some_iff.mp H
 obtain ⟨t129, A20, H⟩ := H
 have A2 := Aside0.mk A20
 clear A20
 by_cases c3 : t129 = true
 ·subst c3
  rw [if_pos rfl] at H
  replace H := Option.bind_eq_some_iff.mp H
  obtain ⟨t130, A40, H⟩ := H
  have A4 := Aside0.mk A40
  clear A40
  by_cases c5 : t130 = true
  ·subst c5
   rw [if_pos rfl] at H
   replace H := Option.bind_eq_some_iff.mp H
   obtain ⟨t131, A60, H⟩ := H
   have A6 := Aside0.mk A60
   clear A60
   obtain rfl := Option.some.inj H
   go_enter Try.func79, Try.ntmps79
   go_wp2_with (first | ((with_reducible refine gate_dst (N := 1) rfl ?_); refine bxe (cs := #[.int .i64 a0_0, .int .i64 a0_1, .int .i64 a0_2, .int .i64 a0_3, .int .i64 a0_4]) (t := 42) ?_; intro gb128 hg w7 hbox hb; have BK128 := Aside0.mk (hbox); have GW128 := bwz HB hg; have GE128 := bwz HB hg; replace HB := bwb HB hb; clear hb hbox hg; obtain ⟨hcz8, hfz8⟩ := bcf BK128) | ((with_reducible refine gate_callee (f := 77) rfl ?_); refine goesM (some 5) rfl rfl Try.func77 #[.int .i64 a0_0, .int .i64 1, .int .i64 4] rfl ?_; (with_reducible refine (spec_l6In.calls a0_0 1 4 true _ A2.out).mono ?_); rintro e w' ⟨rfl, ⟨nd, rfl⟩⟩; refine ⟨_, rfl, ?_⟩) | (go_at_call 111; (with_reducible refine (spec_l1Opnd.calls a0_1 a0_2 true _ A4.out).mono ?_); rintro e w9 ⟨rfl, hb⟩; replace BK128 := bkb BK128 hb; replace HB := bwb HB hb; (try clear hb); (try clear hb2); (try clear hk); (try clear hi); obtain ⟨hcz10, hfz10⟩ := bcf BK128) | (go_at_call 111; (with_reducible refine (spec_l1Opnd.calls a0_3 a0_4 t131 _ A6.out).mono ?_); rintro e w11 ⟨rfl, hb⟩; replace BK128 := bkb BK128 hb; replace HB := bwb HB hb; (try clear hb); (try clear hb2); (try clear hk); (try clear hi)))
   go_ret
   exact ⟨by first | rfl | (simp [errW_none, errW_some] <;> rfl) | (simp [*, errW_none, errW_some] <;> rfl), bwq HB⟩
  ·replace c5 := Bool.eq_false_iff.mpr c5
   subst c5
   have H1 : (some false) = some r := by rw [if_neg (show ¬ (false = true) by decide)] at H; exact H
   clear H
   have H := H1
   clear H1
   obtain rfl := Option.some.inj H
   go_enter Try.func79, Try.ntmps79
   go_wp2_with (first | ((with_reducible refine gate_dst (N := 1) rfl ?_); refine bxe (cs := #[.int .i64 a0_0, .int .i64 a0_1, .int .i64 a0_2, .int .i64 a0_3, .int .i64 a0_4]) (t := 42) ?_; intro gb128 hg w12 hbox hb; have BK128 := Aside0.mk (hbox); have GW128 := bwz HB hg; have GE128 := bwz HB hg; replace HB := bwb HB hb; clear hb hbox hg; obtain ⟨hcz13, hfz13⟩ := bcf BK128) | ((with_reducible refine gate_callee (f := 77) rfl ?_); refine goesM (some 5) rfl rfl Try.func77 #[.int .i64 a0_0, .int .i64 1, .int .i64 4] rfl ?_; (with_reducible refine (spec_l6In.calls a0_0 1 4 true _ A2.out).mono ?_); rintro e w' ⟨rfl, ⟨nd, rfl⟩⟩; refine ⟨_, rfl, ?_⟩) | (go_at_call 111; (with_reducible refine (spec_l1Opnd.calls a0_1 a0_2 false _ A4.out).mono ?_); rintro e w14 ⟨rfl, hb⟩; replace BK128 := bkb BK128 hb; replace HB := bwb HB hb; (try clear hb); (try clear hb2); (try clear hk); (try clear hi)))
   go_ret
   exact ⟨by first | rfl | (simp [errW_none, errW_some] <;> rfl) | (simp [*, errW_none, errW_some] <;> rfl), bwq HB⟩
 ·replace c3 := Bool.eq_false_iff.mpr c3
  subst c3
  have H1 : (some false) = some r := by rw [if_neg (show ¬ (false = true) by decide)] at H; exact H
  clear H
  have H := H1
  clear H1
  obtain rfl := Option.some.inj H
  go_enter Try.func79, Try.ntmps79
  go_wp2_with (first | ((with_reducible refine gate_dst (N := 1) rfl ?_); refine bxe (cs := #[.int .i64 a0_0, .int .i64 a0_1, .int .i64 a0_2, .int .i64 a0_3, .int .i64 a0_4]) (t := 42) ?_; intro gb128 hg w15 hbox hb; have BK128 := Aside0.mk (hbox); have GW128 := bwz HB hg; have GE128 := bwz HB hg; replace HB := bwb HB hb; clear hb hbox hg; obtain ⟨hcz16, hfz16⟩ := bcf BK128) | ((with_reducible refine gate_callee (f := 77) rfl ?_); refine goesM (some 5) rfl rfl Try.func77 #[.int .i64 a0_0, .int .i64 1, .int .i64 4] rfl ?_; (with_reducible refine (spec_l6In.calls a0_0 1 4 false _ A2.out).mono ?_); rintro e w' ⟨rfl, ⟨nd, rfl⟩⟩; refine ⟨_, rfl, ?_⟩))
  go_ret
  exact ⟨by first | rfl | (simp [errW_none, errW_some] <;> rfl) | (simp [*, errW_none, errW_some] <;> rfl), bwq HB⟩
def spec_l11Of.f (a0_0 : Int) (a0_1 : Int) (a0_2 : Int) (a0_3 : Int) (a0_4 : Int) (a0_5 : Int) (a0_6 : Int) (l0_7 : List Int) : Option (Int × Int × Int × Int × Int) := some (a0_2, a0_3, a0_4, a0_5, a0_6)
theorem spec_l11Of.calls (a0_0 : Int) (a0_1 : Int) (a0_2 : Int) (a0_3 : Int) (a0_4 : Int) (a0_5 : Int) (a0_6 : Int) (A0_7 : Option Addr) (c0_7 : Nat) (l0_7 : List Int) (r1 : Int) (r2 : Int) (r3 : Int) (r4 : Int) (r5 : Int) (w : World) (hr0_7 : Kd.C (Kd.int .i64) w A0_7 l0_7.length l0_7) (hc0_7 : l0_7.length ≤ c0_7) (h : spec_l11Of.f a0_0 a0_1 a0_2 a0_3 a0_4 a0_5 a0_6 l0_7 = some (r1, r2, r3, r4, r5)) :
  Calls Try.prog 80 #[.agg #[.int .i64 a0_0, .int .i64 a0_1, .int .i64 a0_2, .int .i64 a0_3, .int .i64 a0_4, .int .i64 a0_5, .int .i64 a0_6, .slice A0_7 l0_7.length c0_7]] w fun e w' => e = .returned (.agg #[.int .i64 r1, .int .i64 r2, .int .i64 r3, .int .i64 r4, .int .i64 r5]) ∧ Below w.heap.size w w' := by
 have hu77 := Try.underlying77
 have hu42 := Try.underlying42
 have hu40 := Try.underlying40
 have HR0_7 := Aside0.mk hr0_7
 have HC0_7 := Aside0.mk hc0_7
 clear hr0_7 hc0_7
 have HB := Aside0.mk (Below.refl w.heap.size w)
 have H : (some (a0_2, a0_3, a0_4, a0_5, a0_6)) = some (r1, r2, r3, r4, r5) := h
 clear h
 simp only [Option.some.injEq, Prod.mk.injEq] at H
 obtain ⟨rfl, rfl, rfl, rfl, rfl⟩ := H
 go_enter Try.func80, Try.ntmps80
 go_wp2_with (first | ((with_reducible refine gate_dst (N := 1) rfl ?_); refine bxe (cs := #[.int .i64 a0_0, .int .i64 a0_1, .int .i64 a0_2, .int .i64 a0_3, .int .i64 a0_4, .int .i64 a0_5, .int .i64 a0_6, .slice A0_7 l0_7.length c0_7]) (t := 77) ?_; intro gb153 hg w2 hbox hb; have BK153 := Aside0.mk (hbox); have GW153 := bwz HB hg; have GE153 := bwz HB hg; replace HB := bwb HB hb; clear hb hbox hg) | ((with_reducible refine gate_dst (N := 2) rfl ?_); refine bxe (cs := #[.int .i64 0, .int .i64 0, .int .i64 0, .int .i64 0, .int .i64 0]) (t := 42) ?_; intro gb154 hg w3 hbox hb; have BK154 := Aside0.mk (hbox); have GW154 := bwz HB hg; have GE154 := bwz HB hg; replace HB := bwb HB hb; have NB153_154 := bkl BK153 hg; have NB154_153 := bkg BK153 hg; replace BK153 := bkb BK153 hb; clear hb hbox hg; have hnb4 := NB153_154.out; have hnc4 := NB154_153.out; obtain ⟨hcz5, hfz5⟩ := bcf BK153; obtain ⟨hcz6, hfz6⟩ := bcf BK154))
 refine bodyPost_ret (results_cell_row rfl _ _ gb154 42 #[.int .i64 a0_2, .int .i64 a0_3, .int .i64 a0_4, .int .i64 a0_5, .int .i64 a0_6] (0, 0) _ rfl (by (with_reducible repeat (first | refine blk_drewN ?_ _ | refine blk_drew ?_ | refine blk_alloc ?_ _)); refine blk_put (cs := #[.int .i64 a0_2, .int .i64 a0_3, .int .i64 a0_4, .int .i64 a0_5, .int .i64 0]) ?_ 4 _ rfl; (with_reducible repeat (first | refine blk_drewN ?_ _ | refine blk_drew ?_ | refine blk_alloc ?_ _)); refine blk_put (cs := #[.int .i64 a0_2, .int .i64 a0_3, .int .i64 a0_4, .int .i64 0, .int .i64 0]) ?_ 3 _ rfl; (with_reducible repeat (first | refine blk_drewN ?_ _ | refine blk_drew ?_ | refine blk_alloc ?_ _)); refine blk_put (cs := #[.int .i64 a0_2, .int .i64 a0_3, .int .i64 0, .int .i64 0, .int .i64 0]) ?_ 2 _ rfl; (with_reducible repeat (first | refine blk_drewN ?_ _ | refine blk_drew ?_ | refine blk_alloc ?_ _)); refine blk_put (cs := #[.int .i64 a0_2, .int .i64 0, .int .i64 0, .int .i64 0, .int .i64 0]) ?_ 1 _ rfl; (with_reducible repeat (first | refine blk_drewN ?_ _ | refine blk_drew ?_ | refine blk_alloc ?_ _)); refine blk_put (cs := #[.int .i64 0, .int .i64 0, .int .i64 0, .int .i64 0, .int .i64 0]) ?_ 0 _ rfl; exact bkq BK154) Try.underlying42 rfl (by kernel_rfl)) rfl ?_
 exact ⟨by first | rfl | (simp [errW_none, errW_some] <;> rfl) | (simp [*, errW_none, errW_some] <;> rfl), bwq HB⟩
end Go.Proofs.Ytcgbbhkjkkpfoaa.P
namespace Go.Proofs.Ytcgbbhkjkkpfoaa.P
open Go.RowKit Go.Proofs.YtcgbbhkjkkpfoaaW.PrintWords Go.Proofs.YtcgbbhkjkkpfoaaW.PrintLast Go.Proofs.YtcgbbhkjkkpfoaaW.PrintMore
attribute [local go_sem] max2_int min2_int max_two min_two max_three min_three max_four min_four
attribute [local go_sem high] eqA42
mutual
def spec_ExprComp.j0 : Nat → List Bool → Bool → List (S77) → Int → Int → Int → Int → Int → Option (List Bool)
 | 0, _, _, _, _, _, _, _, _ => none
 | k + 1, x5, x15, x156000, x157000, x157001, x157002, x157003, x157004 => if x15 = true then (some x5) else (spec_ExprComp.l0 k x5 0 x156000 x157000 x157001 x157002 x157003 x157004)
def spec_ExprComp.l0 : Nat → List Bool → Int → List (S77) → Int → Int → Int → Int → Int → Option (List Bool)
 | 0, _, _, _, _, _, _, _, _ => none
 | k + 1, x5, x6, x156000, x157000, x157001, x157002, x157003, x157004 => if x6 < (x156000.length : Int) then (if 0 ≤ x6 then (if ((rd_T77 x156000 x6).f0) = 1 then ((spec_l11Of.f ((rd_T77 x156000 x6).f0) ((rd_T77 x156000 x6).f1) ((rd_T77 x156000 x6).f2) ((rd_T77 x156000 x6).f3.f0) ((rd_T77 x156000 x6).f3.f1) ((rd_T77 x156000 x6).f4.f0) ((rd_T77 x156000 x6).f4.f1) ((rd_T77 x156000 x6).f5)).bind fun bt164 => (if x5.length < 140737488355328 then (spec_ExprComp.l0 k (x5 ++ [(bt164.1 == x157000 && ((bt164.2.1 == x157001 && (bt164.2.2.1 == x157002)) && ((bt164.2.2.2.1 == x157003 && (bt164.2.2.2.2 == x157004)))))]) (wrap64 (x6 + 1)) x156000 x157000 x157001 x157002 x157003 x157004) else (none))) else (if x5.length < 140737488355328 then (spec_ExprComp.l0 k (x5 ++ [false]) (wrap64 (x6 + 1)) x156000 x157000 x157001 x157002 x157003 x157004) else (none))) else (none)) else (some x5)
end
def spec_ExprComp.f (k : Nat) (l0_0 : List (S77)) (a1_0 : Int) (a1_1 : Int) (a1_2 : Int) (a1_3 : Int) (a1_4 : Int) : Option (List Bool) := (some (([] : List Bool) : List Bool)).bind fun y157 => ((spec_ProgOk.f k l0_0).bind fun t160 => (if t160 = true then ((spec_ExprOk.f a1_0 a1_1 a1_2 a1_3 a1_4).bind fun t161 => (spec_ExprComp.j0 k y157 (!t161) l0_0 a1_0 a1_1 a1_2 a1_3 a1_4)) else (spec_ExprComp.j0 k y157 true l0_0 a1_0 a1_1 a1_2 a1_3 a1_4)))
def spec_ExprComp.T7 : Bool × List (List Nat × List Nat) := (true, [([], []), ([], []), ([1], [1]), ([], []), ([2, 3], [2, 3]), ([4], [4]), ([5], [5]), ([6], [6]), ([7], [7]), ([8], [8]), ([9, 8], [8, 9]), ([8], [8]), ([10, 11, 8], [8, 10, 11]), ([12, 8], [8, 12]), ([13, 8, 8], [8, 13]), ([8], [8]), ([14, 15, 8], [8, 14, 15]), ([8, 16], [8, 16]), ([17], [17]), ([0, 18, 14], [0, 18]), ([19, 19, 0, 1, 2, 3, 4, 5, 6, 7, 8, 9, 10, 11, 12, 13, 14, 15, 16, 17, 18, 19], [0, 19])])
def spec_ExprComp.B7 : List Nat := [0, 0, 2, 0, 14, 30, 62, 126, 254, 510, 1022, 510, 4094, 8190, 16382, 510, 65534, 131070, 262142, 524287, 1048575]
theorem spec_ExprComp.tab7 : rtab .any (opsOf Try.f46 7) = spec_ExprComp.T7 := by kernel_rfl
theorem spec_ExprComp.bits7 : waitsOk spec_ExprComp.T7.2 spec_ExprComp.B7 = true := by kernel_rfl
theorem spec_ExprComp.calls (k : Nat) (A0_0 : Option Addr) (c0_0 : Nat) (l0_0 : List (S77)) (a1_0 : Int) (a1_1 : Int) (a1_2 : Int) (a1_3 : Int) (a1_4 : Int) (r : List Bool) (w : World) (hr0_0 : Kd.C k77 w A0_0 l0_0.length l0_0) (hc0_0 : l0_0.length ≤ c0_0) (h : spec_ExprComp.f k l0_0 a1_0 a1_1 a1_2 a1_3 a1_4 = some r) :
  Calls Try.prog 46 #[.agg #[.slice A0_0 l0_0.length c0_0], .agg #[.int .i64 a1_0, .int .i64 a1_1, .int .i64 a1_2, .int .i64 a1_3, .int .i64 a1_4]] w fun e w' => ∃ v0_ : Value, e = .returned (v0_) ∧ Kd.R Kd.bool 4 w' w.heap.size (fun _ => True) v0_ r ∧ Below w.heap.size w w' := by
 have hu38 := Try.underlying38
 have hu42 := Try.underlying42
 have hu77 := Try.underlying77
 have HR0_0 := Aside0.mk hr0_0
 have HC0_0 := Aside0.mk hc0_0
 clear hr0_0 hc0_0
 have HB := Aside0.mk (Below.refl w.heap.size w)
 have H : ((some (([] : List Bool) : List Bool)).bind fun y157 => ((spec_ProgOk.f k l0_0).bind fun t160 => (if t160 = true then ((spec_ExprOk.f a1_0 a1_1 a1_2 a1_3 a1_4).bind fun t161 => (spec_ExprComp.j0 k y157 (!t161) l0_0 a1_0 a1_1 a1_2 a1_3 a1_4)) else (spec_ExprComp.j0 k y157 true l0_0 a1_0 a1_1 a1_2 a1_3 a1_4)))) = some r := h
 clear h
 obtain ⟨y157, hy157⟩ : ∃ y_ : List Bool, y_ = (([] : List Bool)) := ⟨_, rfl⟩
 replace H : ((spec_ProgOk.f k l0_0).bind fun t160 => (if t160 = true then ((spec_ExprOk.f a1_0 a1_1 a1_2 a1_3 a1_4).bind fun t161 => (spec_ExprComp.j0 k y157 (!t161) l0_0 a1_0 a1_1 a1_2 a1_3 a1_4)) else (spec_ExprComp.j0 k y157 true l0_0 a1_0 a1_1 a1_2 a1_3 a1_4))) = some r := by first | (rw [hy157]; with_reducible exact H) | (have H2_ := (Option.bind_some _ _).symm.trans H; rw [hy157]; with_reducible exact H2_) | (have H2_ := (Option.bind_some _ _).symm.trans H; with_reducible exact H2_) | with_reducible exact H | (rw [hy157]; exact H) | exact H
 have Ny157 := Aside0.mk hy157
 clear hy157
 have HC3 := Aside0.mk H
 clear H
 go_enter Try.func46, Try.ntmps46
 go_upto_region 2 with (first | ((with_reducible refine gate_dst (N := 2) rfl ?_); refine bxe (cs := #[.slice A0_0 l0_0.length c0_0]) (t := 38) ?_; intro gb155 hg w4 hbox hb; have BK155 := Aside0.mk (hbox); have GW155 := bwz HB hg; have GE155 := bwz HB hg; replace HB := bwb HB hb; clear hb hbox hg) | ((with_reducible refine gate_dst (N := 3) rfl ?_); refine bxe (cs := #[.int .i64 a1_0, .int .i64 a1_1, .int .i64 a1_2, .int .i64 a1_3, .int .i64 a1_4]) (t := 42) ?_; intro gb156 hg w5 hbox hb; have BK156 := Aside0.mk (hbox); have GW156 := bwz HB hg; have GE156 := bwz HB hg; replace HB := bwb HB hb; have NB155_156 := bkl BK155 hg; have NB156_155 := bkg BK155 hg; replace BK155 := bkb BK155 hb; clear hb hbox hg) | ((with_reducible refine gate_dst (N := 7) rfl ?_); refine Kd.R_lit Kd.bool _ 4 ?hg (N := 7) ?hd (xs := ([] : List Bool)) (inner := []) (ok := fun _ => True) (okp := fun _ => True) ?hr ?hp (fun _ hk => hk) trivial (Below.refl _ _) (Nat.le_refl _) (by simp) ?_; (case hd => rfl); (case hg => rfl); (case hr => first | (go_simp; done) | (go_simp; rfl) | (go_simp; rfl)); (case hp => exact (Reps.none _ _)); intro v158 w6 ho7 hb hg_ hnew_; clear hg_ hnew_; (first | rw [← Ny157.out] at ho7 | (simp only [Int.reduceToNat] at ho7; rw [← Ny157.out] at ho7)); have HO159 := Aside0.mk (Kd.R_lower ho7 (below_size (bwq HB))); replace BK155 := bkb BK155 hb; replace BK156 := bkb BK156 hb; replace HB := bwb HB hb; clear hb ho7))
 (try simp only [Act.put, List.setIfInBounds_toArray, List.set_cons_zero, List.set_cons_succ])
 go_cut [15] (fun v15 wc => ∃ (kq : Nat) (x15_2 : Bool), v15 = .bool x15_2 ∧ Aside0 (spec_ExprComp.j0 kq y157 x15_2 l0_0 a1_0 a1_1 a1_2 a1_3 a1_4 = some r) ∧ Aside0 (kq ≤ k) ∧ Aside0 (Kd.R Kd.bool 4 wc w.heap.size (fun _ => True) v158 y157) ∧ Aside0 (wc.heap[gb155]? = some (.cells #[(.slice A0_0 l0_0.length c0_0)] 38 (0, 0))) ∧ Aside0 (wc.heap[gb156]? = some (.cells #[.int .i64 a1_0, .int .i64 a1_1, .int .i64 a1_2, .int .i64 a1_3, .int .i64 a1_4] 42 (0, 0))) ∧ Aside0 (Below w.heap.size w wc))
 case first =>
  have H := HC3.out
  clear HC3
  replace H := Option.bind_eq_some_iff.mp H
  obtain ⟨t160, A80, H⟩ := H
  have A8 := Aside0.mk A80
  clear A80
  by_cases c9 : t160 = true
  ·subst c9
   rw [if_pos rfl] at H
   replace H := Option.bind_eq_some_iff.mp H
   obtain ⟨t161, A100, H⟩ := H
   have A10 := Aside0.mk A100
   clear A100
   have H' := Aside0.mk H
   clear H
   have hnb11 := NB155_156.out
   have hnc11 := NB156_155.out
   obtain ⟨hcz12, hfz12⟩ := bcf BK155
   go_wp2_with (first | ((with_reducible refine gate_callee (f := 76) rfl ?_); refine goesM (some 9) rfl rfl Try.func76 #[.agg #[.slice A0_0 l0_0.length c0_0]] rfl ?_; (with_reducible refine (spec_ProgOk.calls k _ _ l0_0 true _ ?side1 ?side2 A8.out).mono ?_); (case side1 => exact Cq (Kd.C_below HR0_0.out HB.out)); (case side2 => exact HC0_0.out); rintro e w13 ⟨rfl, hb⟩; refine ⟨_, rfl, ?_⟩; replace HO159 := Aside0.mk (Kd.R_below (Rq HO159.out) hb); replace BK155 := bkb BK155 hb; replace BK156 := bkb BK156 hb; replace HB := bwb HB hb; (try clear hb); (try clear hb2); (try clear hk); (try clear hi); obtain ⟨hcz14, hfz14⟩ := bcf BK156) | (go_at_call 79; (with_reducible refine (spec_ExprOk.calls a1_0 a1_1 a1_2 a1_3 a1_4 t161 _ A10.out).mono ?_); rintro e w15 ⟨rfl, hb⟩; replace HO159 := Aside0.mk (Kd.R_below (Rq HO159.out) hb); replace BK155 := bkb BK155 hb; replace BK156 := bkb BK156 hb; replace HB := bwb HB hb; (try clear hb); (try clear hb2); (try clear hk); (try clear hi)))
   go_meet
   case rel => exact ⟨_, (!t161), (by first | rfl | (simp; done) | (simp [*]; done)), H', ⟨by first | omega | exact Nat.le_refl _⟩, ⟨Rq HO159.out⟩, ⟨bkq BK155⟩, ⟨bkq BK156⟩, ⟨bwq HB⟩⟩
  ·replace c9 := Bool.eq_false_iff.mpr c9
   subst c9
   have H1 : (spec_ExprComp.j0 k y157 true l0_0 a1_0 a1_1 a1_2 a1_3 a1_4) = some r := by rw [if_neg (show ¬ (false = true) by decide)] at H; exact H
   clear H
   have H := H1
   clear H1
   have H' := Aside0.mk H
   clear H
   have hnb16 := NB155_156.out
   have hnc16 := NB156_155.out
   obtain ⟨hcz17, hfz17⟩ := bcf BK155
   go_wp2_with (first | ((with_reducible refine gate_callee (f := 76) rfl ?_); refine goesM (some 9) rfl rfl Try.func76 #[.agg #[.slice A0_0 l0_0.length c0_0]] rfl ?_; (with_reducible refine (spec_ProgOk.calls k _ _ l0_0 false _ ?side1 ?side2 A8.out).mono ?_); (case side1 => exact Cq (Kd.C_below HR0_0.out HB.out)); (case side2 => exact HC0_0.out); rintro e w18 ⟨rfl, hb⟩; refine ⟨_, rfl, ?_⟩; replace HO159 := Aside0.mk (Kd.R_below (Rq HO159.out) hb); replace BK155 := bkb BK155 hb; replace BK156 := bkb BK156 hb; replace HB := bwb HB hb; (try clear hb); (try clear hb2); (try clear hk); (try clear hi)))
   go_meet
   case rel => exact ⟨_, (true), (by first | rfl | (simp; done) | (simp [*]; done)), H', ⟨by first | omega | exact Nat.le_refl _⟩, ⟨Rq HO159.out⟩, ⟨bkq BK155⟩, ⟨bkq BK156⟩, ⟨bwq HB⟩⟩
 case rest =>
  clear HC3
  try clear c1
  try clear p2
  try clear c4
  try clear c7
  try clear c9
  try clear c11
  try clear c16
  try clear hcz12
  try clear hcz14
  try clear hcz17
  try clear hfz12
  try clear hfz14
  try clear hfz17
  obtain ⟨kq, x15_2, rfl, HA, HJ2, HO_5, BK155, BK156, HB⟩ := hcut
  cases kq with
  | zero => exact absurd HA.out (by intro h_; first | (cases h_; done) | (simp [spec_ExprComp.j0] at h_))
  | succ kj2 =>
   have H := HA.out
   clear HA
   simp only [spec_ExprComp.j0] at H
   by_cases c19 : x15_2 = true
   ·subst c19
    rw [if_pos rfl] at H
    obtain rfl := Option.some.inj H
    go_wp2
    go_ret
    exact ⟨_, by first | rfl | (simp [errW_none, errW_some] <;> rfl) | (simp [*, errW_none, errW_some] <;> rfl), Rq HO_5.out, bwq HB⟩
   ·replace c19 := Bool.eq_false_iff.mpr c19
    subst c19
    have H1 : (spec_ExprComp.l0 kj2 y157 0 l0_0 a1_0 a1_1 a1_2 a1_3 a1_4) = some r := by rw [if_neg (show ¬ (false = true) by decide)] at H; exact H
    clear H
    have H := H1
    clear H1
    have H' := Aside0.mk H
    clear H
    go_wp2
    go_loopg [5, 6] kj2 (fun kq v5 v6 w' => ∃ (x5_2 : List Bool) (x6_2 : Int), v6 = .int .i64 x6_2 ∧ Aside0 (spec_ExprComp.l0 kq x5_2 x6_2 l0_0 a1_0 a1_1 a1_2 a1_3 a1_4 = some r) ∧ Aside0 (kq ≤ kj2) ∧ Aside0 (Kd.R Kd.bool 4 w' w.heap.size (fun _ => True) v5 x5_2) ∧ Aside0 (w'.heap[gb155]? = some (.cells #[(.slice A0_0 l0_0.length c0_0)] 38 (0, 0))) ∧ Aside0 (w'.heap[gb156]? = some (.cells #[.int .i64 a1_0, .int .i64 a1_1, .int .i64 a1_2, .int .i64 a1_3, .int .i64 a1_4] 42 (0, 0))) ∧ Aside0 (Below w.heap.size w w'))
    case atStart => exact ⟨(y157), (0), (by first | rfl | (simp; done) | (simp [*]; done)), H', ⟨Nat.le_refl _⟩, ⟨Rq HO_5.out⟩, ⟨bkq BK155⟩, ⟨bkq BK156⟩, ⟨bwq HB⟩⟩
    case round =>
     clear H'
     try clear c1
     try clear p2
     try clear c4
     try clear c7
     try clear c9
     try clear c11
     try clear c16
     try clear c19
     try clear hcz12
     try clear hcz14
     try clear hcz17
     try clear hfz12
     try clear hfz14
     try clear hfz17
     try clear p2
     obtain ⟨x5_2, x6_2, rfl, HA, HK2, HO_5, BK155, BK156, HB⟩ := hrel
     cases gk with
     | zero => exact absurd HA.out (by intro h_; first | (cases h_; done) | (simp [spec_ExprComp.l0] at h_))
     | succ k2 =>
      have H := HA.out
      clear HA
      simp only [spec_ExprComp.l0] at H
      by_cases c20 : x6_2 < (l0_0.length : Int)
      ·rw [if_pos c20] at H
       have c20b0 : decide (x6_2 < (l0_0.length : Int)) = true := decide_eq_true c20
       clear c20
       by_cases c21 : 0 ≤ x6_2
       ·rw [if_pos c21] at H
        have c21b0 : decide (0 ≤ x6_2) = true := decide_eq_true c21
        clear c21
        by_cases c22 : ((rd_T77 l0_0 x6_2).f0) = 1
        ·rw [if_pos c22] at H
         have c22b0 : (((rd_T77 l0_0 x6_2).f0) == 1) = true := beq_iff_eq.mpr c22
         have c22b1 : (((rd_T77 l0_0 x6_2).f0) != 1) = false := bne_eq_false_iff_eq.mpr c22
         clear c22
         replace H := Option.bind_eq_some_iff.mp H
         obtain ⟨⟨t164, t165, t166, t167, t168⟩, A230, H⟩ := H
         have A23 := Aside0.mk A230
         clear A230
         by_cases c24 : x5_2.length < 140737488355328
         ·rw [if_pos c24] at H
          have LMc24 := Aside0.mk c24
          clear c24
          obtain ⟨y169, hy169⟩ : ∃ y_ : List Bool, y_ = (x5_2 ++ [(t164 == a1_0 && ((t165 == a1_1 && (t166 == a1_2)) && ((t167 == a1_3 && (t168 == a1_4)))))]) := ⟨_, rfl⟩
          replace H : (spec_ExprComp.l0 k2 y169 (wrap64 (x6_2 + 1)) l0_0 a1_0 a1_1 a1_2 a1_3 a1_4) = some r := by first | (rw [hy169]; with_reducible exact H) | (have H2_ := (Option.bind_some _ _).symm.trans H; rw [hy169]; with_reducible exact H2_) | (have H2_ := (Option.bind_some _ _).symm.trans H; with_reducible exact H2_) | with_reducible exact H | (rw [hy169]; exact H) | exact H
          have Ny169 := Aside0.mk hy169
          clear hy169
          have H' := Aside0.mk H
          clear H
          have hnb25 := NB155_156.out
          have hnc25 := NB156_155.out
          obtain ⟨hcz26, hfz26⟩ := bcf BK155
          try go_wp2
          replace HO_5 := Aside0.mk (Kd.R_drew HO_5.out)
          replace BK155 := Aside0.mk (blk_drew BK155.out)
          replace BK156 := Aside0.mk (blk_drew BK156.out)
          replace HB := Aside0.mk (below_drew1 HB.out)
          have p162 : 0 ≤ (x6_2 : Int) := oda
          have q162 : x6_2 < (l0_0.length : Int) := oda
          obtain ⟨ad162, A162_7, c162_7, e162, hx162_0, hx162_1, hx162_2, hx162_3, hx162_4, hx162_5, hx162_6, hx162_7, hl162_7, hi162_7⟩ := at_T77 HR0_0.out x6_2 p162 q162
          have hw162_7 := hx162_7
          have hw162_6 := hx162_6
          have hw162_5 := hx162_5
          have hw162_4 := hx162_4
          have hw162_3 := hx162_3
          have hw162_2 := hx162_2
          have hw162_1 := hx162_1
          have hw162_0 := hx162_0
          cases e162
          replace hx162_0 := hxb HB hx162_0
          replace hx162_1 := hxb HB hx162_1
          replace hx162_2 := hxb HB hx162_2
          replace hx162_3 := hxb HB hx162_3
          replace hx162_4 := hxb HB hx162_4
          replace hx162_5 := hxb HB hx162_5
          replace hx162_6 := hxb HB hx162_6
          replace hx162_7 := hxb HB hx162_7
          have HR162_7 := Aside0.mk hi162_7
          have HC162_7 := Aside0.mk hl162_7
          clear hi162_7 hl162_7
          replace p162 := eq_true p162
          replace q162 := eq_true q162
          have p163 : 0 ≤ (x6_2 : Int) := oda
          have q163 : x6_2 < (l0_0.length : Int) := oda
          obtain ⟨ad163, A163_7, c163_7, e163, hx163_0, hx163_1, hx163_2, hx163_3, hx163_4, hx163_5, hx163_6, hx163_7, hl163_7, hi163_7⟩ := at_T77 HR0_0.out x6_2 p163 q163
          have hw163_7 := hx163_7
          have hw163_6 := hx163_6
          have hw163_5 := hx163_5
          have hw163_4 := hx163_4
          have hw163_3 := hx163_3
          have hw163_2 := hx163_2
          have hw163_1 := hx163_1
          have hw163_0 := hx163_0
          obtain rfl : ad162 = ad163 := (by injection e163)
          replace hx163_0 := hxb HB hx163_0
          replace hx163_1 := hxb HB hx163_1
          replace hx163_2 := hxb HB hx163_2
          replace hx163_3 := hxb HB hx163_3
          replace hx163_4 := hxb HB hx163_4
          replace hx163_5 := hxb HB hx163_5
          replace hx163_6 := hxb HB hx163_6
          replace hx163_7 := hxb HB hx163_7
          have HR163_7 := Aside0.mk hi163_7
          have HC163_7 := Aside0.mk hl163_7
          clear hi163_7 hl163_7
          replace p163 := eq_true p163
          replace q163 := eq_true q163
          have ea_ := Option.some.inj (hx162_7.symm.trans hx163_7)
          injection ea_ with ea_ en_ ec_
          subst ea_
          subst ec_
          clear en_
          refine start_ (n := 21) (S := fun w' => w'.cell? ⟨gb155, 0, none⟩ = some (.slice (some ad162) l0_0.length c0_0) ∧ w'.cell? ⟨gb156, 0, none⟩ = some (.int .i64 a1_0) ∧ w'.cell? ⟨gb156, 1, none⟩ = some (.int .i64 a1_1) ∧ w'.cell? ⟨gb156, 2, none⟩ = some (.int .i64 a1_2) ∧ w'.cell? ⟨gb156, 3, none⟩ = some (.int .i64 a1_3) ∧ w'.cell? ⟨gb156, 4, none⟩ = some (.int .i64 a1_4) ∧ w'.cell? (ad162.add ((x6_2).toNat * 8)) = some (.int .i64 ((rd_T77 l0_0 x6_2).f0)) ∧ w'.cell? ⟨(ad162.add ((x6_2).toNat * 8)).block, (ad162.add ((x6_2).toNat * 8)).off + 1, none⟩ = some (.int .i64 ((rd_T77 l0_0 x6_2).f1)) ∧ w'.cell? ⟨(ad162.add ((x6_2).toNat * 8)).block, (ad162.add ((x6_2).toNat * 8)).off + 2, none⟩ = some (.int .i64 ((rd_T77 l0_0 x6_2).f2)) ∧ w'.cell? ⟨(ad162.add ((x6_2).toNat * 8)).block, (ad162.add ((x6_2).toNat * 8)).off + 3, none⟩ = some (.int .i64 ((rd_T77 l0_0 x6_2).f3.f0)) ∧ w'.cell? ⟨(ad162.add ((x6_2).toNat * 8)).block, (ad162.add ((x6_2).toNat * 8)).off + 4, none⟩ = some (.int .i64 ((rd_T77 l0_0 x6_2).f3.f1)) ∧ w'.cell? ⟨(ad162.add ((x6_2).toNat * 8)).block, (ad162.add ((x6_2).toNat * 8)).off + 5, none⟩ = some (.int .i64 ((rd_T77 l0_0 x6_2).f4.f0)) ∧ w'.cell? ⟨(ad162.add ((x6_2).toNat * 8)).block, (ad162.add ((x6_2).toNat * 8)).off + 6, none⟩ = some (.int .i64 ((rd_T77 l0_0 x6_2).f4.f1)) ∧ w'.cell? ⟨(ad162.add ((x6_2).toNat * 8)).block, (ad162.add ((x6_2).toNat * 8)).off + 7, none⟩ = some (.slice A162_7 ((rd_T77 l0_0 x6_2).f5).length c162_7) ∧ w'.cell? (ad162.add ((x6_2).toNat * 8)) = some (.int .i64 ((rd_T77 l0_0 x6_2).f0)) ∧ w'.cell? ⟨(ad162.add ((x6_2).toNat * 8)).block, (ad162.add ((x6_2).toNat * 8)).off + 1, none⟩ = some (.int .i64 ((rd_T77 l0_0 x6_2).f1)) ∧ w'.cell? ⟨(ad162.add ((x6_2).toNat * 8)).block, (ad162.add ((x6_2).toNat * 8)).off + 2, none⟩ = some (.int .i64 ((rd_T77 l0_0 x6_2).f2)) ∧ w'.cell? ⟨(ad162.add ((x6_2).toNat * 8)).block, (ad162.add ((x6_2).toNat * 8)).off + 3, none⟩ = some (.int .i64 ((rd_T77 l0_0 x6_2).f3.f0)) ∧ w'.cell? ⟨(ad162.add ((x6_2).toNat * 8)).block, (ad162.add ((x6_2).toNat * 8)).off + 4, none⟩ = some (.int .i64 ((rd_T77 l0_0 x6_2).f3.f1)) ∧ w'.cell? ⟨(ad162.add ((x6_2).toNat * 8)).block, (ad162.add ((x6_2).toNat * 8)).off + 5, none⟩ = some (.int .i64 ((rd_T77 l0_0 x6_2).f4.f0)) ∧ w'.cell? ⟨(ad162.add ((x6_2).toNat * 8)).block, (ad162.add ((x6_2).toNat * 8)).off + 6, none⟩ = some (.int .i64 ((rd_T77 l0_0 x6_2).f4.f1)) ∧ w'.cell? ⟨(ad162.add ((x6_2).toNat * 8)).block, (ad162.add ((x6_2).toNat * 8)).off + 7, none⟩ = some (.slice A162_7 ((rd_T77 l0_0 x6_2).f5).length c162_7)) (ds := []) #[false, false, false, false, false, false, false, false, false, false, false, false, false, false, false, false, false, false, false, false, false] (by kernel_rfl) rfl rfl ⟨(blk_cell BK155.out 0).trans rfl, (blk_cell BK156.out 0).trans rfl, (blk_cell BK156.out 1).trans rfl, (blk_cell BK156.out 2).trans rfl, (blk_cell BK156.out 3).trans rfl, (blk_cell BK156.out 4).trans rfl, ((HB.out.cell (World.block_lt_of_cell? w _ hw162_0)).trans hw162_0), ((HB.out.cell (World.block_lt_of_cell? w _ hw162_1)).trans hw162_1), ((HB.out.cell (World.block_lt_of_cell? w _ hw162_2)).trans hw162_2), ((HB.out.cell (World.block_lt_of_cell? w _ hw162_3)).trans hw162_3), ((HB.out.cell (World.block_lt_of_cell? w _ hw162_4)).trans hw162_4), ((HB.out.cell (World.block_lt_of_cell? w _ hw162_5)).trans hw162_5), ((HB.out.cell (World.block_lt_of_cell? w _ hw162_6)).trans hw162_6), ((HB.out.cell (World.block_lt_of_cell? w _ hw162_7)).trans hw162_7), ((HB.out.cell (World.block_lt_of_cell? w _ hw163_0)).trans hw163_0), ((HB.out.cell (World.block_lt_of_cell? w _ hw163_1)).trans hw163_1), ((HB.out.cell (World.block_lt_of_cell? w _ hw163_2)).trans hw163_2), ((HB.out.cell (World.block_lt_of_cell? w _ hw163_3)).trans hw163_3), ((HB.out.cell (World.block_lt_of_cell? w _ hw163_4)).trans hw163_4), ((HB.out.cell (World.block_lt_of_cell? w _ hw163_5)).trans hw163_5), ((HB.out.cell (World.block_lt_of_cell? w _ hw163_6)).trans hw163_6), ((HB.out.cell (World.block_lt_of_cell? w _ hw163_7)).trans hw163_7)⟩ (fun hHeld => ?_); refine with_tabW spec_ExprComp.tab7 spec_ExprComp.bits7 (fun HT_ HW_ => ?_)
          generalize wr.drew = w27 at HO_5 BK155 BK156 HB HR162_7 HR163_7 hx162_0 hx162_1 hx162_2 hx162_3 hx162_4 hx162_5 hx162_6 hx162_7 hx163_0 hx163_1 hx163_2 hx163_3 hx163_4 hx163_5 hx163_6 hx163_7 hHeld ⊢
          refine pure_ (i := 0) (N := some 24) (v := ?_) (a' := ?_) #[true, false, false, false, false, false, false, false, false, false, false, false, false, false, false, false, false, false, false, false, false] rfl rfl (any_of HT_.out (by kernel_rfl)) (fun _ _ _ h => h) (Or.inl ⟨by rfl, ?_⟩) ?_ ?_
          rotate_left
          ·intro w'
           go_simp
           with_reducible rfl
          rotate_left
          ·simp only [Act.put, List.setIfInBounds_toArray, List.set_cons_zero, List.set_cons_succ, i64_w, i32_w]
           rfl
          refine pure_ (i := 1) (N := some 25) (v := ?_) (a' := ?_) #[true, true, false, false, false, false, false, false, false, false, false, false, false, false, false, false, false, false, false, false, false] rfl rfl (any_of HT_.out (by kernel_rfl)) (fun _ _ _ h => h) (Or.inl ⟨by rfl, ?_⟩) ?_ ?_
          rotate_left
          ·intro w'
           go_simp
           with_reducible rfl
          rotate_left
          ·simp only [Act.put, List.setIfInBounds_toArray, List.set_cons_zero, List.set_cons_succ, i64_w, i32_w]
           rfl
          refine pure_ (i := 3) (N := some 27) (v := ?_) (a' := ?_) #[true, true, false, true, false, false, false, false, false, false, false, false, false, false, false, false, false, false, false, false, false] rfl rfl (any_of HT_.out (by kernel_rfl)) (fun _ _ _ h => h) (Or.inl ⟨by rfl, ?_⟩) ?_ ?_
          rotate_left
          ·intro w'
           go_simp
           with_reducible rfl
          rotate_left
          ·simp only [Act.put, List.setIfInBounds_toArray, List.set_cons_zero, List.set_cons_succ, i64_w, i32_w]
           rfl
          refine take_ (i := 2) (N := some 26) (v := ?_) (a' := ?_) #[true, true, true, true, false, false, false, false, false, false, false, false, false, false, false, false, false, false, false, false, false] rfl rfl (take_ofW HT_.out HW_.out (by kernel_rfl)) (fun _ _ _ h => h) (Or.inl ⟨by rfl, ?_⟩) hHeld ?_ ?_
          rotate_left
          ·rintro w' ⟨s0, s1, s2, s3, s4, s5, s6, s7, s8, s9, s10, s11, s12, s13, s14, s15, s16, s17, s18, s19, s20, s21⟩
           go_simp
           with_reducible rfl
          rotate_left
          ·simp only [Act.put, List.setIfInBounds_toArray, List.set_cons_zero, List.set_cons_succ, i64_w, i32_w]
           rfl
          refine pure_ (i := 4) (N := some 28) (v := ?_) (a' := ?_) #[true, true, true, true, true, false, false, false, false, false, false, false, false, false, false, false, false, false, false, false, false] rfl rfl (any_of HT_.out (by kernel_rfl)) (fun _ _ _ h => h) (Or.inl ⟨by rfl, ?_⟩) ?_ ?_
          rotate_left
          ·intro w'
           go_simp
           with_reducible rfl
          rotate_left
          ·simp only [Act.put, List.setIfInBounds_toArray, List.set_cons_zero, List.set_cons_succ, i64_w, i32_w]
           rfl
          refine pure_ (i := 5) (N := some 29) (v := ?_) (a' := ?_) #[true, true, true, true, true, true, false, false, false, false, false, false, false, false, false, false, false, false, false, false, false] rfl rfl (any_of HT_.out (by kernel_rfl)) (fun _ _ _ h => h) (Or.inl ⟨by rfl, ?_⟩) ?_ ?_
          rotate_left
          ·intro w'
           go_simp
           with_reducible rfl
          rotate_left
          ·simp only [Act.put, List.setIfInBounds_toArray, List.set_cons_zero, List.set_cons_succ, i64_w, i32_w]
           rfl
          refine take_ (i := 6) (N := some 30) (v := ?_) (a' := ?_) #[true, true, true, true, true, true, true, false, false, false, false, false, false, false, false, false, false, false, false, false, false] rfl rfl (take_ofW HT_.out HW_.out (by kernel_rfl)) (fun _ _ _ h => h) (Or.inl ⟨by rfl, ?_⟩) hHeld ?_ ?_
          rotate_left
          ·rintro w' ⟨s0, s1, s2, s3, s4, s5, s6, s7, s8, s9, s10, s11, s12, s13, s14, s15, s16, s17, s18, s19, s20, s21⟩
           go_simp
           with_reducible rfl
          rotate_left
          ·simp only [Act.put, List.setIfInBounds_toArray, List.set_cons_zero, List.set_cons_succ, i64_w, i32_w]
           rfl
          refine pure_ (i := 7) (N := some 31) (v := ?_) (a' := ?_) #[true, true, true, true, true, true, true, true, false, false, false, false, false, false, false, false, false, false, false, false, false] rfl rfl (any_of HT_.out (by kernel_rfl)) (fun _ _ _ h => h) (Or.inl ⟨by rfl, ?_⟩) ?_ ?_
          rotate_left
          ·intro w'
           go_simp
           with_reducible rfl
          rotate_left
          ·simp only [Act.put, List.setIfInBounds_toArray, List.set_cons_zero, List.set_cons_succ, i64_w, i32_w]
           rfl
          refine pure_ (i := 8) (N := some 32) (v := ?_) (a' := ?_) #[true, true, true, true, true, true, true, true, true, false, false, false, false, false, false, false, false, false, false, false, false] rfl rfl (any_of HT_.out (by kernel_rfl)) (fun _ _ _ h => h) (Or.inl ⟨by rfl, ?_⟩) ?_ ?_
          rotate_left
          ·intro w'
           go_simp
           with_reducible rfl
          rotate_left
          ·simp only [Act.put, List.setIfInBounds_toArray, List.set_cons_zero, List.set_cons_succ, i64_w, i32_w]
           rfl
          refine pure_ (i := 9) (N := some 33) (v := ?_) (a' := ?_) #[true, true, true, true, true, true, true, true, true, true, false, false, false, false, false, false, false, false, false, false, false] rfl rfl (any_of HT_.out (by kernel_rfl)) (fun _ _ _ h => h) (Or.inl ⟨by rfl, ?_⟩) ?_ ?_
          rotate_left
          ·intro w'
           go_simp
           with_reducible rfl
          rotate_left
          ·simp only [Act.put, List.setIfInBounds_toArray, List.set_cons_zero, List.set_cons_succ, i64_w, i32_w]
           rfl
          refine pure_ (i := 11) (N := some 35) (v := ?_) (a' := ?_) #[true, true, true, true, true, true, true, true, true, true, false, true, false, false, false, false, false, false, false, false, false] rfl rfl (any_of HT_.out (by kernel_rfl)) (fun _ _ _ h => h) (Or.inl ⟨by rfl, ?_⟩) ?_ ?_
          rotate_left
          ·intro w'
           go_simp
           with_reducible rfl
          rotate_left
          ·simp only [Act.put, List.setIfInBounds_toArray, List.set_cons_zero, List.set_cons_succ, i64_w, i32_w]
           rfl
          refine take_ (i := 10) (N := some 34) (v := ?_) (a' := ?_) #[true, true, true, true, true, true, true, true, true, true, true, true, false, false, false, false, false, false, false, false, false] rfl rfl (take_ofW HT_.out HW_.out (by kernel_rfl)) (fun _ _ _ h => h) (Or.inl ⟨by rfl, ?_⟩) hHeld ?_ ?_
          rotate_left
          ·rintro w' ⟨s0, s1, s2, s3, s4, s5, s6, s7, s8, s9, s10, s11, s12, s13, s14, s15, s16, s17, s18, s19, s20, s21⟩
           go_simp
           with_reducible rfl
          rotate_left
          ·simp only [Act.put, List.setIfInBounds_toArray, List.set_cons_zero, List.set_cons_succ, i64_w, i32_w]
           rfl
          refine pure_ (i := 12) (N := some 36) (v := ?_) (a' := ?_) #[true, true, true, true, true, true, true, true, true, true, true, true, true, false, false, false, false, false, false, false, false] rfl rfl (any_of HT_.out (by kernel_rfl)) (fun _ _ _ h => h) (Or.inl ⟨by rfl, ?_⟩) ?_ ?_
          rotate_left
          ·intro w'
           go_simp
           with_reducible rfl
          rotate_left
          ·simp only [Act.put, List.setIfInBounds_toArray, List.set_cons_zero, List.set_cons_succ, i64_w, i32_w]
           rfl
          refine take_ (i := 13) (N := some 37) (v := ?_) (a' := ?_) #[true, true, true, true, true, true, true, true, true, true, true, true, true, true, false, false, false, false, false, false, false] rfl rfl (take_ofW HT_.out HW_.out (by kernel_rfl)) (fun _ _ _ h => h) (Or.inl ⟨by rfl, ?_⟩) hHeld ?_ ?_
          rotate_left
          ·rintro w' ⟨s0, s1, s2, s3, s4, s5, s6, s7, s8, s9, s10, s11, s12, s13, s14, s15, s16, s17, s18, s19, s20, s21⟩
           go_simp
           with_reducible rfl
          rotate_left
          ·simp only [Act.put, List.setIfInBounds_toArray, List.set_cons_zero, List.set_cons_succ, i64_w, i32_w]
           rfl
          refine take_ (i := 15) (N := some 39) (v := ?_) (a' := ?_) #[true, true, true, true, true, true, true, true, true, true, true, true, true, true, false, true, false, false, false, false, false] rfl rfl (take_ofW HT_.out HW_.out (by kernel_rfl)) (fun _ _ _ h => h) (Or.inl ⟨by rfl, ?_⟩) hHeld ?_ ?_
          rotate_left
          ·rintro w' ⟨s0, s1, s2, s3, s4, s5, s6, s7, s8, s9, s10, s11, s12, s13, s14, s15, s16, s17, s18, s19, s20, s21⟩
           go_simp
           with_reducible rfl
          rotate_left
          ·simp only [Act.put, List.setIfInBounds_toArray, List.set_cons_zero, List.set_cons_succ, i64_w, i32_w]
           rfl
          refine one_ (i := 14) (N := some 38) #[true, true, true, true, true, true, true, true, true, true, true, true, true, true, true, true, false, false, false, false, false] rfl rfl (one_of HT_.out (by kernel_rfl)) (by decide) (fun K hK => ?_)
          refine goesS Try.func80 #[.agg #[.int .i64 ((rd_T77 l0_0 x6_2).f0), .int .i64 ((rd_T77 l0_0 x6_2).f1), .int .i64 ((rd_T77 l0_0 x6_2).f2), .int .i64 ((rd_T77 l0_0 x6_2).f3.f0), .int .i64 ((rd_T77 l0_0 x6_2).f3.f1), .int .i64 ((rd_T77 l0_0 x6_2).f4.f0), .int .i64 ((rd_T77 l0_0 x6_2).f4.f1), .slice A162_7 ((rd_T77 l0_0 x6_2).f5).length c162_7]] rfl rfl ?_
          with_reducible refine (spec_l11Of.calls ((rd_T77 l0_0 x6_2).f0) ((rd_T77 l0_0 x6_2).f1) ((rd_T77 l0_0 x6_2).f2) ((rd_T77 l0_0 x6_2).f3.f0) ((rd_T77 l0_0 x6_2).f3.f1) ((rd_T77 l0_0 x6_2).f4.f0) ((rd_T77 l0_0 x6_2).f4.f1) _ _ ((rd_T77 l0_0 x6_2).f5) t164 t165 t166 t167 t168 _ ?side1 ?side2 A23.out).mono ?_
          (case side1 => exact Cq (Kd.C_below HR163_7.out HB.out))
          (case side2 => exact HC163_7.out)
          rintro e w28 ⟨rfl, hb⟩
          refine ⟨_, rfl, ?_⟩
          replace HO_5 := Aside0.mk (Kd.R_below (Rq HO_5.out) hb)
          replace BK155 := bkb BK155 hb
          replace BK156 := bkb BK156 hb
          replace HB := bwb HB hb
          (try clear hb)
          (try clear hb2)
          (try clear hk)
          (try clear hi)
          refine hK.out _ _ ⟨(blk_cell BK155.out 0).trans rfl, (blk_cell BK156.out 0).trans rfl, (blk_cell BK156.out 1).trans rfl, (blk_cell BK156.out 2).trans rfl, (blk_cell BK156.out 3).trans rfl, (blk_cell BK156.out 4).trans rfl, ((HB.out.cell (World.block_lt_of_cell? w _ hw162_0)).trans hw162_0), ((HB.out.cell (World.block_lt_of_cell? w _ hw162_1)).trans hw162_1), ((HB.out.cell (World.block_lt_of_cell? w _ hw162_2)).trans hw162_2), ((HB.out.cell (World.block_lt_of_cell? w _ hw162_3)).trans hw162_3), ((HB.out.cell (World.block_lt_of_cell? w _ hw162_4)).trans hw162_4), ((HB.out.cell (World.block_lt_of_cell? w _ hw162_5)).trans hw162_5), ((HB.out.cell (World.block_lt_of_cell? w _ hw162_6)).trans hw162_6), ((HB.out.cell (World.block_lt_of_cell? w _ hw162_7)).trans hw162_7), ((HB.out.cell (World.block_lt_of_cell? w _ hw163_0)).trans hw163_0), ((HB.out.cell (World.block_lt_of_cell? w _ hw163_1)).trans hw163_1), ((HB.out.cell (World.block_lt_of_cell? w _ hw163_2)).trans hw163_2), ((HB.out.cell (World.block_lt_of_cell? w _ hw163_3)).trans hw163_3), ((HB.out.cell (World.block_lt_of_cell? w _ hw163_4)).trans hw163_4), ((HB.out.cell (World.block_lt_of_cell? w _ hw163_5)).trans hw163_5), ((HB.out.cell (World.block_lt_of_cell? w _ hw163_6)).trans hw163_6), ((HB.out.cell (World.block_lt_of_cell? w _ hw163_7)).trans hw163_7)⟩ (fun hHeld => ?_)
          clear hK K
          refine norm_ (a' := ?_) ?_ ?_
          rotate_left
          ·show Act.put _ (some 38) _ = _
           simp only [Act.put, List.setIfInBounds_toArray, List.set_cons_zero, List.set_cons_succ, i64_w, i32_w]
           rfl
          refine pure_ (i := 16) (N := some 40) (v := ?_) (a' := ?_) #[true, true, true, true, true, true, true, true, true, true, true, true, true, true, true, true, true, false, false, false, false] rfl rfl (any_of HT_.out (by kernel_rfl)) (fun _ _ _ h => h) (Or.inl ⟨by rfl, ?_⟩) ?_ ?_
          rotate_left
          ·intro w'
           go_simp
           with_reducible rfl
          rotate_left
          ·simp only [Act.put, List.setIfInBounds_toArray, List.set_cons_zero, List.set_cons_succ, i64_w, i32_w]
           rfl
          refine pure_ (i := 17) (N := some 41) (v := ?_) (a' := ?_) #[true, true, true, true, true, true, true, true, true, true, true, true, true, true, true, true, true, true, false, false, false] rfl rfl (any_of HT_.out (by kernel_rfl)) (fun _ _ _ h => h) (Or.inl ⟨by rfl, ?_⟩) ?_ ?_
          rotate_left
          ·intro w'
           go_simp
           with_reducible rfl
          rotate_left
          ·simp only [Act.put, List.setIfInBounds_toArray, List.set_cons_zero, List.set_cons_succ, i64_w, i32_w]
           rfl
          refine one_ (i := 18) (N := some 42) #[true, true, true, true, true, true, true, true, true, true, true, true, true, true, true, true, true, true, true, false, false] rfl rfl (one_of HT_.out (by kernel_rfl)) (by decide) (fun K hK => ?_)
          refine value_ (w1 := ?_) (v := ?_) (by rfl) rfl ?_ ?_
          rotate_left 2
          ·go_simp
           constructor
           ·rfl
           ·rfl
          refine hK.out _ _ ⟨(blk_cell (blk_alloc BK155.out _) 0).trans rfl, (blk_cell (blk_alloc BK156.out _) 0).trans rfl, (blk_cell (blk_alloc BK156.out _) 1).trans rfl, (blk_cell (blk_alloc BK156.out _) 2).trans rfl, (blk_cell (blk_alloc BK156.out _) 3).trans rfl, (blk_cell (blk_alloc BK156.out _) 4).trans rfl, (World.cell?_alloc_lt _ _ _ (World.block_lt_of_cell? _ _ (((HB.out.cell (World.block_lt_of_cell? w _ hw162_0)).trans hw162_0)))).trans (((HB.out.cell (World.block_lt_of_cell? w _ hw162_0)).trans hw162_0)), (World.cell?_alloc_lt _ _ _ (World.block_lt_of_cell? _ _ (((HB.out.cell (World.block_lt_of_cell? w _ hw162_1)).trans hw162_1)))).trans (((HB.out.cell (World.block_lt_of_cell? w _ hw162_1)).trans hw162_1)), (World.cell?_alloc_lt _ _ _ (World.block_lt_of_cell? _ _ (((HB.out.cell (World.block_lt_of_cell? w _ hw162_2)).trans hw162_2)))).trans (((HB.out.cell (World.block_lt_of_cell? w _ hw162_2)).trans hw162_2)), (World.cell?_alloc_lt _ _ _ (World.block_lt_of_cell? _ _ (((HB.out.cell (World.block_lt_of_cell? w _ hw162_3)).trans hw162_3)))).trans (((HB.out.cell (World.block_lt_of_cell? w _ hw162_3)).trans hw162_3)), (World.cell?_alloc_lt _ _ _ (World.block_lt_of_cell? _ _ (((HB.out.cell (World.block_lt_of_cell? w _ hw162_4)).trans hw162_4)))).trans (((HB.out.cell (World.block_lt_of_cell? w _ hw162_4)).trans hw162_4)), (World.cell?_alloc_lt _ _ _ (World.block_lt_of_cell? _ _ (((HB.out.cell (World.block_lt_of_cell? w _ hw162_5)).trans hw162_5)))).trans (((HB.out.cell (World.block_lt_of_cell? w _ hw162_5)).trans hw162_5)), (World.cell?_alloc_lt _ _ _ (World.block_lt_of_cell? _ _ (((HB.out.cell (World.block_lt_of_cell? w _ hw162_6)).trans hw162_6)))).trans (((HB.out.cell (World.block_lt_of_cell? w _ hw162_6)).trans hw162_6)), (World.cell?_alloc_lt _ _ _ (World.block_lt_of_cell? _ _ (((HB.out.cell (World.block_lt_of_cell? w _ hw162_7)).trans hw162_7)))).trans (((HB.out.cell (World.block_lt_of_cell? w _ hw162_7)).trans hw162_7)), (World.cell?_alloc_lt _ _ _ (World.block_lt_of_cell? _ _ (((HB.out.cell (World.block_lt_of_cell? w _ hw163_0)).trans hw163_0)))).trans (((HB.out.cell (World.block_lt_of_cell? w _ hw163_0)).trans hw163_0)), (World.cell?_alloc_lt _ _ _ (World.block_lt_of_cell? _ _ (((HB.out.cell (World.block_lt_of_cell? w _ hw163_1)).trans hw163_1)))).trans (((HB.out.cell (World.block_lt_of_cell? w _ hw163_1)).trans hw163_1)), (World.cell?_alloc_lt _ _ _ (World.block_lt_of_cell? _ _ (((HB.out.cell (World.block_lt_of_cell? w _ hw163_2)).trans hw163_2)))).trans (((HB.out.cell (World.block_lt_of_cell? w _ hw163_2)).trans hw163_2)), (World.cell?_alloc_lt _ _ _ (World.block_lt_of_cell? _ _ (((HB.out.cell (World.block_lt_of_cell? w _ hw163_3)).trans hw163_3)))).trans (((HB.out.cell (World.block_lt_of_cell? w _ hw163_3)).trans hw163_3)), (World.cell?_alloc_lt _ _ _ (World.block_lt_of_cell? _ _ (((HB.out.cell (World.block_lt_of_cell? w _ hw163_4)).trans hw163_4)))).trans (((HB.out.cell (World.block_lt_of_cell? w _ hw163_4)).trans hw163_4)), (World.cell?_alloc_lt _ _ _ (World.block_lt_of_cell? _ _ (((HB.out.cell (World.block_lt_of_cell? w _ hw163_5)).trans hw163_5)))).trans (((HB.out.cell (World.block_lt_of_cell? w _ hw163_5)).trans hw163_5)), (World.cell?_alloc_lt _ _ _ (World.block_lt_of_cell? _ _ (((HB.out.cell (World.block_lt_of_cell? w _ hw163_6)).trans hw163_6)))).trans (((HB.out.cell (World.block_lt_of_cell? w _ hw163_6)).trans hw163_6)), (World.cell?_alloc_lt _ _ _ (World.block_lt_of_cell? _ _ (((HB.out.cell (World.block_lt_of_cell? w _ hw163_7)).trans hw163_7)))).trans (((HB.out.cell (World.block_lt_of_cell? w _ hw163_7)).trans hw163_7))⟩ (fun hHeld => ?_)
          clear hK K
          refine norm_ (a' := ?_) ?_ ?_
          rotate_left
          ·show Act.put _ (some 42) _ = _
           simp only [Act.put, List.setIfInBounds_toArray, List.set_cons_zero, List.set_cons_succ, i64_w, i32_w]
           rfl
          refine one_ (i := 19) (N := some 43) #[true, true, true, true, true, true, true, true, true, true, true, true, true, true, true, true, true, true, true, true, false] rfl rfl (one_of HT_.out (by kernel_rfl)) (by decide) (fun K hK => ?_)
          refine Kd.R_append_step Kd.bool (w0 := w) w.heap.size (by rfl) (.tmp 24) (.tmp 42) 29 4 (.bool false) 1 rfl Try.underlying29 info4 rfl (by decide) (by omega) u5 x5_2 (t164 == a1_0 && ((t165 == a1_1 && (t166 == a1_2)) && ((t167 == a1_3 && (t168 == a1_4))))) [.bool (t164 == a1_0 && ((t165 == a1_1 && (t166 == a1_2)) && ((t167 == a1_3 && (t168 == a1_4)))))] (fun _ => True) (fun _ => False) rfl rfl ?aP (fun _ hk => hk.elim) ?aF ?aO ?aB ?aS ?aL ?_
          (case aP => exact rfl)
          (case aB => exact (bwq HB))
          (case aF => exact (fun _ _ => trivial))
          (case aO => exact (Rq HO_5.out))
          (case aS => exact (below_size (bwq HB)))
          (case aL => have := LMc24.out; omega)
          intro v170 w29 ho hb hg hat
          rw [← Ny169.out] at ho
          have n0_ := Aside0.mk (blk_grown (g := gb155) (o := .cells #[.slice (some ad162) l0_0.length c0_0] 38 (0, 0)) (bkq BK155) hg (Kd.R_ne HO_5.out BK155.out (by decide)))
          have n1_ := Aside0.mk (blk_grown (g := gb156) (o := .cells #[.int .i64 a1_0, .int .i64 a1_1, .int .i64 a1_2, .int .i64 a1_3, .int .i64 a1_4] 42 (0, 0)) (bkq BK156) hg (Kd.R_ne HO_5.out BK156.out (by decide)))
          have n2_ := Aside0.mk (hb)
          have n3_ := Aside0.mk (ho)
          clear BK155
          clear BK156
          clear HB
          clear HO_5
          have BK155 := n0_
          have BK156 := n1_
          have HB := n2_
          have HO171 := n3_
          clear n0_ n1_ n2_ n3_
          clear ho hb hg hat
          refine hK.out _ _ ⟨(blk_cell BK155.out 0).trans rfl, (blk_cell BK156.out 0).trans rfl, (blk_cell BK156.out 1).trans rfl, (blk_cell BK156.out 2).trans rfl, (blk_cell BK156.out 3).trans rfl, (blk_cell BK156.out 4).trans rfl, ((HB.out.cell (World.block_lt_of_cell? w _ hw162_0)).trans hw162_0), ((HB.out.cell (World.block_lt_of_cell? w _ hw162_1)).trans hw162_1), ((HB.out.cell (World.block_lt_of_cell? w _ hw162_2)).trans hw162_2), ((HB.out.cell (World.block_lt_of_cell? w _ hw162_3)).trans hw162_3), ((HB.out.cell (World.block_lt_of_cell? w _ hw162_4)).trans hw162_4), ((HB.out.cell (World.block_lt_of_cell? w _ hw162_5)).trans hw162_5), ((HB.out.cell (World.block_lt_of_cell? w _ hw162_6)).trans hw162_6), ((HB.out.cell (World.block_lt_of_cell? w _ hw162_7)).trans hw162_7), ((HB.out.cell (World.block_lt_of_cell? w _ hw163_0)).trans hw163_0), ((HB.out.cell (World.block_lt_of_cell? w _ hw163_1)).trans hw163_1), ((HB.out.cell (World.block_lt_of_cell? w _ hw163_2)).trans hw163_2), ((HB.out.cell (World.block_lt_of_cell? w _ hw163_3)).trans hw163_3), ((HB.out.cell (World.block_lt_of_cell? w _ hw163_4)).trans hw163_4), ((HB.out.cell (World.block_lt_of_cell? w _ hw163_5)).trans hw163_5), ((HB.out.cell (World.block_lt_of_cell? w _ hw163_6)).trans hw163_6), ((HB.out.cell (World.block_lt_of_cell? w _ hw163_7)).trans hw163_7)⟩ (fun hHeld => ?_)
          clear hK K
          refine norm_ (a' := ?_) ?_ ?_
          rotate_left
          ·show Act.put _ (some 43) _ = _
           simp only [Act.put, List.setIfInBounds_toArray, List.set_cons_zero, List.set_cons_succ, i64_w, i32_w]
           rfl
          refine pure_ (i := 20) (N := some 5) (v := ?_) (a' := ?_) #[true, true, true, true, true, true, true, true, true, true, true, true, true, true, true, true, true, true, true, true, true] rfl rfl (any_of HT_.out (by kernel_rfl)) (fun _ _ _ h => h) (Or.inl ⟨by rfl, ?_⟩) ?_ ?_
          rotate_left
          ·intro w'
           go_simp
           with_reducible rfl
          rotate_left
          ·simp only [Act.put, List.setIfInBounds_toArray, List.set_cons_zero, List.set_cons_succ, i64_w, i32_w]
           rfl
          refine done_ (done_of HT_.out (by kernel_rfl)) ?_
          try go_wp2
          go_roundg k2
          case measure => have := HJ2.out; have := HK2.out; omega
          case rel => exact ⟨(y169), (wrap64 (x6_2 + 1)), (by first | rfl | (simp; done) | (simp [*]; done)), H', ⟨by have := HJ2.out; have := HK2.out; omega⟩, ⟨Rq HO171.out⟩, ⟨bkq BK155⟩, ⟨bkq BK156⟩, ⟨bwq HB⟩⟩
         ·rw [if_neg c24] at H
          exact absurd H (by simp)
        ·rw [if_neg c22] at H
         have c22b0 : (((rd_T77 l0_0 x6_2).f0) == 1) = false := beq_eq_false_iff_ne.mpr c22
         have c22b1 : (((rd_T77 l0_0 x6_2).f0) != 1) = true := bne_iff_ne.mpr c22
         by_cases c30 : x5_2.length < 140737488355328
         ·rw [if_pos c30] at H
          have LMc30 := Aside0.mk c30
          clear c30
          obtain ⟨y172, hy172⟩ : ∃ y_ : List Bool, y_ = (x5_2 ++ [false]) := ⟨_, rfl⟩
          replace H : (spec_ExprComp.l0 k2 y172 (wrap64 (x6_2 + 1)) l0_0 a1_0 a1_1 a1_2 a1_3 a1_4) = some r := by first | (rw [hy172]; with_reducible exact H) | (have H2_ := (Option.bind_some _ _).symm.trans H; rw [hy172]; with_reducible exact H2_) | (have H2_ := (Option.bind_some _ _).symm.trans H; with_reducible exact H2_) | with_reducible exact H | (rw [hy172]; exact H) | exact H
          have Ny172 := Aside0.mk hy172
          clear hy172
          have H' := Aside0.mk H
          clear H
          have hnb31 := NB155_156.out
          have hnc31 := NB156_155.out
          obtain ⟨hcz32, hfz32⟩ := bcf BK155
          try go_wp2
          replace HO_5 := Aside0.mk (Kd.R_drew HO_5.out)
          replace BK155 := Aside0.mk (blk_drew BK155.out)
          replace BK156 := Aside0.mk (blk_drew BK156.out)
          replace HB := Aside0.mk (below_drew1 HB.out)
          have p162 : 0 ≤ (x6_2 : Int) := oda
          have q162 : x6_2 < (l0_0.length : Int) := oda
          obtain ⟨ad162, A162_7, c162_7, e162, hx162_0, hx162_1, hx162_2, hx162_3, hx162_4, hx162_5, hx162_6, hx162_7, hl162_7, hi162_7⟩ := at_T77 HR0_0.out x6_2 p162 q162
          have hw162_7 := hx162_7
          have hw162_6 := hx162_6
          have hw162_5 := hx162_5
          have hw162_4 := hx162_4
          have hw162_3 := hx162_3
          have hw162_2 := hx162_2
          have hw162_1 := hx162_1
          have hw162_0 := hx162_0
          cases e162
          replace hx162_0 := hxb HB hx162_0
          replace hx162_1 := hxb HB hx162_1
          replace hx162_2 := hxb HB hx162_2
          replace hx162_3 := hxb HB hx162_3
          replace hx162_4 := hxb HB hx162_4
          replace hx162_5 := hxb HB hx162_5
          replace hx162_6 := hxb HB hx162_6
          replace hx162_7 := hxb HB hx162_7
          have HR162_7 := Aside0.mk hi162_7
          have HC162_7 := Aside0.mk hl162_7
          clear hi162_7 hl162_7
          replace p162 := eq_true p162
          replace q162 := eq_true q162
          refine start_ (n := 21) (S := fun w' => w'.cell? ⟨gb155, 0, none⟩ = some (.slice (some ad162) l0_0.length c0_0) ∧ w'.cell? (ad162.add ((x6_2).toNat * 8)) = some (.int .i64 ((rd_T77 l0_0 x6_2).f0)) ∧ w'.cell? ⟨(ad162.add ((x6_2).toNat * 8)).block, (ad162.add ((x6_2).toNat * 8)).off + 1, none⟩ = some (.int .i64 ((rd_T77 l0_0 x6_2).f1)) ∧ w'.cell? ⟨(ad162.add ((x6_2).toNat * 8)).block, (ad162.add ((x6_2).toNat * 8)).off + 2, none⟩ = some (.int .i64 ((rd_T77 l0_0 x6_2).f2)) ∧ w'.cell? ⟨(ad162.add ((x6_2).toNat * 8)).block, (ad162.add ((x6_2).toNat * 8)).off + 3, none⟩ = some (.int .i64 ((rd_T77 l0_0 x6_2).f3.f0)) ∧ w'.cell? ⟨(ad162.add ((x6_2).toNat * 8)).block, (ad162.add ((x6_2).toNat * 8)).off + 4, none⟩ = some (.int .i64 ((rd_T77 l0_0 x6_2).f3.f1)) ∧ w'.cell? ⟨(ad162.add ((x6_2).toNat * 8)).block, (ad162.add ((x6_2).toNat * 8)).off + 5, none⟩ = some (.int .i64 ((rd_T77 l0_0 x6_2).f4.f0)) ∧ w'.cell? ⟨(ad162.add ((x6_2).toNat * 8)).block, (ad162.add ((x6_2).toNat * 8)).off + 6, none⟩ = some (.int .i64 ((rd_T77 l0_0 x6_2).f4.f1)) ∧ w'.cell? ⟨(ad162.add ((x6_2).toNat * 8)).block, (ad162.add ((x6_2).toNat * 8)).off + 7, none⟩ = some (.slice A162_7 ((rd_T77 l0_0 x6_2).f5).length c162_7)) (ds := []) #[false, false, false, false, false, false, false, false, false, false, false, false, false, false, false, false, false, false, false, false, false] (by kernel_rfl) rfl rfl ⟨(blk_cell BK155.out 0).trans rfl, ((HB.out.cell (World.block_lt_of_cell? w _ hw162_0)).trans hw162_0), ((HB.out.cell (World.block_lt_of_cell? w _ hw162_1)).trans hw162_1), ((HB.out.cell (World.block_lt_of_cell? w _ hw162_2)).trans hw162_2), ((HB.out.cell (World.block_lt_of_cell? w _ hw162_3)).trans hw162_3), ((HB.out.cell (World.block_lt_of_cell? w _ hw162_4)).trans hw162_4), ((HB.out.cell (World.block_lt_of_cell? w _ hw162_5)).trans hw162_5), ((HB.out.cell (World.block_lt_of_cell? w _ hw162_6)).trans hw162_6), ((HB.out.cell (World.block_lt_of_cell? w _ hw162_7)).trans hw162_7)⟩ (fun hHeld => ?_); refine with_tabW spec_ExprComp.tab7 spec_ExprComp.bits7 (fun HT_ HW_ => ?_)
          generalize wr.drew = w33 at HO_5 BK155 BK156 HB HR162_7 hx162_0 hx162_1 hx162_2 hx162_3 hx162_4 hx162_5 hx162_6 hx162_7 hHeld ⊢
          refine pure_ (i := 0) (N := some 24) (v := ?_) (a' := ?_) #[true, false, false, false, false, false, false, false, false, false, false, false, false, false, false, false, false, false, false, false, false] rfl rfl (any_of HT_.out (by kernel_rfl)) (fun _ _ _ h => h) (Or.inl ⟨by rfl, ?_⟩) ?_ ?_
          rotate_left
          ·intro w'
           go_simp
           with_reducible rfl
          rotate_left
          ·simp only [Act.put, List.setIfInBounds_toArray, List.set_cons_zero, List.set_cons_succ, i64_w, i32_w]
           rfl
          refine pure_ (i := 1) (N := some 25) (v := ?_) (a' := ?_) #[true, true, false, false, false, false, false, false, false, false, false, false, false, false, false, false, false, false, false, false, false] rfl rfl (any_of HT_.out (by kernel_rfl)) (fun _ _ _ h => h) (Or.inl ⟨by rfl, ?_⟩) ?_ ?_
          rotate_left
          ·intro w'
           go_simp
           with_reducible rfl
          rotate_left
          ·simp only [Act.put, List.setIfInBounds_toArray, List.set_cons_zero, List.set_cons_succ, i64_w, i32_w]
           rfl
          refine pure_ (i := 3) (N := some 27) (v := ?_) (a' := ?_) #[true, true, false, true, false, false, false, false, false, false, false, false, false, false, false, false, false, false, false, false, false] rfl rfl (any_of HT_.out (by kernel_rfl)) (fun _ _ _ h => h) (Or.inl ⟨by rfl, ?_⟩) ?_ ?_
          rotate_left
          ·intro w'
           go_simp
           with_reducible rfl
          rotate_left
          ·simp only [Act.put, List.setIfInBounds_toArray, List.set_cons_zero, List.set_cons_succ, i64_w, i32_w]
           rfl
          refine take_ (i := 2) (N := some 26) (v := ?_) (a' := ?_) #[true, true, true, true, false, false, false, false, false, false, false, false, false, false, false, false, false, false, false, false, false] rfl rfl (take_ofW HT_.out HW_.out (by kernel_rfl)) (fun _ _ _ h => h) (Or.inl ⟨by rfl, ?_⟩) hHeld ?_ ?_
          rotate_left
          ·rintro w' ⟨s0, s1, s2, s3, s4, s5, s6, s7, s8⟩
           go_simp
           with_reducible rfl
          rotate_left
          ·simp only [Act.put, List.setIfInBounds_toArray, List.set_cons_zero, List.set_cons_succ, i64_w, i32_w]
           rfl
          refine pure_ (i := 4) (N := some 28) (v := ?_) (a' := ?_) #[true, true, true, true, true, false, false, false, false, false, false, false, false, false, false, false, false, false, false, false, false] rfl rfl (any_of HT_.out (by kernel_rfl)) (fun _ _ _ h => h) (Or.inl ⟨by rfl, ?_⟩) ?_ ?_
          rotate_left
          ·intro w'
           go_simp
           with_reducible rfl
          rotate_left
          ·simp only [Act.put, List.setIfInBounds_toArray, List.set_cons_zero, List.set_cons_succ, i64_w, i32_w]
           rfl
          refine pure_ (i := 5) (N := some 29) (v := ?_) (a' := ?_) #[true, true, true, true, true, true, false, false, false, false, false, false, false, false, false, false, false, false, false, false, false] rfl rfl (any_of HT_.out (by kernel_rfl)) (fun _ _ _ h => h) (Or.inl ⟨by rfl, ?_⟩) ?_ ?_
          rotate_left
          ·intro w'
           go_simp
           with_reducible rfl
          rotate_left
          ·simp only [Act.put, List.setIfInBounds_toArray, List.set_cons_zero, List.set_cons_succ, i64_w, i32_w]
           rfl
          refine take_ (i := 6) (N := some 30) (v := ?_) (a' := ?_) #[true, true, true, true, true, true, true, false, false, false, false, false, false, false, false, false, false, false, false, false, false] rfl rfl (take_ofW HT_.out HW_.out (by kernel_rfl)) (fun _ _ _ h => h) (Or.inl ⟨by rfl, ?_⟩) hHeld ?_ ?_
          rotate_left
          ·rintro w' ⟨s0, s1, s2, s3, s4, s5, s6, s7, s8⟩
           go_simp
           with_reducible rfl
          rotate_left
          ·simp only [Act.put, List.setIfInBounds_toArray, List.set_cons_zero, List.set_cons_succ, i64_w, i32_w]
           rfl
          refine pure_ (i := 7) (N := some 31) (v := ?_) (a' := ?_) #[true, true, true, true, true, true, true, true, false, false, false, false, false, false, false, false, false, false, false, false, false] rfl rfl (any_of HT_.out (by kernel_rfl)) (fun _ _ _ h => h) (Or.inl ⟨by rfl, ?_⟩) ?_ ?_
          rotate_left
          ·intro w'
           go_simp
           with_reducible rfl
          rotate_left
          ·simp only [Act.put, List.setIfInBounds_toArray, List.set_cons_zero, List.set_cons_succ, i64_w, i32_w]
           rfl
          refine pure_ (i := 8) (N := some 32) (v := ?_) (a' := ?_) #[true, true, true, true, true, true, true, true, true, false, false, false, false, false, false, false, false, false, false, false, false] rfl rfl (any_of HT_.out (by kernel_rfl)) (fun _ _ _ h => h) (Or.inl ⟨by rfl, ?_⟩) ?_ ?_
          rotate_left
          ·intro w'
           go_simp
           with_reducible rfl
          rotate_left
          ·simp only [Act.put, List.setIfInBounds_toArray, List.set_cons_zero, List.set_cons_succ, i64_w, i32_w]
           rfl
          refine pure_ (i := 9) (N := some 33) (v := undef) (a' := ?_) #[true, true, true, true, true, true, true, true, true, true, false, false, false, false, false, false, false, false, false, false, false] rfl rfl (any_of HT_.out (by kernel_rfl)) (fun _ _ _ h => h) (Or.inr ⟨by rfl, rfl⟩) ?_ ?_
          rotate_left
          ·simp only [Act.put, List.setIfInBounds_toArray, List.set_cons_zero, List.set_cons_succ, i64_w, i32_w]
           rfl
          refine pure_ (i := 10) (N := some 34) (v := undef) (a' := ?_) #[true, true, true, true, true, true, true, true, true, true, true, false, false, false, false, false, false, false, false, false, false] rfl rfl (any_of HT_.out (by kernel_rfl)) (fun _ _ _ h => h) (Or.inr ⟨by rfl, rfl⟩) ?_ ?_
          rotate_left
          ·simp only [Act.put, List.setIfInBounds_toArray, List.set_cons_zero, List.set_cons_succ, i64_w, i32_w]
           rfl
          refine pure_ (i := 11) (N := some 35) (v := undef) (a' := ?_) #[true, true, true, true, true, true, true, true, true, true, true, true, false, false, false, false, false, false, false, false, false] rfl rfl (any_of HT_.out (by kernel_rfl)) (fun _ _ _ h => h) (Or.inr ⟨by rfl, rfl⟩) ?_ ?_
          rotate_left
          ·simp only [Act.put, List.setIfInBounds_toArray, List.set_cons_zero, List.set_cons_succ, i64_w, i32_w]
           rfl
          refine pure_ (i := 12) (N := some 36) (v := undef) (a' := ?_) #[true, true, true, true, true, true, true, true, true, true, true, true, true, false, false, false, false, false, false, false, false] rfl rfl (any_of HT_.out (by kernel_rfl)) (fun _ _ _ h => h) (Or.inr ⟨by rfl, rfl⟩) ?_ ?_
          rotate_left
          ·simp only [Act.put, List.setIfInBounds_toArray, List.set_cons_zero, List.set_cons_succ, i64_w, i32_w]
           rfl
          refine pure_ (i := 13) (N := some 37) (v := undef) (a' := ?_) #[true, true, true, true, true, true, true, true, true, true, true, true, true, true, false, false, false, false, false, false, false] rfl rfl (any_of HT_.out (by kernel_rfl)) (fun _ _ _ h => h) (Or.inr ⟨by rfl, rfl⟩) ?_ ?_
          rotate_left
          ·simp only [Act.put, List.setIfInBounds_toArray, List.set_cons_zero, List.set_cons_succ, i64_w, i32_w]
           rfl
          refine pure_ (i := 14) (N := some 38) (v := undef) (a' := ?_) #[true, true, true, true, true, true, true, true, true, true, true, true, true, true, true, false, false, false, false, false, false] rfl rfl (any_of HT_.out (by kernel_rfl)) (fun _ _ _ h => h) (Or.inr ⟨by rfl, rfl⟩) ?_ ?_
          rotate_left
          ·simp only [Act.put, List.setIfInBounds_toArray, List.set_cons_zero, List.set_cons_succ, i64_w, i32_w]
           rfl
          refine pure_ (i := 15) (N := some 39) (v := undef) (a' := ?_) #[true, true, true, true, true, true, true, true, true, true, true, true, true, true, true, true, false, false, false, false, false] rfl rfl (any_of HT_.out (by kernel_rfl)) (fun _ _ _ h => h) (Or.inr ⟨by rfl, rfl⟩) ?_ ?_
          rotate_left
          ·simp only [Act.put, List.setIfInBounds_toArray, List.set_cons_zero, List.set_cons_succ, i64_w, i32_w]
           rfl
          refine pure_ (i := 16) (N := some 40) (v := undef) (a' := ?_) #[true, true, true, true, true, true, true, true, true, true, true, true, true, true, true, true, true, false, false, false, false] rfl rfl (any_of HT_.out (by kernel_rfl)) (fun _ _ _ h => h) (Or.inr ⟨by rfl, rfl⟩) ?_ ?_
          rotate_left
          ·simp only [Act.put, List.setIfInBounds_toArray, List.set_cons_zero, List.set_cons_succ, i64_w, i32_w]
           rfl
          refine pure_ (i := 17) (N := some 41) (v := ?_) (a' := ?_) #[true, true, true, true, true, true, true, true, true, true, true, true, true, true, true, true, true, true, false, false, false] rfl rfl (any_of HT_.out (by kernel_rfl)) (fun _ _ _ h => h) (Or.inl ⟨by rfl, ?_⟩) ?_ ?_
          rotate_left
          ·intro w'
           go_simp
           with_reducible rfl
          rotate_left
          ·simp only [Act.put, List.setIfInBounds_toArray, List.set_cons_zero, List.set_cons_succ, i64_w, i32_w]
           rfl
          refine one_ (i := 18) (N := some 42) #[true, true, true, true, true, true, true, true, true, true, true, true, true, true, true, true, true, true, true, false, false] rfl rfl (one_of HT_.out (by kernel_rfl)) (by decide) (fun K hK => ?_)
          refine value_ (w1 := ?_) (v := ?_) (by rfl) rfl ?_ ?_
          rotate_left 2
          ·go_simp
           constructor
           ·rfl
           ·rfl
          refine hK.out _ _ ⟨(blk_cell (blk_alloc BK155.out _) 0).trans rfl, (World.cell?_alloc_lt _ _ _ (World.block_lt_of_cell? _ _ (((HB.out.cell (World.block_lt_of_cell? w _ hw162_0)).trans hw162_0)))).trans (((HB.out.cell (World.block_lt_of_cell? w _ hw162_0)).trans hw162_0)), (World.cell?_alloc_lt _ _ _ (World.block_lt_of_cell? _ _ (((HB.out.cell (World.block_lt_of_cell? w _ hw162_1)).trans hw162_1)))).trans (((HB.out.cell (World.block_lt_of_cell? w _ hw162_1)).trans hw162_1)), (World.cell?_alloc_lt _ _ _ (World.block_lt_of_cell? _ _ (((HB.out.cell (World.block_lt_of_cell? w _ hw162_2)).trans hw162_2)))).trans (((HB.out.cell (World.block_lt_of_cell? w _ hw162_2)).trans hw162_2)), (World.cell?_alloc_lt _ _ _ (World.block_lt_of_cell? _ _ (((HB.out.cell (World.block_lt_of_cell? w _ hw162_3)).trans hw162_3)))).trans (((HB.out.cell (World.block_lt_of_cell? w _ hw162_3)).trans hw162_3)), (World.cell?_alloc_lt _ _ _ (World.block_lt_of_cell? _ _ (((HB.out.cell (World.block_lt_of_cell? w _ hw162_4)).trans hw162_4)))).trans (((HB.out.cell (World.block_lt_of_cell? w _ hw162_4)).trans hw162_4)), (World.cell?_alloc_lt _ _ _ (World.block_lt_of_cell? _ _ (((HB.out.cell (World.block_lt_of_cell? w _ hw162_5)).trans hw162_5)))).trans (((HB.out.cell (World.block_lt_of_cell? w _ hw162_5)).trans hw162_5)), (World.cell?_alloc_lt _ _ _ (World.block_lt_of_cell? _ _ (((HB.out.cell (World.block_lt_of_cell? w _ hw162_6)).trans hw162_6)))).trans (((HB.out.cell (World.block_lt_of_cell? w _ hw162_6)).trans hw162_6)), (World.cell?_alloc_lt _ _ _ (World.block_lt_of_cell? _ _ (((HB.out.cell (World.block_lt_of_cell? w _ hw162_7)).trans hw162_7)))).trans (((HB.out.cell (World.block_lt_of_cell? w _ hw162_7)).trans hw162_7))⟩ (fun hHeld => ?_)
          clear hK K
          refine norm_ (a' := ?_) ?_ ?_
          rotate_left
          ·show Act.put _ (some 42) _ = _
           simp only [Act.put, List.setIfInBounds_toArray, List.set_cons_zero, List.set_cons_succ, i64_w, i32_w]
           rfl
          refine one_ (i := 19) (N := some 43) #[true, true, true, true, true, true, true, true, true, true, true, true, true, true, true, true, true, true, true, true, false] rfl rfl (one_of HT_.out (by kernel_rfl)) (by decide) (fun K hK => ?_)
          refine Kd.R_append_step Kd.bool (w0 := w) w.heap.size (by rfl) (.tmp 24) (.tmp 42) 29 4 (.bool false) 1 rfl Try.underlying29 info4 rfl (by decide) (by omega) u5 x5_2 false [.bool false] (fun _ => True) (fun _ => False) rfl rfl ?aP (fun _ hk => hk.elim) ?aF ?aO ?aB ?aS ?aL ?_
          (case aP => exact rfl)
          (case aB => exact (bwq HB))
          (case aF => exact (fun _ _ => trivial))
          (case aO => exact (Rq HO_5.out))
          (case aS => exact (below_size (bwq HB)))
          (case aL => have := LMc30.out; omega)
          intro v173 w34 ho hb hg hat
          rw [← Ny172.out] at ho
          have n0_ := Aside0.mk (blk_grown (g := gb155) (o := .cells #[.slice (some ad162) l0_0.length c0_0] 38 (0, 0)) (bkq BK155) hg (Kd.R_ne HO_5.out BK155.out (by decide)))
          have n1_ := Aside0.mk (blk_grown (g := gb156) (o := .cells #[.int .i64 a1_0, .int .i64 a1_1, .int .i64 a1_2, .int .i64 a1_3, .int .i64 a1_4] 42 (0, 0)) (bkq BK156) hg (Kd.R_ne HO_5.out BK156.out (by decide)))
          have n2_ := Aside0.mk (hb)
          have n3_ := Aside0.mk (ho)
          clear BK155
          clear BK156
          clear HB
          clear HO_5
          have BK155 := n0_
          have BK156 := n1_
          have HB := n2_
          have HO174 := n3_
          clear n0_ n1_ n2_ n3_
          clear ho hb hg hat
          refine hK.out _ _ ⟨(blk_cell BK155.out 0).trans rfl, ((HB.out.cell (World.block_lt_of_cell? w _ hw162_0)).trans hw162_0), ((HB.out.cell (World.block_lt_of_cell? w _ hw162_1)).trans hw162_1), ((HB.out.cell (World.block_lt_of_cell? w _ hw162_2)).trans hw162_2), ((HB.out.cell (World.block_lt_of_cell? w _ hw162_3)).trans hw162_3), ((HB.out.cell (World.block_lt_of_cell? w _ hw162_4)).trans hw162_4), ((HB.out.cell (World.block_lt_of_cell? w _ hw162_5)).trans hw162_5), ((HB.out.cell (World.block_lt_of_cell? w _ hw162_6)).trans hw162_6), ((HB.out.cell (World.block_lt_of_cell? w _ hw162_7)).trans hw162_7)⟩ (fun hHeld => ?_)
          clear hK K
          refine norm_ (a' := ?_) ?_ ?_
          rotate_left
          ·show Act.put _ (some 43) _ = _
           simp only [Act.put, List.setIfInBounds_toArray, List.set_cons_zero, List.set_cons_succ, i64_w, i32_w]
           rfl
          refine pure_ (i := 20) (N := some 5) (v := ?_) (a' := ?_) #[true, true, true, true, true, true, true, true, true, true, true, true, true, true, true, true, true, true, true, true, true] rfl rfl (any_of HT_.out (by kernel_rfl)) (fun _ _ _ h => h) (Or.inl ⟨by rfl, ?_⟩) ?_ ?_
          rotate_left
          ·intro w'
           go_simp
           with_reducible rfl
          rotate_left
          ·simp only [Act.put, List.setIfInBounds_toArray, List.set_cons_zero, List.set_cons_succ, i64_w, i32_w]
           rfl
          refine done_ (done_of HT_.out (by kernel_rfl)) ?_
          try go_wp2
          go_roundg k2
          case measure => have := HJ2.out; have := HK2.out; omega
          case rel => exact ⟨(y172), (wrap64 (x6_2 + 1)), (by first | rfl | (simp; done) | (simp [*]; done)), H', ⟨by have := HJ2.out; have := HK2.out; omega⟩, ⟨Rq HO174.out⟩, ⟨bkq BK155⟩, ⟨bkq BK156⟩, ⟨bwq HB⟩⟩
         ·rw [if_neg c30] at H
          exact absurd H (by simp)
       ·rw [if_neg c21] at H
        exact absurd H (by simp)
      ·rw [if_neg c20] at H
       have c20b0 : decide (x6_2 < (l0_0.length : Int)) = false := decide_eq_false c20
       clear c20
       obtain rfl := Option.some.inj H
       have hnb35 := NB155_156.out
       have hnc35 := NB156_155.out
       obtain ⟨hcz36, hfz36⟩ := bcf BK155
       go_wp2
       go_ret
       exact ⟨_, by first | rfl | (simp [errW_none, errW_some] <;> rfl) | (simp [*, errW_none, errW_some] <;> rfl), Rq HO_5.out, bwq HB⟩
end Go.Proofs.Ytcgbbhkjkkpfoaa.P
namespace Go.Proofs.Ytcgbbhkjkkpfoaa.P
open Go.RowKit Go.Proofs.YtcgbbhkjkkpfoaaW.PrintWords Go.Proofs.YtcgbbhkjkkpfoaaW.PrintLast Go.Proofs.YtcgbbhkjkkpfoaaW.PrintMore
attribute [local go_sem] max2_int min2_int max_two min_two max_three min_three max_four min_four
def spec_l11Sets.f (a0_0 : Int) (a0_1 : Int) (a0_2 : Int) (a0_3 : Int) (a0_4 : Int) (a0_5 : Int) (a0_6 : Int) (l0_7 : List Int) : Option (Int) := if a0_0 = 1 then (some a0_1) else (if a0_0 = 2 then (some a0_1) else (if a0_0 = 3 then (some a0_1) else (some (-1))))
theorem spec_l11Sets.calls (a0_0 : Int) (a0_1 : Int) (a0_2 : Int) (a0_3 : Int) (a0_4 : Int) (a0_5 : Int) (a0_6 : Int) (A0_7 : Option Addr) (c0_7 : Nat) (l0_7 : List Int) (r : Int) (w : World) (hr0_7 : Kd.C (Kd.int .i64) w A0_7 l0_7.length l0_7) (hc0_7 : l0_7.length ≤ c0_7) (h : spec_l11Sets.f a0_0 a0_1 a0_2 a0_3 a0_4 a0_5 a0_6 l0_7 = some r) :
  Calls Try.prog 125 #[.agg #[.int .i64 a0_0, .int .i64 a0_1, .int .i64 a0_2, .int .i64 a0_3, .int .i64 a0_4, .int .i64 a0_5, .int .i64 a0_6, .slice A0_7 l0_7.length c0_7]] w fun e w' => e = .returned (.int .i64 r) ∧ Below w.heap.size w w' := by
 have hu77 := Try.underlying77
 have HR0_7 := Aside0.mk hr0_7
 have HC0_7 := Aside0.mk hc0_7
 clear hr0_7 hc0_7
 have HB := Aside0.mk (Below.refl w.heap.size w)
 have H : (if a0_0 = 1 then (some a0_1) else (if a0_0 = 2 then (some a0_1) else (if a0_0 = 3 then (some a0_1) else (some (-1))))) = some r := h
 clear h
 by_cases c2 : a0_0 = 1
 ·rw [if_pos c2] at H
  have c2b0 : (a0_0 == 1) = true := beq_iff_eq.mpr c2
  have c2b1 : (a0_0 != 1) = false := bne_eq_false_iff_eq.mpr c2
  clear c2
  obtain rfl := Option.some.inj H
  go_enter Try.func125, Try.ntmps125
  go_wp2_with (first | ((with_reducible refine gate_dst (N := 1) rfl ?_); refine bxe (cs := #[.int .i64 a0_0, .int .i64 a0_1, .int .i64 a0_2, .int .i64 a0_3, .int .i64 a0_4, .int .i64 a0_5, .int .i64 a0_6, .slice A0_7 l0_7.length c0_7]) (t := 77) ?_; intro gb492 hg w3 hbox hb; have BK492 := Aside0.mk (hbox); have GW492 := bwz HB hg; have GE492 := bwz HB hg; replace HB := bwb HB hb; clear hb hbox hg; obtain ⟨hcz4, hfz4⟩ := bcf BK492))
  go_ret
  exact ⟨by first | rfl | (simp [errW_none, errW_some] <;> rfl) | (simp [*, errW_none, errW_some] <;> rfl), bwq HB⟩
 ·rw [if_neg c2] at H
  have c2b0 : (a0_0 == 1) = false := beq_eq_false_iff_ne.mpr c2
  have c2b1 : (a0_0 != 1) = true := bne_iff_ne.mpr c2
  by_cases c5 : a0_0 = 2
  ·rw [if_pos c5] at H
   have c5b0 : (a0_0 == 2) = true := beq_iff_eq.mpr c5
   have c5b1 : (a0_0 != 2) = false := bne_eq_false_iff_eq.mpr c5
   clear c5
   obtain rfl := Option.some.inj H
   go_enter Try.func125, Try.ntmps125
   go_wp2_with (first | ((with_reducible refine gate_dst (N := 1) rfl ?_); refine bxe (cs := #[.int .i64 a0_0, .int .i64 a0_1, .int .i64 a0_2, .int .i64 a0_3, .int .i64 a0_4, .int .i64 a0_5, .int .i64 a0_6, .slice A0_7 l0_7.length c0_7]) (t := 77) ?_; intro gb492 hg w6 hbox hb; have BK492 := Aside0.mk (hbox); have GW492 := bwz HB hg; have GE492 := bwz HB hg; replace HB := bwb HB hb; clear hb hbox hg; obtain ⟨hcz7, hfz7⟩ := bcf BK492))
   go_ret
   exact ⟨by first | rfl | (simp [errW_none, errW_some] <;> rfl) | (simp [*, errW_none, errW_some] <;> rfl), bwq HB⟩
  ·rw [if_neg c5] at H
   have c5b0 : (a0_0 == 2) = false := beq_eq_false_iff_ne.mpr c5
   have c5b1 : (a0_0 != 2) = true := bne_iff_ne.mpr c5
   by_cases c8 : a0_0 = 3
   ·rw [if_pos c8] at H
    have c8b0 : (a0_0 == 3) = true := beq_iff_eq.mpr c8
    have c8b1 : (a0_0 != 3) = false := bne_eq_false_iff_eq.mpr c8
    clear c8
    obtain rfl := Option.some.inj H
    go_enter Try.func125, Try.ntmps125
    go_wp2_with (first | ((with_reducible refine gate_dst (N := 1) rfl ?_); refine bxe (cs := #[.int .i64 a0_0, .int .i64 a0_1, .int .i64 a0_2, .int .i64 a0_3, .int .i64 a0_4, .int .i64 a0_5, .int .i64 a0_6, .slice A0_7 l0_7.length c0_7]) (t := 77) ?_; intro gb492 hg w9 hbox hb; have BK492 := Aside0.mk (hbox); have GW492 := bwz HB hg; have GE492 := bwz HB hg; replace HB := bwb HB hb; clear hb hbox hg; obtain ⟨hcz10, hfz10⟩ := bcf BK492))
    go_ret
    exact ⟨by first | rfl | (simp [errW_none, errW_some] <;> rfl) | (simp [*, errW_none, errW_some] <;> rfl), bwq HB⟩
   ·rw [if_neg c8] at H
    have c8b0 : (a0_0 == 3) = false := beq_eq_false_iff_ne.mpr c8
    have c8b1 : (a0_0 != 3) = true := bne_iff_ne.mpr c8
    obtain rfl := Option.some.inj H
    go_enter Try.func125, Try.ntmps125
    go_wp2_with (first | ((with_reducible refine gate_dst (N := 1) rfl ?_); refine bxe (cs := #[.int .i64 a0_0, .int .i64 a0_1, .int .i64 a0_2, .int .i64 a0_3, .int .i64 a0_4, .int .i64 a0_5, .int .i64 a0_6, .slice A0_7 l0_7.length c0_7]) (t := 77) ?_; intro gb492 hg w11 hbox hb; have BK492 := Aside0.mk (hbox); have GW492 := bwz HB hg; have GE492 := bwz HB hg; replace HB := bwb HB hb; clear hb hbox hg; obtain ⟨hcz12, hfz12⟩ := bcf BK492))
    go_ret
    exact ⟨by first | rfl | (simp [errW_none, errW_some] <;> rfl) | (simp [*, errW_none, errW_some] <;> rfl), bwq HB⟩
mutual
def spec_ExprKeeps.j0 : Nat → List Bool → Bool → List (S77) → Int → Int → Int → Int → Int → Option (List Bool)
 | 0, _, _, _, _, _, _, _, _ => none
 | k + 1, x5, x16, x494000, x495000, x495001, x495002, x495003, x495004 => if x16 = true then (some x5) else (spec_ExprKeeps.l0 k x5 0 x494000 x495000 x495001 x495002 x495003 x495004)
def spec_ExprKeeps.l0 : Nat → List Bool → Int → List (S77) → Int → Int → Int → Int → Int → Option (List Bool)
 | 0, _, _, _, _, _, _, _, _ => none
 | k + 1, x5, x6, x494000, x495000, x495001, x495002, x495003, x495004 => if x6 < (x494000.length : Int) then (if 0 ≤ x6 then ((spec_l11Sets.f ((rd_T77 x494000 x6).f0) ((rd_T77 x494000 x6).f1) ((rd_T77 x494000 x6).f2) ((rd_T77 x494000 x6).f3.f0) ((rd_T77 x494000 x6).f3.f1) ((rd_T77 x494000 x6).f4.f0) ((rd_T77 x494000 x6).f4.f1) ((rd_T77 x494000 x6).f5)).bind fun t501 => (if t501 < 0 then (if x5.length < 140737488355328 then (spec_ExprKeeps.l0 k (x5 ++ [true]) (wrap64 (x6 + 1)) x494000 x495000 x495001 x495002 x495003 x495004) else (none)) else (if t501 = x495001 then (if x5.length < 140737488355328 then (spec_ExprKeeps.l0 k (x5 ++ [false]) (wrap64 (x6 + 1)) x494000 x495000 x495001 x495002 x495003 x495004) else (none)) else (if x5.length < 140737488355328 then (spec_ExprKeeps.l0 k (x5 ++ [(t501 != x495003)]) (wrap64 (x6 + 1)) x494000 x495000 x495001 x495002 x495003 x495004) else (none))))) else (none)) else (some x5)
end
def spec_ExprKeeps.f (k : Nat) (l0_0 : List (S77)) (a1_0 : Int) (a1_1 : Int) (a1_2 : Int) (a1_3 : Int) (a1_4 : Int) : Option (List Bool) := (some (([] : List Bool) : List Bool)).bind fun y495 => ((spec_ProgOk.f k l0_0).bind fun t498 => (if t498 = true then ((spec_ExprOk.f a1_0 a1_1 a1_2 a1_3 a1_4).bind fun t499 => (spec_ExprKeeps.j0 k y495 (!t499) l0_0 a1_0 a1_1 a1_2 a1_3 a1_4)) else (spec_ExprKeeps.j0 k y495 true l0_0 a1_0 a1_1 a1_2 a1_3 a1_4)))
theorem spec_ExprKeeps.calls (k : Nat) (A0_0 : Option Addr) (c0_0 : Nat) (l0_0 : List (S77)) (a1_0 : Int) (a1_1 : Int) (a1_2 : Int) (a1_3 : Int) (a1_4 : Int) (r : List Bool) (w : World) (hr0_0 : Kd.C k77 w A0_0 l0_0.length l0_0) (hc0_0 : l0_0.length ≤ c0_0) (h : spec_ExprKeeps.f k l0_0 a1_0 a1_1 a1_2 a1_3 a1_4 = some r) :
  Calls Try.prog 93 #[.agg #[.slice A0_0 l0_0.length c0_0], .agg #[.int .i64 a1_0, .int .i64 a1_1, .int .i64 a1_2, .int .i64 a1_3, .int .i64 a1_4]] w fun e w' => ∃ v0_ : Value, e = .returned (v0_) ∧ Kd.R Kd.bool 4 w' w.heap.size (fun _ => True) v0_ r ∧ Below w.heap.size w w' := by
 have hu38 := Try.underlying38
 have hu42 := Try.underlying42
 have hu77 := Try.underlying77
 have HR0_0 := Aside0.mk hr0_0
 have HC0_0 := Aside0.mk hc0_0
 clear hr0_0 hc0_0
 have HB := Aside0.mk (Below.refl w.heap.size w)
 have H : ((some (([] : List Bool) : List Bool)).bind fun y495 => ((spec_ProgOk.f k l0_0).bind fun t498 => (if t498 = true then ((spec_ExprOk.f a1_0 a1_1 a1_2 a1_3 a1_4).bind fun t499 => (spec_ExprKeeps.j0 k y495 (!t499) l0_0 a1_0 a1_1 a1_2 a1_3 a1_4)) else (spec_ExprKeeps.j0 k y495 true l0_0 a1_0 a1_1 a1_2 a1_3 a1_4)))) = some r := h
 clear h
 obtain ⟨y495, hy495⟩ : ∃ y_ : List Bool, y_ = (([] : List Bool)) := ⟨_, rfl⟩
 replace H : ((spec_ProgOk.f k l0_0).bind fun t498 => (if t498 = true then ((spec_ExprOk.f a1_0 a1_1 a1_2 a1_3 a1_4).bind fun t499 => (spec_ExprKeeps.j0 k y495 (!t499) l0_0 a1_0 a1_1 a1_2 a1_3 a1_4)) else (spec_ExprKeeps.j0 k y495 true l0_0 a1_0 a1_1 a1_2 a1_3 a1_4))) = some r := by first | (rw [hy495]; with_reducible exact H) | (have H2_ := (Option.bind_some _ _).symm.trans H; rw [hy495]; with_reducible exact H2_) | (have H2_ := (Option.bind_some _ _).symm.trans H; with_reducible exact H2_) | with_reducible exact H | (rw [hy495]; exact H) | exact H
 have Ny495 := Aside0.mk hy495
 clear hy495
 have HC3 := Aside0.mk H
 clear H
 go_enter Try.func93, Try.ntmps93
 go_upto_region 2 with (first | ((with_reducible refine gate_dst (N := 2) rfl ?_); refine bxe (cs := #[.slice A0_0 l0_0.length c0_0]) (t := 38) ?_; intro gb493 hg w4 hbox hb; have BK493 := Aside0.mk (hbox); have GW493 := bwz HB hg; have GE493 := bwz HB hg; replace HB := bwb HB hb; clear hb hbox hg) | ((with_reducible refine gate_dst (N := 3) rfl ?_); refine bxe (cs := #[.int .i64 a1_0, .int .i64 a1_1, .int .i64 a1_2, .int .i64 a1_3, .int .i64 a1_4]) (t := 42) ?_; intro gb494 hg w5 hbox hb; have BK494 := Aside0.mk (hbox); have GW494 := bwz HB hg; have GE494 := bwz HB hg; replace HB := bwb HB hb; have NB493_494 := bkl BK493 hg; have NB494_493 := bkg BK493 hg; replace BK493 := bkb BK493 hb; clear hb hbox hg) | ((with_reducible refine gate_dst (N := 8) rfl ?_); refine Kd.R_lit Kd.bool _ 4 ?hg (N := 8) ?hd (xs := ([] : List Bool)) (inner := []) (ok := fun _ => True) (okp := fun _ => True) ?hr ?hp (fun _ hk => hk) trivial (Below.refl _ _) (Nat.le_refl _) (by simp) ?_; (case hd => rfl); (case hg => rfl); (case hr => first | (go_simp; done) | (go_simp; rfl) | (go_simp; rfl)); (case hp => exact (Reps.none _ _)); intro v496 w6 ho7 hb hg_ hnew_; clear hg_ hnew_; (first | rw [← Ny495.out] at ho7 | (simp only [Int.reduceToNat] at ho7; rw [← Ny495.out] at ho7)); have HO497 := Aside0.mk (Kd.R_lower ho7 (below_size (bwq HB))); replace BK493 := bkb BK493 hb; replace BK494 := bkb BK494 hb; replace HB := bwb HB hb; clear hb ho7))
 (try simp only [Act.put, List.setIfInBounds_toArray, List.set_cons_zero, List.set_cons_succ])
 go_cut [16] (fun v16 wc => ∃ (kq : Nat) (x16_2 : Bool), v16 = .bool x16_2 ∧ Aside0 (spec_ExprKeeps.j0 kq y495 x16_2 l0_0 a1_0 a1_1 a1_2 a1_3 a1_4 = some r) ∧ Aside0 (kq ≤ k) ∧ Aside0 (Kd.R Kd.bool 4 wc w.heap.size (fun _ => True) v496 y495) ∧ Aside0 (wc.heap[gb493]? = some (.cells #[(.slice A0_0 l0_0.length c0_0)] 38 (0, 0))) ∧ Aside0 (wc.heap[gb494]? = some (.cells #[.int .i64 a1_0, .int .i64 a1_1, .int .i64 a1_2, .int .i64 a1_3, .int .i64 a1_4] 42 (0, 0))) ∧ Aside0 (Below w.heap.size w wc))
 case first =>
  have H := HC3.out
  clear HC3
  replace H := Option.bind_eq_some_iff.mp H
  obtain ⟨t498, A80, H⟩ := H
  have A8 := Aside0.mk A80
  clear A80
  by_cases c9 : t498 = true
  ·subst c9
   rw [if_pos rfl] at H
   replace H := Option.bind_eq_some_iff.mp H
   obtain ⟨t499, A100, H⟩ := H
   have A10 := Aside0.mk A100
   clear A100
   have H' := Aside0.mk H
   clear H
   have hnb11 := NB493_494.out
   have hnc11 := NB494_493.out
   obtain ⟨hcz12, hfz12⟩ := bcf BK493
   go_wp2_with (first | ((with_reducible refine gate_callee (f := 76) rfl ?_); refine goesM (some 10) rfl rfl Try.func76 #[.agg #[.slice A0_0 l0_0.length c0_0]] rfl ?_; (with_reducible refine (spec_ProgOk.calls k _ _ l0_0 true _ ?side1 ?side2 A8.out).mono ?_); (case side1 => exact Cq (Kd.C_below HR0_0.out HB.out)); (case side2 => exact HC0_0.out); rintro e w13 ⟨rfl, hb⟩; refine ⟨_, rfl, ?_⟩; replace HO497 := Aside0.mk (Kd.R_below (Rq HO497.out) hb); replace BK493 := bkb BK493 hb; replace BK494 := bkb BK494 hb; replace HB := bwb HB hb; (try clear hb); (try clear hb2); (try clear hk); (try clear hi); obtain ⟨hcz14, hfz14⟩ := bcf BK494) | (go_at_call 79; (with_reducible refine (spec_ExprOk.calls a1_0 a1_1 a1_2 a1_3 a1_4 t499 _ A10.out).mono ?_); rintro e w15 ⟨rfl, hb⟩; replace HO497 := Aside0.mk (Kd.R_below (Rq HO497.out) hb); replace BK493 := bkb BK493 hb; replace BK494 := bkb BK494 hb; replace HB := bwb HB hb; (try clear hb); (try clear hb2); (try clear hk); (try clear hi)))
   go_meet
   case rel => exact ⟨_, (!t499), (by first | rfl | (simp; done) | (simp [*]; done)), H', ⟨by first | omega | exact Nat.le_refl _⟩, ⟨Rq HO497.out⟩, ⟨bkq BK493⟩, ⟨bkq BK494⟩, ⟨bwq HB⟩⟩
  ·replace c9 := Bool.eq_false_iff.mpr c9
   subst c9
   have H1 : (spec_ExprKeeps.j0 k y495 true l0_0 a1_0 a1_1 a1_2 a1_3 a1_4) = some r := by rw [if_neg (show ¬ (false = true) by decide)] at H; exact H
   clear H
   have H := H1
   clear H1
   have H' := Aside0.mk H
   clear H
   have hnb16 := NB493_494.out
   have hnc16 := NB494_493.out
   obtain ⟨hcz17, hfz17⟩ := bcf BK493
   go_wp2_with (first | ((with_reducible refine gate_callee (f := 76) rfl ?_); refine goesM (some 10) rfl rfl Try.func76 #[.agg #[.slice A0_0 l0_0.length c0_0]] rfl ?_; (with_reducible refine (spec_ProgOk.calls k _ _ l0_0 false _ ?side1 ?side2 A8.out).mono ?_); (case side1 => exact Cq (Kd.C_below HR0_0.out HB.out)); (case side2 => exact HC0_0.out); rintro e w18 ⟨rfl, hb⟩; refine ⟨_, rfl, ?_⟩; replace HO497 := Aside0.mk (Kd.R_below (Rq HO497.out) hb); replace BK493 := bkb BK493 hb; replace BK494 := bkb BK494 hb; replace HB := bwb HB hb; (try clear hb); (try clear hb2); (try clear hk); (try clear hi)))
   go_meet
   case rel => exact ⟨_, (true), (by first | rfl | (simp; done) | (simp [*]; done)), H', ⟨by first | omega | exact Nat.le_refl _⟩, ⟨Rq HO497.out⟩, ⟨bkq BK493⟩, ⟨bkq BK494⟩, ⟨bwq HB⟩⟩
 case rest =>
  clear HC3
  try clear c1
  try clear p2
  try clear c7
  try clear c9
  try clear c11
  try clear c16
  try clear hcz12
  try clear hcz14
  try clear hcz17
  try clear hfz12
  try clear hfz14
  try clear hfz17
  obtain ⟨kq, x16_2, rfl, HA, HJ2, HO_5, BK493, BK494, HB⟩ := hcut
  cases kq with
  | zero => exact absurd HA.out (by intro h_; first | (cases h_; done) | (simp [spec_ExprKeeps.j0] at h_))
  | succ kj2 =>
   have H := HA.out
   clear HA
   simp only [spec_ExprKeeps.j0] at H
   by_cases c19 : x16_2 = true
   ·subst c19
    rw [if_pos rfl] at H
    obtain rfl := Option.some.inj H
    go_wp2
    go_ret
    exact ⟨_, by first | rfl | (simp [errW_none, errW_some] <;> rfl) | (simp [*, errW_none, errW_some] <;> rfl), Rq HO_5.out, bwq HB⟩
   ·replace c19 := Bool.eq_false_iff.mpr c19
    subst c19
    have H1 : (spec_ExprKeeps.l0 kj2 y495 0 l0_0 a1_0 a1_1 a1_2 a1_3 a1_4) = some r := by rw [if_neg (show ¬ (false = true) by decide)] at H; exact H
    clear H
    have H := H1
    clear H1
    have H' := Aside0.mk H
    clear H
    go_wp2
    go_loopg [5, 6] kj2 (fun kq v5 v6 w' => ∃ (x5_2 : List Bool) (x6_2 : Int), v6 = .int .i64 x6_2 ∧ Aside0 (spec_ExprKeeps.l0 kq x5_2 x6_2 l0_0 a1_0 a1_1 a1_2 a1_3 a1_4 = some r) ∧ Aside0 (kq ≤ kj2) ∧ Aside0 (Kd.R Kd.bool 4 w' w.heap.size (fun _ => True) v5 x5_2) ∧ Aside0 (w'.heap[gb493]? = some (.cells #[(.slice A0_0 l0_0.length c0_0)] 38 (0, 0))) ∧ Aside0 (w'.heap[gb494]? = some (.cells #[.int .i64 a1_0, .int .i64 a1_1, .int .i64 a1_2, .int .i64 a1_3, .int .i64 a1_4] 42 (0, 0))) ∧ Aside0 (Below w.heap.size w w'))
    case atStart => exact ⟨(y495), (0), (by first | rfl | (simp; done) | (simp [*]; done)), H', ⟨Nat.le_refl _⟩, ⟨Rq HO_5.out⟩, ⟨bkq BK493⟩, ⟨bkq BK494⟩, ⟨bwq HB⟩⟩
    case round =>
     clear H'
     try clear c1
     try clear p2
     try clear c7
     try clear c9
     try clear c11
     try clear c16
     try clear c19
     try clear hcz12
     try clear hcz14
     try clear hcz17
     try clear hfz12
     try clear hfz14
     try clear hfz17
     try clear p2
     obtain ⟨x5_2, x6_2, rfl, HA, HK2, HO_5, BK493, BK494, HB⟩ := hrel
     cases gk with
     | zero => exact absurd HA.out (by intro h_; first | (cases h_; done) | (simp [spec_ExprKeeps.l0] at h_))
     | succ k2 =>
      have H := HA.out
      clear HA
      simp only [spec_ExprKeeps.l0] at H
      by_cases c20 : x6_2 < (l0_0.length : Int)
      ·rw [if_pos c20] at H
       have c20b0 : decide (x6_2 < (l0_0.length : Int)) = true := decide_eq_true c20
       clear c20
       by_cases c21 : 0 ≤ x6_2
       ·rw [if_pos c21] at H
        have c21b0 : decide (0 ≤ x6_2) = true := decide_eq_true c21
        clear c21
        replace H := Option.bind_eq_some_iff.mp H
        obtain ⟨t501, A220, H⟩ := H
        have A22 := Aside0.mk A220
        clear A220
        by_cases c23 : t501 < 0
        ·rw [if_pos c23] at H
         have c23b0 : decide (t501 < 0) = true := decide_eq_true c23
         clear c23
         by_cases c24 : x5_2.length < 140737488355328
         ·rw [if_pos c24] at H
          have LMc24 := Aside0.mk c24
          clear c24
          obtain ⟨y502, hy502⟩ : ∃ y_ : List Bool, y_ = (x5_2 ++ [true]) := ⟨_, rfl⟩
          replace H : (spec_ExprKeeps.l0 k2 y502 (wrap64 (x6_2 + 1)) l0_0 a1_0 a1_1 a1_2 a1_3 a1_4) = some r := by first | (rw [hy502]; with_reducible exact H) | (have H2_ := (Option.bind_some _ _).symm.trans H; rw [hy502]; with_reducible exact H2_) | (have H2_ := (Option.bind_some _ _).symm.trans H; with_reducible exact H2_) | with_reducible exact H | (rw [hy502]; exact H) | exact H
          have Ny502 := Aside0.mk hy502
          clear hy502
          have H' := Aside0.mk H
          clear H
          have hnb25 := NB493_494.out
          have hnc25 := NB494_493.out
          obtain ⟨hcz26, hfz26⟩ := bcf BK493
          have p500 : 0 ≤ (x6_2 : Int) := oda
          have q500 : x6_2 < (l0_0.length : Int) := oda
          obtain ⟨ad500, A500_7, c500_7, e500, hx500_0, hx500_1, hx500_2, hx500_3, hx500_4, hx500_5, hx500_6, hx500_7, hl500_7, hi500_7⟩ := at_T77 HR0_0.out x6_2 p500 q500
          cases e500
          replace hx500_0 := hxb HB hx500_0
          replace hx500_1 := hxb HB hx500_1
          replace hx500_2 := hxb HB hx500_2
          replace hx500_3 := hxb HB hx500_3
          replace hx500_4 := hxb HB hx500_4
          replace hx500_5 := hxb HB hx500_5
          replace hx500_6 := hxb HB hx500_6
          replace hx500_7 := hxb HB hx500_7
          have HR500_7 := Aside0.mk hi500_7
          have HC500_7 := Aside0.mk hl500_7
          clear hi500_7 hl500_7
          replace p500 := eq_true p500
          replace q500 := eq_true q500
          go_wp2_with (first | ((with_reducible refine gate_callee (f := 125) rfl ?_); refine goesM (some 30) rfl rfl Try.func125 #[.agg #[.int .i64 ((rd_T77 l0_0 x6_2).f0), .int .i64 ((rd_T77 l0_0 x6_2).f1), .int .i64 ((rd_T77 l0_0 x6_2).f2), .int .i64 ((rd_T77 l0_0 x6_2).f3.f0), .int .i64 ((rd_T77 l0_0 x6_2).f3.f1), .int .i64 ((rd_T77 l0_0 x6_2).f4.f0), .int .i64 ((rd_T77 l0_0 x6_2).f4.f1), .slice A500_7 ((rd_T77 l0_0 x6_2).f5).length c500_7]] rfl ?_; (with_reducible refine (spec_l11Sets.calls ((rd_T77 l0_0 x6_2).f0) ((rd_T77 l0_0 x6_2).f1) ((rd_T77 l0_0 x6_2).f2) ((rd_T77 l0_0 x6_2).f3.f0) ((rd_T77 l0_0 x6_2).f3.f1) ((rd_T77 l0_0 x6_2).f4.f0) ((rd_T77 l0_0 x6_2).f4.f1) _ _ ((rd_T77 l0_0 x6_2).f5) t501 _ ?side1 ?side2 A22.out).mono ?_); (case side1 => exact Cq (Kd.C_below HR500_7.out HB.out)); (case side2 => exact HC500_7.out); rintro e w27 ⟨rfl, hb⟩; refine ⟨_, rfl, ?_⟩; replace HO_5 := Aside0.mk (Kd.R_below (Rq HO_5.out) hb); replace BK493 := bkb BK493 hb; replace BK494 := bkb BK494 hb; replace HB := bwb HB hb; (try clear hb); (try clear hb2); (try clear hk); (try clear hi)) | ((with_reducible refine gate_builtin (b := .append) (xs := #[.tmp 31, .tmp 48]) rfl ?_); at_builtin; refine Kd.R_append Kd.bool (w0 := w) w.heap.size rfl (.tmp 31) (.tmp 48) 29 4 (.bool false) 1 rfl Try.underlying29 info4 rfl (by decide) (by omega) u5 x5_2 true [.bool true] (fun _ => True) (fun _ => False) rfl rfl ?aP (fun _ hk => hk.elim) ?aF ?aO ?aB ?aS ?aL ?_; (case aP => exact rfl); (case aB => exact (bwq HB)); (case aF => exact (fun _ _ => trivial)); (case aO => exact (Rq HO_5.out)); (case aS => exact (below_size (bwq HB))); (case aL => have := LMc24.out; omega); intro v503 w28 ho hb hg hat; rw [← Ny502.out] at ho; have n0_ := Aside0.mk (blk_grown (g := gb493) (o := .cells #[.slice (some ad500) l0_0.length c0_0] 38 (0, 0)) (bkq BK493) hg (Kd.R_ne HO_5.out BK493.out (by decide))); have n1_ := Aside0.mk (blk_grown (g := gb494) (o := .cells #[.int .i64 a1_0, .int .i64 a1_1, .int .i64 a1_2, .int .i64 a1_3, .int .i64 a1_4] 42 (0, 0)) (bkq BK494) hg (Kd.R_ne HO_5.out BK494.out (by decide))); have n2_ := Aside0.mk (hb); have n3_ := Aside0.mk (ho); clear BK493; clear BK494; clear HB; clear HO_5; have BK493 := n0_; have BK494 := n1_; have HB := n2_; have HO504 := n3_; clear n0_ n1_ n2_ n3_; clear ho hb hg hat))
          go_roundg k2
          case measure => have := HJ2.out; have := HK2.out; omega
          case rel => exact ⟨(y502), (wrap64 (x6_2 + 1)), (by first | rfl | (simp; done) | (simp [*]; done)), H', ⟨by have := HJ2.out; have := HK2.out; omega⟩, ⟨Rq HO504.out⟩, ⟨bkq BK493⟩, ⟨bkq BK494⟩, ⟨bwq HB⟩⟩
         ·rw [if_neg c24] at H
          exact absurd H (by simp)
        ·rw [if_neg c23] at H
         have c23b0 : decide (t501 < 0) = false := decide_eq_false c23
         clear c23
         by_cases c29 : t501 = a1_1
         ·rw [if_pos c29] at H
          have c29b0 : (t501 == a1_1) = true := beq_iff_eq.mpr c29
          have c29b1 : (t501 != a1_1) = false := bne_eq_false_iff_eq.mpr c29
          clear c29
          by_cases c30 : x5_2.length < 140737488355328
          ·rw [if_pos c30] at H
           have LMc30 := Aside0.mk c30
           clear c30
           obtain ⟨y505, hy505⟩ : ∃ y_ : List Bool, y_ = (x5_2 ++ [false]) := ⟨_, rfl⟩
           replace H : (spec_ExprKeeps.l0 k2 y505 (wrap64 (x6_2 + 1)) l0_0 a1_0 a1_1 a1_2 a1_3 a1_4) = some r := by first | (rw [hy505]; with_reducible exact H) | (have H2_ := (Option.bind_some _ _).symm.trans H; rw [hy505]; with_reducible exact H2_) | (have H2_ := (Option.bind_some _ _).symm.trans H; with_reducible exact H2_) | with_reducible exact H | (rw [hy505]; exact H) | exact H
           have Ny505 := Aside0.mk hy505
           clear hy505
           have H' := Aside0.mk H
           clear H
           have hnb31 := NB493_494.out
           have hnc31 := NB494_493.out
           obtain ⟨hcz32, hfz32⟩ := bcf BK493
           have p500 : 0 ≤ (x6_2 : Int) := oda
           have q500 : x6_2 < (l0_0.length : Int) := oda
           obtain ⟨ad500, A500_7, c500_7, e500, hx500_0, hx500_1, hx500_2, hx500_3, hx500_4, hx500_5, hx500_6, hx500_7, hl500_7, hi500_7⟩ := at_T77 HR0_0.out x6_2 p500 q500
           cases e500
           replace hx500_0 := hxb HB hx500_0
           replace hx500_1 := hxb HB hx500_1
           replace hx500_2 := hxb HB hx500_2
           replace hx500_3 := hxb HB hx500_3
           replace hx500_4 := hxb HB hx500_4
           replace hx500_5 := hxb HB hx500_5
           replace hx500_6 := hxb HB hx500_6
           replace hx500_7 := hxb HB hx500_7
           have HR500_7 := Aside0.mk hi500_7
           have HC500_7 := Aside0.mk hl500_7
           clear hi500_7 hl500_7
           replace p500 := eq_true p500
           replace q500 := eq_true q500
           go_wp2_with (first | ((with_reducible refine gate_callee (f := 125) rfl ?_); refine goesM (some 30) rfl rfl Try.func125 #[.agg #[.int .i64 ((rd_T77 l0_0 x6_2).f0), .int .i64 ((rd_T77 l0_0 x6_2).f1), .int .i64 ((rd_T77 l0_0 x6_2).f2), .int .i64 ((rd_T77 l0_0 x6_2).f3.f0), .int .i64 ((rd_T77 l0_0 x6_2).f3.f1), .int .i64 ((rd_T77 l0_0 x6_2).f4.f0), .int .i64 ((rd_T77 l0_0 x6_2).f4.f1), .slice A500_7 ((rd_T77 l0_0 x6_2).f5).length c500_7]] rfl ?_; (with_reducible refine (spec_l11Sets.calls ((rd_T77 l0_0 x6_2).f0) ((rd_T77 l0_0 x6_2).f1) ((rd_T77 l0_0 x6_2).f2) ((rd_T77 l0_0 x6_2).f3.f0) ((rd_T77 l0_0 x6_2).f3.f1) ((rd_T77 l0_0 x6_2).f4.f0) ((rd_T77 l0_0 x6_2).f4.f1) _ _ ((rd_T77 l0_0 x6_2).f5) t501 _ ?side1 ?side2 A22.out).mono ?_); (case side1 => exact Cq (Kd.C_below HR500_7.out HB.out)); (case side2 => exact HC500_7.out); rintro e w33 ⟨rfl, hb⟩; refine ⟨_, rfl, ?_⟩; replace HO_5 := Aside0.mk (Kd.R_below (Rq HO_5.out) hb); replace BK493 := bkb BK493 hb; replace BK494 := bkb BK494 hb; replace HB := bwb HB hb; (try clear hb); (try clear hb2); (try clear hk); (try clear hi); obtain ⟨hcz34, hfz34⟩ := bcf BK494) | ((with_reducible refine gate_builtin (b := .append) (xs := #[.tmp 31, .tmp 48]) rfl ?_); at_builtin; refine Kd.R_append Kd.bool (w0 := w) w.heap.size rfl (.tmp 31) (.tmp 48) 29 4 (.bool false) 1 rfl Try.underlying29 info4 rfl (by decide) (by omega) u5 x5_2 false [.bool false] (fun _ => True) (fun _ => False) rfl rfl ?aP (fun _ hk => hk.elim) ?aF ?aO ?aB ?aS ?aL ?_; (case aP => exact rfl); (case aB => exact (bwq HB)); (case aF => exact (fun _ _ => trivial)); (case aO => exact (Rq HO_5.out)); (case aS => exact (below_size (bwq HB))); (case aL => have := LMc30.out; omega); intro v506 w35 ho hb hg hat; rw [← Ny505.out] at ho; have n0_ := Aside0.mk (blk_grown (g := gb493) (o := .cells #[.slice (some ad500) l0_0.length c0_0] 38 (0, 0)) (bkq BK493) hg (Kd.R_ne HO_5.out BK493.out (by decide))); have n1_ := Aside0.mk (blk_grown (g := gb494) (o := .cells #[.int .i64 a1_0, .int .i64 a1_1, .int .i64 a1_2, .int .i64 a1_3, .int .i64 a1_4] 42 (0, 0)) (bkq BK494) hg (Kd.R_ne HO_5.out BK494.out (by decide))); have n2_ := Aside0.mk (hb); have n3_ := Aside0.mk (ho); clear BK493; clear BK494; clear HB; clear HO_5; have BK493 := n0_; have BK494 := n1_; have HB := n2_; have HO507 := n3_; clear n0_ n1_ n2_ n3_; clear ho hb hg hat))
           go_roundg k2
           case measure => have := HJ2.out; have := HK2.out; omega
           case rel => exact ⟨(y505), (wrap64 (x6_2 + 1)), (by first | rfl | (simp; done) | (simp [*]; done)), H', ⟨by have := HJ2.out; have := HK2.out; omega⟩, ⟨Rq HO507.out⟩, ⟨bkq BK493⟩, ⟨bkq BK494⟩, ⟨bwq HB⟩⟩
          ·rw [if_neg c30] at H
           exact absurd H (by simp)
         ·rw [if_neg c29] at H
          have c29b0 : (t501 == a1_1) = false := beq_eq_false_iff_ne.mpr c29
          have c29b1 : (t501 != a1_1) = true := bne_iff_ne.mpr c29
          by_cases c36 : x5_2.length < 140737488355328
          ·rw [if_pos c36] at H
           have LMc36 := Aside0.mk c36
           clear c36
           obtain ⟨y508, hy508⟩ : ∃ y_ : List Bool, y_ = (x5_2 ++ [(t501 != a1_3)]) := ⟨_, rfl⟩
           replace H : (spec_ExprKeeps.l0 k2 y508 (wrap64 (x6_2 + 1)) l0_0 a1_0 a1_1 a1_2 a1_3 a1_4) = some r := by first | (rw [hy508]; with_reducible exact H) | (have H2_ := (Option.bind_some _ _).symm.trans H; rw [hy508]; with_reducible exact H2_) | (have H2_ := (Option.bind_some _ _).symm.trans H; with_reducible exact H2_) | with_reducible exact H | (rw [hy508]; exact H) | exact H
           have Ny508 := Aside0.mk hy508
           clear hy508
           have H' := Aside0.mk H
           clear H
           have hnb37 := NB493_494.out
           have hnc37 := NB494_493.out
           obtain ⟨hcz38, hfz38⟩ := bcf BK493
           have p500 : 0 ≤ (x6_2 : Int) := oda
           have q500 : x6_2 < (l0_0.length : Int) := oda
           obtain ⟨ad500, A500_7, c500_7, e500, hx500_0, hx500_1, hx500_2, hx500_3, hx500_4, hx500_5, hx500_6, hx500_7, hl500_7, hi500_7⟩ := at_T77 HR0_0.out x6_2 p500 q500
           cases e500
           replace hx500_0 := hxb HB hx500_0
           replace hx500_1 := hxb HB hx500_1
           replace hx500_2 := hxb HB hx500_2
           replace hx500_3 := hxb HB hx500_3
           replace hx500_4 := hxb HB hx500_4
           replace hx500_5 := hxb HB hx500_5
           replace hx500_6 := hxb HB hx500_6
           replace hx500_7 := hxb HB hx500_7
           have HR500_7 := Aside0.mk hi500_7
           have HC500_7 := Aside0.mk hl500_7
           clear hi500_7 hl500_7
           replace p500 := eq_true p500
           replace q500 := eq_true q500
           go_wp2_with (first | ((with_reducible refine gate_callee (f := 125) rfl ?_); refine goesM (some 30) rfl rfl Try.func125 #[.agg #[.int .i64 ((rd_T77 l0_0 x6_2).f0), .int .i64 ((rd_T77 l0_0 x6_2).f1), .int .i64 ((rd_T77 l0_0 x6_2).f2), .int .i64 ((rd_T77 l0_0 x6_2).f3.f0), .int .i64 ((rd_T77 l0_0 x6_2).f3.f1), .int .i64 ((rd_T77 l0_0 x6_2).f4.f0), .int .i64 ((rd_T77 l0_0 x6_2).f4.f1), .slice A500_7 ((rd_T77 l0_0 x6_2).f5).length c500_7]] rfl ?_; (with_reducible refine (spec_l11Sets.calls ((rd_T77 l0_0 x6_2).f0) ((rd_T77 l0_0 x6_2).f1) ((rd_T77 l0_0 x6_2).f2) ((rd_T77 l0_0 x6_2).f3.f0) ((rd_T77 l0_0 x6_2).f3.f1) ((rd_T77 l0_0 x6_2).f4.f0) ((rd_T77 l0_0 x6_2).f4.f1) _ _ ((rd_T77 l0_0 x6_2).f5) t501 _ ?side1 ?side2 A22.out).mono ?_); (case side1 => exact Cq (Kd.C_below HR500_7.out HB.out)); (case side2 => exact HC500_7.out); rintro e w39 ⟨rfl, hb⟩; refine ⟨_, rfl, ?_⟩; replace HO_5 := Aside0.mk (Kd.R_below (Rq HO_5.out) hb); replace BK493 := bkb BK493 hb; replace BK494 := bkb BK494 hb; replace HB := bwb HB hb; (try clear hb); (try clear hb2); (try clear hk); (try clear hi); obtain ⟨hcz40, hfz40⟩ := bcf BK494) | ((with_reducible refine gate_builtin (b := .append) (xs := #[.tmp 31, .tmp 48]) rfl ?_); at_builtin; refine Kd.R_append Kd.bool (w0 := w) w.heap.size rfl (.tmp 31) (.tmp 48) 29 4 (.bool false) 1 rfl Try.underlying29 info4 rfl (by decide) (by omega) u5 x5_2 (t501 != a1_3) [.bool (t501 != a1_3)] (fun _ => True) (fun _ => False) rfl rfl ?aP (fun _ hk => hk.elim) ?aF ?aO ?aB ?aS ?aL ?_; (case aP => exact rfl); (case aB => exact (bwq HB)); (case aF => exact (fun _ _ => trivial)); (case aO => exact (Rq HO_5.out)); (case aS => exact (below_size (bwq HB))); (case aL => have := LMc36.out; omega); intro v509 w41 ho hb hg hat; rw [← Ny508.out] at ho; have n0_ := Aside0.mk (blk_grown (g := gb493) (o := .cells #[.slice (some ad500) l0_0.length c0_0] 38 (0, 0)) (bkq BK493) hg (Kd.R_ne HO_5.out BK493.out (by decide))); have n1_ := Aside0.mk (blk_grown (g := gb494) (o := .cells #[.int .i64 a1_0, .int .i64 a1_1, .int .i64 a1_2, .int .i64 a1_3, .int .i64 a1_4] 42 (0, 0)) (bkq BK494) hg (Kd.R_ne HO_5.out BK494.out (by decide))); have n2_ := Aside0.mk (hb); have n3_ := Aside0.mk (ho); clear BK493; clear BK494; clear HB; clear HO_5; have BK493 := n0_; have BK494 := n1_; have HB := n2_; have HO510 := n3_; clear n0_ n1_ n2_ n3_; clear ho hb hg hat))
           go_roundg k2
           case measure => have := HJ2.out; have := HK2.out; omega
           case rel => exact ⟨(y508), (wrap64 (x6_2 + 1)), (by first | rfl | (simp; done) | (simp [*]; done)), H', ⟨by have := HJ2.out; have := HK2.out; omega⟩, ⟨Rq HO510.out⟩, ⟨bkq BK493⟩, ⟨bkq BK494⟩, ⟨bwq HB⟩⟩
          ·rw [if_neg c36] at H
           exact absurd H (by simp)
       ·rw [if_neg c21] at H
        exact absurd H (by simp)
      ·rw [if_neg c20] at H
       have c20b0 : decide (x6_2 < (l0_0.length : Int)) = false := decide_eq_false c20
       clear c20
       obtain rfl := Option.some.inj H
       have hnb42 := NB493_494.out
       have hnc42 := NB494_493.out
       obtain ⟨hcz43, hfz43⟩ := bcf BK493
       go_wp2
       go_ret
       exact ⟨_, by first | rfl | (simp [errW_none, errW_some] <;> rfl) | (simp [*, errW_none, errW_some] <;> rfl), Rq HO_5.out, bwq HB⟩
mutual
def spec_FlowReach.l0 : Nat → List Bool → Bool → List (S77) → Option (List Bool)
 | 0, _, _, _ => none
 | k + 1, x3, x4, x466000 => if x4 = true then (spec_FlowReach.l1 k x3 false 0 x466000) else (some x3)
def spec_FlowReach.l1 : Nat → List Bool → Bool → Int → List (S77) → Option (List Bool)
 | 0, _, _, _, _ => none
 | k + 1, x3, x4, x5, x466000 => if x5 < (x466000.length : Int) then (spec_FlowReach.l2 k x3 x4 x5 0 x466000) else (spec_FlowReach.l0 k x3 x4 x466000)
def spec_FlowReach.l2 : Nat → List Bool → Bool → Int → Int → List (S77) → Option (List Bool)
 | 0, _, _, _, _, _ => none
 | k + 1, x3, x4, x5, x6, x466000 => if 0 ≤ x5 then (if x5 < (x466000.length : Int) then (if x6 < (((rd_T77 x466000 x5).f5).length : Int) then (if x5 < (x3.length : Int) then (spec_FlowReach.j3 k x3 x4 x5 x6 (rdOf false x3 x5) x466000) else (none)) else (spec_FlowReach.j3 k x3 x4 x5 x6 false x466000)) else (none)) else (none)
def spec_FlowReach.j3 : Nat → List Bool → Bool → Int → Int → Bool → List (S77) → Option (List Bool)
 | 0, _, _, _, _, _, _ => none
 | k + 1, x3, x4, x5, x6, x39, x466000 => if x39 = true then (if 0 ≤ x5 then (if x5 < (x466000.length : Int) then (if 0 ≤ x6 then (if x6 < (((rd_T77 x466000 x5).f5).length : Int) then (if 0 ≤ (rd ((rd_T77 x466000 x5).f5) x6) then (if (rd ((rd_T77 x466000 x5).f5) x6) < (x3.length : Int) then (if (rdOf false x3 (rd ((rd_T77 x466000 x5).f5) x6) = true) then (spec_FlowReach.l2 k x3 x4 x5 (wrap64 (x6 + 1)) x466000) else (spec_FlowReach.l2 k (x3.set ((rd ((rd_T77 x466000 x5).f5) x6) : Int).toNat true) true x5 (wrap64 (x6 + 1)) x466000)) else (none)) else (none)) else (none)) else (none)) else (none)) else (none)) else (spec_FlowReach.l1 k x3 x4 (wrap64 (x5 + 1)) x466000)
end
def spec_FlowReach.f (k : Nat) (l0_0 : List (S77)) : Option (List Bool) := (spec_ProgOk.f k l0_0).bind fun t466 => (if t466 = true then (if 0 ≤ (l0_0.length : Int) then (if ((l0_0.length : Int) : Int).toNat ≤ 281474976710656 then ((some (List.replicate ((l0_0.length : Int) : Int).toNat false : List Bool)).bind fun y470 => (if 0 < (y470.length : Int) then (spec_FlowReach.l0 k (y470.set (0 : Int).toNat true) true l0_0) else (none))) else (none)) else (none)) else (some (([] : List Bool))))
theorem spec_FlowReach.calls (k : Nat) (A0_0 : Option Addr) (c0_0 : Nat) (l0_0 : List (S77)) (r : List Bool) (w : World) (hr0_0 : Kd.C k77 w A0_0 l0_0.length l0_0) (hc0_0 : l0_0.length ≤ c0_0) (h : spec_FlowReach.f k l0_0 = some r) :
  Calls Try.prog 65 #[.agg #[.slice A0_0 l0_0.length c0_0]] w fun e w' => ∃ v0_ : Value, e = .returned (v0_) ∧ Kd.R Kd.bool 4 w' w.heap.size (fun _ => True) v0_ r ∧ Below w.heap.size w w' := by
 have hu38 := Try.underlying38
 have HR0_0 := Aside0.mk hr0_0
 have HC0_0 := Aside0.mk hc0_0
 clear hr0_0 hc0_0
 have HB := Aside0.mk (Below.refl w.heap.size w)
 have H : ((spec_ProgOk.f k l0_0).bind fun t466 => (if t466 = true then (if 0 ≤ (l0_0.length : Int) then (if ((l0_0.length : Int) : Int).toNat ≤ 281474976710656 then ((some (List.replicate ((l0_0.length : Int) : Int).toNat false : List Bool)).bind fun y470 => (if 0 < (y470.length : Int) then (spec_FlowReach.l0 k (y470.set (0 : Int).toNat true) true l0_0) else (none))) else (none)) else (none)) else (some (([] : List Bool))))) = some r := h
 clear h
 replace H := Option.bind_eq_some_iff.mp H
 obtain ⟨t466, A20, H⟩ := H
 have A2 := Aside0.mk A20
 clear A20
 by_cases c3 : t466 = true
 ·subst c3
  rw [if_pos rfl] at H
  by_cases c4 : 0 ≤ (l0_0.length : Int)
  ·rw [if_pos c4] at H
   have c4b0 := eq_true c4
   have c4b1 : decide (0 ≤ (l0_0.length : Int)) = true := decide_eq_true c4
   clear c4
   by_cases c5 : ((l0_0.length : Int) : Int).toNat ≤ 281474976710656
   ·rw [if_pos c5] at H
    have c5b0 := eq_true c5
    have c5b1 : decide (((l0_0.length : Int) : Int).toNat ≤ 281474976710656) = true := decide_eq_true c5
    clear c5
    obtain ⟨y470, hy470⟩ : ∃ y_ : List Bool, y_ = (List.replicate ((l0_0.length : Int) : Int).toNat false) := ⟨_, rfl⟩
    replace H : (if 0 < (y470.length : Int) then (spec_FlowReach.l0 k (y470.set (0 : Int).toNat true) true l0_0) else (none)) = some r := by first | (rw [hy470]; with_reducible exact H) | (have H2_ := (Option.bind_some _ _).symm.trans H; rw [hy470]; with_reducible exact H2_) | (have H2_ := (Option.bind_some _ _).symm.trans H; with_reducible exact H2_) | with_reducible exact H | (rw [hy470]; exact H) | exact H
    have Ny470 := Aside0.mk hy470
    clear hy470
    by_cases c6 : 0 < (y470.length : Int)
    ·rw [if_pos c6] at H
     have c6b0 : decide (0 < (y470.length : Int)) = true := decide_eq_true c6
     have c6b1 : decide (0 < y470.length) = true := decide_eq_true (by omega)
     clear c6
     obtain ⟨y473, hy473⟩ : ∃ y_ : List Bool, y_ = (y470.set (0 : Int).toNat true) := ⟨_, rfl⟩
     replace H : (spec_FlowReach.l0 k y473 true l0_0) = some r := by first | (rw [hy473]; with_reducible exact H) | (have H2_ := (Option.bind_some _ _).symm.trans H; rw [hy473]; with_reducible exact H2_) | (have H2_ := (Option.bind_some _ _).symm.trans H; with_reducible exact H2_) | with_reducible exact H | (rw [hy473]; exact H) | exact H
     have Ny473 := Aside0.mk hy473
     clear hy473
     have H' := Aside0.mk H
     clear H
     go_enter Try.func65, Try.ntmps65
     go_wp2_with (first | ((with_reducible refine gate_dst (N := 1) rfl ?_); refine bxe (cs := #[.slice A0_0 l0_0.length c0_0]) (t := 38) ?_; intro gb465 hg w8 hbox hb; have BK465 := Aside0.mk (hbox); have GW465 := bwz HB hg; have GE465 := bwz HB hg; replace HB := bwb HB hb; clear hb hbox hg; obtain ⟨hcz9, hfz9⟩ := bcf BK465) | ((with_reducible refine gate_callee (f := 76) rfl ?_); refine goesM (some 8) rfl rfl Try.func76 #[.agg #[.slice A0_0 l0_0.length c0_0]] rfl ?_; (with_reducible refine (spec_ProgOk.calls k _ _ l0_0 true _ ?side1 ?side2 A2.out).mono ?_); (case side1 => exact Cq (Kd.C_below HR0_0.out HB.out)); (case side2 => exact HC0_0.out); rintro e w10 ⟨rfl, hb⟩; refine ⟨_, rfl, ?_⟩; replace BK465 := bkb BK465 hb; replace HB := bwb HB hb; (try clear hb); (try clear hb2); (try clear hk); (try clear hi); obtain ⟨hcz11, hfz11⟩ := bcf BK465) | ((with_reducible refine gate_dst (N := 14) rfl ?_); refine Kd.R_make Kd.bool _ 4 rfl (N := 14) rfl 29 _ _ rfl (l0_0.length : Int) rfl rfl Try.underlying29 (.bool false) 1 info4 rfl (by decide) (by omega) false (ok := fun _ => True) (okp := fun _ => True) rfl (fun _ hk => hk) trivial (oda) (Nat.le_trans (Nat.mul_le_mul_right _ (oda : (l0_0.length : Int).toNat ≤ 281474976710656)) (by omega)) (Below.refl _ _) (Nat.le_refl _) ?_; intro v471 w12 ho13 hb hg_ hnew_; clear hg_ hnew_; (first | rw [← Ny470.out] at ho13 | (simp only [Int.reduceToNat] at ho13; rw [← Ny470.out] at ho13)); have HO472 := Aside0.mk (Kd.R_lower ho13 (below_size (bwq HB))); replace BK465 := bkb BK465 hb; replace HB := bwb HB hb; clear hb ho13; have p7 : 0 ≤ (0 : Int) := (by omega); have q7 : (0 : Int) < ((y470.length : Int) : Int) := oda; have qi7 : (0 < y470.length) = True := eq_true (by omega); obtain ⟨go7, co7, eo7, gb7, gl7, cl7, HG7⟩ := Kd.R_form HO472.out (by omega); (first | cases eo7 | (injection eo7 with ea_ en_ ec_; (first | subst ea_ | (injection ea_ with ea_; subst ea_)); subst ec_; clear en_)); have GB7 := Aside0.mk gb7; have GG7 := Aside0.mk HG7; clear gb7 gl7 HG7; obtain ⟨hx7_0, hf7_0⟩ := Kd.R_celln false HO472.out (0 : Int) p7 q7; (try rw [show ((0 : Int)).toNat = 0 from rfl] at hx7_0); (try simp only [Nat.reduceMul, Nat.zero_mul, Nat.zero_add, Nat.reduceAdd] at hx7_0); (try rw [show ((0 : Int)).toNat = 0 from rfl] at hf7_0); (try simp only [Nat.reduceMul, Nat.zero_mul, Nat.zero_add, Nat.reduceAdd] at hf7_0); replace p7 := eq_true p7; replace q7 := eq_true q7; obtain ⟨hy14_, hz14_⟩ := Kd.R_celln false HO472.out (0 : Int) (by omega) (oda); (try simp only [Int.reduceToNat, Int.toNat_zero, Int.toNat_ofNat, Nat.reduceMul, Nat.zero_mul, Nat.zero_add] at hy14_ hz14_); (try rw [show ((0 : Int)).toNat = 0 from rfl] at hy14_); (try rw [show ((0 : Int)).toNat = 0 from rfl] at hz14_); have HP14 := Kd.R_putg HO472.out (0 : Int) true) | ((with_reducible refine gate_store (t := 4) (p := 16) rfl ?_); refine store_event (t := 4) (p := 16) (v := ?vo_w15) (w1 := (w12.setCell ⟨go7, (0 : Int).toNat, none⟩ (.bool true))) ?hg ?ho ?hn ?hr ?_; (case ho => rfl); (case hg => rfl); (case hn => rfl); (case hr => first | (go_simp; done) | (go_simp; rfl) | (go_simp; rfl)); intro w15 hw; have hg : w12.grownBy w15 (some go7) := (by rw [hw]; exact HP14.2); have hp_ : Kd.R Kd.bool 4 w15 w.heap.size (fun _ => True) (.slice (some ⟨go7, 0, none⟩) y470.length co7) y473 := (by rw [hw, Ny473.out]; exact HP14.1); clear HP14; replace BK465 := Aside0.mk (blk_grown (g := gb465) (o := .cells #[.slice A0_0 l0_0.length c0_0] 38 (0, 0)) (bkq BK465) hg (Kd.R_ne HO472.out BK465.out (by decide))); replace HO472 := Aside0.mk (hp_); replace HB := Aside0.mk ((by rw [hw]; exact below_set (HB.out) GB7.out : Below w.heap.size w w15)); clear hg hw hp_))
     go_loopg [4] k (fun kq v4 w' => ∃ (x3_1 : List Bool) (x4_1 : Bool), v4 = .bool x4_1 ∧ Aside0 (spec_FlowReach.l0 kq x3_1 x4_1 l0_0 = some r) ∧ Aside0 (kq ≤ k) ∧ Aside0 (Kd.R Kd.bool 4 w' w.heap.size (fun _ => True) (.slice (some ⟨go7, 0, none⟩) y470.length co7) x3_1) ∧ Aside0 (w'.heap[gb465]? = some (.cells #[(.slice A0_0 l0_0.length c0_0)] 38 (0, 0))) ∧ Aside0 (Below w.heap.size w w'))
     case atStart => exact ⟨(y473), (true), (by first | rfl | (simp; done) | (simp [*]; done)), H', ⟨Nat.le_refl _⟩, ⟨Rq HO472.out⟩, ⟨bkq BK465⟩, ⟨bwq HB⟩⟩
     case round =>
      clear H'
      try clear p2
      try clear c3
      try clear c4
      try clear c4b0
      try clear c4b1
      try clear c5
      try clear c5b0
      try clear c5b1
      try clear c6
      try clear c6b0
      try clear c6b1
      try clear c7
      try clear p7
      try clear q7
      try clear hx7
      try clear qi7
      try clear hf7
      try clear hcz11
      try clear hcz9
      try clear hfz11
      try clear hfz9
      try clear hx7_0
      try clear p7
      try clear q7
      obtain ⟨x3_1, x4_1, rfl, HA, HK1, HO_3, BK465, HB⟩ := hrel
      have hl3_1 := (Kd.R_reads' HO_3.out).1
      rw [hl3_1] at HO_3
      (try simp only [hl3_1])
      (try simp only [hl3_1] at BK465)
      cases gk with
      | zero => exact absurd HA.out (by intro h_; first | (cases h_; done) | (simp [spec_FlowReach.l0] at h_))
      | succ k1 =>
       have H := HA.out
       clear HA
       simp only [spec_FlowReach.l0] at H
       by_cases c16 : x4_1 = true
       ·subst c16
        rw [if_pos rfl] at H
        have H' := Aside0.mk H
        clear H
        go_wp2
        go_loopg [4, 5] k1 (fun kq v4 v5 w' => ∃ (x3_2 : List Bool) (x4_2 : Bool) (x5_2 : Int), v4 = .bool x4_2 ∧ v5 = .int .i64 x5_2 ∧ Aside0 (spec_FlowReach.l1 kq x3_2 x4_2 x5_2 l0_0 = some r) ∧ Aside0 (kq ≤ k1) ∧ Aside0 (Kd.R Kd.bool 4 w' w.heap.size (fun _ => True) (.slice (some ⟨go7, 0, none⟩) x3_1.length co7) x3_2) ∧ Aside0 (w'.heap[gb465]? = some (.cells #[(.slice A0_0 l0_0.length c0_0)] 38 (0, 0))) ∧ Aside0 (Below w.heap.size w w'))
        case atStart => exact ⟨(x3_1), (false), (0), (by first | rfl | (simp; done) | (simp [*]; done)), (by first | rfl | (simp; done) | (simp [*]; done)), H', ⟨Nat.le_refl _⟩, ⟨by (try simp only [hl3_1]); exact Rq HO_3.out⟩, ⟨by (try simp only [hl3_1]); exact bkq BK465⟩, ⟨bwq HB⟩⟩
        case round =>
         clear H'
         try clear c1
         try clear p2
         try clear c3
         try clear c4
         try clear c4b0
         try clear c4b1
         try clear c5
         try clear c5b0
         try clear c5b1
         try clear c6
         try clear c6b0
         try clear c6b1
         try clear c7
         try clear p7
         try clear q7
         try clear hx7
         try clear qi7
         try clear hf7
         try clear c16
         try clear hcz11
         try clear hcz9
         try clear hfz11
         try clear hfz9
         try clear hx7_0
         try clear p2
         try clear p7
         try clear q7
         obtain ⟨x3_2, x4_2, x5_2, rfl, rfl, HA, HK2, HO_3, BK465, HB⟩ := hrel
         have hl3_2 := (Kd.R_reads' HO_3.out).1
         rw [hl3_2] at HO_3
         (try simp only [hl3_2])
         (try simp only [hl3_2] at BK465)
         cases gk with
         | zero => exact absurd HA.out (by intro h_; first | (cases h_; done) | (simp [spec_FlowReach.l1] at h_))
         | succ k2 =>
          have H := HA.out
          clear HA
          simp only [spec_FlowReach.l1] at H
          by_cases c17 : x5_2 < (l0_0.length : Int)
          ·rw [if_pos c17] at H
           have c17b0 : decide (x5_2 < (l0_0.length : Int)) = true := decide_eq_true c17
           clear c17
           have H' := Aside0.mk H
           clear H
           obtain ⟨hcz18, hfz18⟩ := bcf BK465
           go_wp2
           go_loopg [4, 6] k2 (fun kq v4 v6 w' => ∃ (x3_3 : List Bool) (x4_3 : Bool) (x6_3 : Int), v4 = .bool x4_3 ∧ v6 = .int .i64 x6_3 ∧ Aside0 (spec_FlowReach.l2 kq x3_3 x4_3 x5_2 x6_3 l0_0 = some r) ∧ Aside0 (kq ≤ k2) ∧ Aside0 (Kd.R Kd.bool 4 w' w.heap.size (fun _ => True) (.slice (some ⟨go7, 0, none⟩) x3_2.length co7) x3_3) ∧ Aside0 (w'.heap[gb465]? = some (.cells #[(.slice A0_0 l0_0.length c0_0)] 38 (0, 0))) ∧ Aside0 (Below w.heap.size w w'))
           case atStart => exact ⟨(x3_2), (x4_2), (0), (by first | rfl | (simp; done) | (simp [*]; done)), (by first | rfl | (simp; done) | (simp [*]; done)), H', ⟨Nat.le_refl _⟩, ⟨by (try simp only [hl3_1]); (try simp only [hl3_2]); exact Rq HO_3.out⟩, ⟨by (try simp only [hl3_1]); (try simp only [hl3_2]); exact bkq BK465⟩, ⟨bwq HB⟩⟩
           case round =>
            clear H'
            try clear c1
            try clear p2
            try clear c3
            try clear c4
            try clear c4b0
            try clear c4b1
            try clear c5
            try clear c5b0
            try clear c5b1
            try clear c6
            try clear c6b0
            try clear c6b1
            try clear c7
            try clear p7
            try clear q7
            try clear hx7
            try clear qi7
            try clear hf7
            try clear c16
            try clear c17
            try clear c17b0
            try clear hcz11
            try clear hcz18
            try clear hcz9
            try clear hfz11
            try clear hfz18
            try clear hfz9
            try clear hx7_0
            try clear p2
            try clear p7
            try clear q7
            obtain ⟨x3_3, x4_3, x6_3, rfl, rfl, HA, HK3, HO_3, BK465, HB⟩ := hrel
            have hl3_3 := (Kd.R_reads' HO_3.out).1
            rw [hl3_3] at HO_3
            (try simp only [hl3_3])
            (try simp only [hl3_3] at BK465)
            cases gk with
            | zero => exact absurd HA.out (by intro h_; first | (cases h_; done) | (simp [spec_FlowReach.l2] at h_))
            | succ k3 =>
             have H := HA.out
             clear HA
             simp only [spec_FlowReach.l2] at H
             have HC19 := Aside0.mk H
             clear H
             go_upto_region 12 with (fail)
             go_cut [39] (fun v39 wc => ∃ (kq : Nat) (x39_18 : Bool), v39 = .bool x39_18 ∧ Aside0 (spec_FlowReach.j3 kq x3_3 x4_3 x5_2 x6_3 x39_18 l0_0 = some r) ∧ Aside0 (kq ≤ k3) ∧ Aside0 (Kd.R Kd.bool 4 wc w.heap.size (fun _ => True) (.slice (some ⟨go7, 0, none⟩) x3_3.length co7) x3_3) ∧ Aside0 (wc.heap[gb465]? = some (.cells #[(.slice A0_0 l0_0.length c0_0)] 38 (0, 0))) ∧ Aside0 (Below w.heap.size w wc))
             case first =>
              have H := HC19.out
              clear HC19
              by_cases c20 : 0 ≤ x5_2
              ·rw [if_pos c20] at H
               have c20b0 : decide (0 ≤ x5_2) = true := decide_eq_true c20
               clear c20
               (first | rw [c20b0] | (simp only [i64_w, i32_w]; rw [c20b0]) | skip)
               by_cases c21 : x5_2 < (l0_0.length : Int)
               ·rw [if_pos c21] at H
                have c21b0 : decide (x5_2 < (l0_0.length : Int)) = true := decide_eq_true c21
                clear c21
                by_cases c22 : x6_3 < (((rd_T77 l0_0 x5_2).f5).length : Int)
                ·rw [if_pos c22] at H
                 have c22b0 : decide (x6_3 < (((rd_T77 l0_0 x5_2).f5).length : Int)) = true := decide_eq_true c22
                 clear c22
                 by_cases c23 : x5_2 < (x3_3.length : Int)
                 ·rw [if_pos c23] at H
                  have c23b0 : decide (x5_2 < (x3_3.length : Int)) = true := decide_eq_true c23
                  clear c23
                  have H' := Aside0.mk H
                  clear H
                  obtain ⟨hcz24, hfz24⟩ := bcf BK465
                  have p474 : 0 ≤ (x5_2 : Int) := oda
                  have q474 : x5_2 < (l0_0.length : Int) := oda
                  obtain ⟨ad474, A474_7, c474_7, e474, hx474_0, hx474_1, hx474_2, hx474_3, hx474_4, hx474_5, hx474_6, hx474_7, hl474_7, hi474_7⟩ := at_T77 HR0_0.out x5_2 p474 q474
                  cases e474
                  replace hx474_0 := hxb HB hx474_0
                  replace hx474_1 := hxb HB hx474_1
                  replace hx474_2 := hxb HB hx474_2
                  replace hx474_3 := hxb HB hx474_3
                  replace hx474_4 := hxb HB hx474_4
                  replace hx474_5 := hxb HB hx474_5
                  replace hx474_6 := hxb HB hx474_6
                  replace hx474_7 := hxb HB hx474_7
                  have HR474_7 := Aside0.mk hi474_7
                  have HC474_7 := Aside0.mk hl474_7
                  clear hi474_7 hl474_7
                  replace p474 := eq_true p474
                  replace q474 := eq_true q474
                  have p475 : 0 ≤ (x5_2 : Int) := oda
                  have q475 : x5_2 < (x3_3.length : Int) := oda
                  obtain ⟨ad475, e475, hx475_0⟩ := Kd.at_bool (Kd.R_reads' HO_3.out).2.2 x5_2 p475 q475
                  obtain rfl : (⟨go7, 0, none⟩ : Addr) = ad475 := (by injection e475)
                  (first | simp only [add_plain] at hx475_0 | simp only [add_at] at hx475_0 | simp only [Addr.add, Nat.zero_add] at hx475_0 | skip)
                  replace p475 := eq_true p475
                  replace q475 := eq_true q475
                  go_wp2
                  go_meet
                  case rel => exact ⟨_, (rdOf false x3_3 x5_2), (by first | rfl | (simp; done) | (simp [*]; done)), H', ⟨by have := HK1.out; have := HK2.out; have := HK3.out; first | omega | exact Nat.le_refl _⟩, ⟨by (try simp only [hl3_1]); (try simp only [hl3_2]); (try simp only [hl3_3]); exact Rq HO_3.out⟩, ⟨by (try simp only [hl3_1]); (try simp only [hl3_2]); (try simp only [hl3_3]); exact bkq BK465⟩, ⟨bwq HB⟩⟩
                 ·rw [if_neg c23] at H
                  exact absurd H (by simp)
                ·rw [if_neg c22] at H
                 have c22b0 : decide (x6_3 < (((rd_T77 l0_0 x5_2).f5).length : Int)) = false := decide_eq_false c22
                 clear c22
                 have H' := Aside0.mk H
                 clear H
                 obtain ⟨hcz25, hfz25⟩ := bcf BK465
                 have p474 : 0 ≤ (x5_2 : Int) := oda
                 have q474 : x5_2 < (l0_0.length : Int) := oda
                 obtain ⟨ad474, A474_7, c474_7, e474, hx474_0, hx474_1, hx474_2, hx474_3, hx474_4, hx474_5, hx474_6, hx474_7, hl474_7, hi474_7⟩ := at_T77 HR0_0.out x5_2 p474 q474
                 cases e474
                 replace hx474_0 := hxb HB hx474_0
                 replace hx474_1 := hxb HB hx474_1
                 replace hx474_2 := hxb HB hx474_2
                 replace hx474_3 := hxb HB hx474_3
                 replace hx474_4 := hxb HB hx474_4
                 replace hx474_5 := hxb HB hx474_5
                 replace hx474_6 := hxb HB hx474_6
                 replace hx474_7 := hxb HB hx474_7
                 have HR474_7 := Aside0.mk hi474_7
                 have HC474_7 := Aside0.mk hl474_7
                 clear hi474_7 hl474_7
                 replace p474 := eq_true p474
                 replace q474 := eq_true q474
                 go_wp2
                 go_meet
                 case rel => exact ⟨_, (false), (by first | rfl | (simp; done) | (simp [*]; done)), H', ⟨by have := HK1.out; have := HK2.out; have := HK3.out; first | omega | exact Nat.le_refl _⟩, ⟨by (try simp only [hl3_1]); (try simp only [hl3_2]); (try simp only [hl3_3]); exact Rq HO_3.out⟩, ⟨by (try simp only [hl3_1]); (try simp only [hl3_2]); (try simp only [hl3_3]); exact bkq BK465⟩, ⟨bwq HB⟩⟩
               ·rw [if_neg c21] at H
                exact absurd H (by simp)
              ·rw [if_neg c20] at H
               exact absurd H (by simp)
             case rest =>
              clear HC19
              try clear c1
              try clear c2
              try clear p2
              try clear c3
              try clear c4
              try clear c4b0
              try clear c4b1
              try clear p4
              try clear q4
              try clear hx4
              try clear c5
              try clear c5b0
              try clear c5b1
              try clear c6
              try clear c6b0
              try clear c6b1
              try clear c7
              try clear p7
              try clear q7
              try clear hx7
              try clear qi7
              try clear hf7
              try clear c16
              try clear c17
              try clear c17b0
              try clear c20
              try clear c20b0
              try clear c21
              try clear c21b0
              try clear c22
              try clear c22b0
              try clear c23
              try clear c23b0
              try clear hcz11
              try clear hcz18
              try clear hcz24
              try clear hcz25
              try clear hcz9
              try clear hfz11
              try clear hfz18
              try clear hfz24
              try clear hfz25
              try clear hfz9
              try clear hx474_0
              try clear hx474_1
              try clear hx474_2
              try clear hx474_3
              try clear hx474_4
              try clear hx474_5
              try clear hx474_6
              try clear hx474_7
              try clear hx475_0
              try clear hx7_0
              try clear p2
              try clear p474
              try clear p475
              try clear p7
              try clear q474
              try clear q475
              try clear q7
              obtain ⟨kq, x39_18, rfl, HA, HJ18, HO_3, BK465, HB⟩ := hcut
              cases kq with
              | zero => exact absurd HA.out (by intro h_; first | (cases h_; done) | (simp [spec_FlowReach.j3] at h_))
              | succ kj18 =>
               have H := HA.out
               clear HA
               simp only [spec_FlowReach.j3] at H
               by_cases c26 : x39_18 = true
               ·subst c26
                rw [if_pos rfl] at H
                by_cases c27 : 0 ≤ x5_2
                ·rw [if_pos c27] at H
                 have c27b0 : decide (0 ≤ x5_2) = true := decide_eq_true c27
                 clear c27
                 by_cases c28 : x5_2 < (l0_0.length : Int)
                 ·rw [if_pos c28] at H
                  have c28b0 : decide (x5_2 < (l0_0.length : Int)) = true := decide_eq_true c28
                  clear c28
                  by_cases c29 : 0 ≤ x6_3
                  ·rw [if_pos c29] at H
                   have c29b0 : decide (0 ≤ x6_3) = true := decide_eq_true c29
                   clear c29
                   by_cases c30 : x6_3 < (((rd_T77 l0_0 x5_2).f5).length : Int)
                   ·rw [if_pos c30] at H
                    have c30b0 : decide (x6_3 < (((rd_T77 l0_0 x5_2).f5).length : Int)) = true := decide_eq_true c30
                    clear c30
                    by_cases c31 : 0 ≤ (rd ((rd_T77 l0_0 x5_2).f5) x6_3)
                    ·rw [if_pos c31] at H
                     have c31b0 : decide (0 ≤ (rd ((rd_T77 l0_0 x5_2).f5) x6_3)) = true := decide_eq_true c31
                     clear c31
                     by_cases c32 : (rd ((rd_T77 l0_0 x5_2).f5) x6_3) < (x3_3.length : Int)
                     ·rw [if_pos c32] at H
                      have c32b0 : decide ((rd ((rd_T77 l0_0 x5_2).f5) x6_3) < (x3_3.length : Int)) = true := decide_eq_true c32
                      clear c32
                      obtain ⟨bq33, hbq33⟩ : ∃ b_ : Bool, b_ = (rdOf false x3_3 (rd ((rd_T77 l0_0 x5_2).f5) x6_3)) := ⟨_, rfl⟩
                      replace H : (if (bq33 = true) then (spec_FlowReach.l2 kj18 x3_3 x4_3 x5_2 (wrap64 (x6_3 + 1)) l0_0) else (spec_FlowReach.l2 kj18 (x3_3.set ((rd ((rd_T77 l0_0 x5_2).f5) x6_3) : Int).toNat true) true x5_2 (wrap64 (x6_3 + 1)) l0_0)) = some r := by rw [← hbq33] at H; exact H
                      have Nbq33 := Aside0.mk hbq33
                      clear hbq33
                      by_cases c34 : (bq33 = true)
                      ·subst c34
                       rw [if_pos rfl] at H
                       have H' := Aside0.mk H
                       clear H
                       obtain ⟨hcz35, hfz35⟩ := bcf BK465
                       have p476 : 0 ≤ (x5_2 : Int) := oda
                       have q476 : x5_2 < (l0_0.length : Int) := oda
                       obtain ⟨ad476, A476_7, c476_7, e476, hx476_0, hx476_1, hx476_2, hx476_3, hx476_4, hx476_5, hx476_6, hx476_7, hl476_7, hi476_7⟩ := at_T77 HR0_0.out x5_2 p476 q476
                       cases e476
                       replace hx476_0 := hxb HB hx476_0
                       replace hx476_1 := hxb HB hx476_1
                       replace hx476_2 := hxb HB hx476_2
                       replace hx476_3 := hxb HB hx476_3
                       replace hx476_4 := hxb HB hx476_4
                       replace hx476_5 := hxb HB hx476_5
                       replace hx476_6 := hxb HB hx476_6
                       replace hx476_7 := hxb HB hx476_7
                       have HR476_7 := Aside0.mk hi476_7
                       have HC476_7 := Aside0.mk hl476_7
                       clear hi476_7 hl476_7
                       replace p476 := eq_true p476
                       replace q476 := eq_true q476
                       have p477 : 0 ≤ (x6_3 : Int) := oda
                       have q477 : x6_3 < (((rd_T77 l0_0 x5_2).f5).length : Int) := oda
                       obtain ⟨ad477, e477, hx477_0⟩ := Kd.at_int HR476_7.out x6_3 p477 q477
                       cases e477
                       replace hx477_0 := hxb HB hx477_0
                       replace p477 := eq_true p477
                       replace q477 := eq_true q477
                       have p478 : 0 ≤ ((rd ((rd_T77 l0_0 x5_2).f5) x6_3) : Int) := oda
                       have q478 : (rd ((rd_T77 l0_0 x5_2).f5) x6_3) < (x3_3.length : Int) := oda
                       obtain ⟨ad478, e478, hx478_0⟩ := Kd.at_bool (Kd.R_reads' HO_3.out).2.2 (rd ((rd_T77 l0_0 x5_2).f5) x6_3) p478 q478
                       (try rw [← Nbq33.out] at hx478_0)
                       obtain rfl : (⟨go7, 0, none⟩ : Addr) = ad478 := (by injection e478)
                       (first | simp only [add_plain] at hx478_0 | simp only [add_at] at hx478_0 | simp only [Addr.add, Nat.zero_add] at hx478_0 | skip)
                       replace p478 := eq_true p478
                       replace q478 := eq_true q478
                       go_wp2
                       (try simp only [← hl3_3])
                       go_roundg kj18
                       case measure => have := HK1.out; have := HK2.out; have := HK3.out; have := HJ18.out; omega
                       case rel => exact ⟨(x3_3), (x4_3), (wrap64 (x6_3 + 1)), (by first | rfl | (simp; done) | (simp [*]; done)), (by first | rfl | (simp; done) | (simp [*]; done)), H', ⟨by have := HK1.out; have := HK2.out; have := HK3.out; have := HJ18.out; omega⟩, ⟨by (try simp only [hl3_1]); (try simp only [hl3_2]); (try simp only [hl3_3]); exact Rq HO_3.out⟩, ⟨by (try simp only [hl3_1]); (try simp only [hl3_2]); (try simp only [hl3_3]); exact bkq BK465⟩, ⟨bwq HB⟩⟩
                      ·replace c34 := Bool.eq_false_iff.mpr c34
                       subst c34
                       have H1 : (spec_FlowReach.l2 kj18 (x3_3.set ((rd ((rd_T77 l0_0 x5_2).f5) x6_3) : Int).toNat true) true x5_2 (wrap64 (x6_3 + 1)) l0_0) = some r := by rw [if_neg (show ¬ (false = true) by decide)] at H; exact H
                       clear H
                       have H := H1
                       clear H1
                       obtain ⟨y481, hy481⟩ : ∃ y_ : List Bool, y_ = (x3_3.set ((rd ((rd_T77 l0_0 x5_2).f5) x6_3) : Int).toNat true) := ⟨_, rfl⟩
                       replace H : (spec_FlowReach.l2 kj18 y481 true x5_2 (wrap64 (x6_3 + 1)) l0_0) = some r := by first | (rw [hy481]; with_reducible exact H) | (have H2_ := (Option.bind_some _ _).symm.trans H; rw [hy481]; with_reducible exact H2_) | (have H2_ := (Option.bind_some _ _).symm.trans H; with_reducible exact H2_) | with_reducible exact H | (rw [hy481]; exact H) | exact H
                       have Ny481 := Aside0.mk hy481
                       clear hy481
                       have H' := Aside0.mk H
                       clear H
                       obtain ⟨hcz37, hfz37⟩ := bcf BK465
                       have p476 : 0 ≤ (x5_2 : Int) := oda
                       have q476 : x5_2 < (l0_0.length : Int) := oda
                       obtain ⟨ad476, A476_7, c476_7, e476, hx476_0, hx476_1, hx476_2, hx476_3, hx476_4, hx476_5, hx476_6, hx476_7, hl476_7, hi476_7⟩ := at_T77 HR0_0.out x5_2 p476 q476
                       cases e476
                       replace hx476_0 := hxb HB hx476_0
                       replace hx476_1 := hxb HB hx476_1
                       replace hx476_2 := hxb HB hx476_2
                       replace hx476_3 := hxb HB hx476_3
                       replace hx476_4 := hxb HB hx476_4
                       replace hx476_5 := hxb HB hx476_5
                       replace hx476_6 := hxb HB hx476_6
                       replace hx476_7 := hxb HB hx476_7
                       have HR476_7 := Aside0.mk hi476_7
                       have HC476_7 := Aside0.mk hl476_7
                       clear hi476_7 hl476_7
                       replace p476 := eq_true p476
                       replace q476 := eq_true q476
                       have p477 : 0 ≤ (x6_3 : Int) := oda
                       have q477 : x6_3 < (((rd_T77 l0_0 x5_2).f5).length : Int) := oda
                       obtain ⟨ad477, e477, hx477_0⟩ := Kd.at_int HR476_7.out x6_3 p477 q477
                       cases e477
                       replace hx477_0 := hxb HB hx477_0
                       replace p477 := eq_true p477
                       replace q477 := eq_true q477
                       have p478 : 0 ≤ ((rd ((rd_T77 l0_0 x5_2).f5) x6_3) : Int) := oda
                       have q478 : (rd ((rd_T77 l0_0 x5_2).f5) x6_3) < (x3_3.length : Int) := oda
                       obtain ⟨ad478, e478, hx478_0⟩ := Kd.at_bool (Kd.R_reads' HO_3.out).2.2 (rd ((rd_T77 l0_0 x5_2).f5) x6_3) p478 q478
                       (try rw [← Nbq33.out] at hx478_0)
                       obtain rfl : (⟨go7, 0, none⟩ : Addr) = ad478 := (by injection e478)
                       (first | simp only [add_plain] at hx478_0 | simp only [add_at] at hx478_0 | simp only [Addr.add, Nat.zero_add] at hx478_0 | skip)
                       replace p478 := eq_true p478
                       replace q478 := eq_true q478
                       have p479 : 0 ≤ (x5_2 : Int) := oda
                       have q479 : x5_2 < (l0_0.length : Int) := oda
                       obtain ⟨ad479, A479_7, c479_7, e479, hx479_0, hx479_1, hx479_2, hx479_3, hx479_4, hx479_5, hx479_6, hx479_7, hl479_7, hi479_7⟩ := at_T77 HR0_0.out x5_2 p479 q479
                       obtain rfl : ad476 = ad479 := (by injection e479)
                       replace hx479_0 := hxb HB hx479_0
                       replace hx479_1 := hxb HB hx479_1
                       replace hx479_2 := hxb HB hx479_2
                       replace hx479_3 := hxb HB hx479_3
                       replace hx479_4 := hxb HB hx479_4
                       replace hx479_5 := hxb HB hx479_5
                       replace hx479_6 := hxb HB hx479_6
                       replace hx479_7 := hxb HB hx479_7
                       have HR479_7 := Aside0.mk hi479_7
                       have HC479_7 := Aside0.mk hl479_7
                       clear hi479_7 hl479_7
                       replace p479 := eq_true p479
                       replace q479 := eq_true q479
                       have ea_ := Option.some.inj (hx476_7.symm.trans hx479_7)
                       injection ea_ with ea_ en_ ec_
                       subst ea_
                       subst ec_
                       clear en_
                       have p480 : 0 ≤ (x6_3 : Int) := oda
                       have q480 : x6_3 < (((rd_T77 l0_0 x5_2).f5).length : Int) := oda
                       obtain ⟨ad480, e480, hx480_0⟩ := Kd.at_int HR479_7.out x6_3 p480 q480
                       cases e480
                       replace hx480_0 := hxb HB hx480_0
                       replace p480 := eq_true p480
                       replace q480 := eq_true q480
                       have p36 : 0 ≤ ((rd ((rd_T77 l0_0 x5_2).f5) x6_3) : Int) := oda
                       have q36 : ((rd ((rd_T77 l0_0 x5_2).f5) x6_3) : Int) < ((x3_3.length : Int) : Int) := oda
                       obtain ⟨hx36_0, hf36_0⟩ := Kd.R_celln false HO_3.out ((rd ((rd_T77 l0_0 x5_2).f5) x6_3) : Int) p36 q36
                       replace p36 := eq_true p36
                       replace q36 := eq_true q36
                       have HP38 := Kd.R_putg HO_3.out ((rd ((rd_T77 l0_0 x5_2).f5) x6_3) : Int) true
                       go_wp2_with (first | ((with_reducible refine gate_store (t := 4) (p := 65) rfl ?_); refine store_event (t := 4) (p := 65) (v := ?vo_w39) (w1 := (wc.setCell ⟨go7, ((rd ((rd_T77 l0_0 x5_2).f5) x6_3) : Int).toNat, none⟩ (.bool true))) ?hg ?ho ?hn ?hr ?_; (case ho => rfl); (case hg => rfl); (case hn => rfl); (case hr => first | (go_simp; done) | (go_simp; rfl) | (go_simp; rfl)); intro w39 hw; have hg : wc.grownBy w39 (some go7) := (by rw [hw]; exact HP38.2); have hp_ : Kd.R Kd.bool 4 w39 w.heap.size (fun _ => True) (.slice (some ⟨go7, 0, none⟩) x3_3.length co7) y481 := (by rw [hw, Ny481.out]; exact HP38.1); clear HP38; replace BK465 := Aside0.mk (blk_grown (g := gb465) (o := .cells #[.slice (some ad476) l0_0.length c0_0] 38 (0, 0)) (bkq BK465) hg (Kd.R_ne HO_3.out BK465.out (by decide))); replace HO_3 := Aside0.mk (hp_); replace HB := Aside0.mk ((by rw [hw]; exact below_set (HB.out) GB7.out : Below w.heap.size w w39)); clear hg hw hp_))
                       (try simp only [← hl3_3])
                       go_roundg kj18
                       case measure => have := HK1.out; have := HK2.out; have := HK3.out; have := HJ18.out; omega
                       case rel => exact ⟨(y481), (true), (wrap64 (x6_3 + 1)), (by first | rfl | (simp; done) | (simp [*]; done)), (by first | rfl | (simp; done) | (simp [*]; done)), H', ⟨by have := HK1.out; have := HK2.out; have := HK3.out; have := HJ18.out; omega⟩, ⟨by (try simp only [hl3_1]); (try simp only [hl3_2]); (try simp only [hl3_3]); exact Rq HO_3.out⟩, ⟨by (try simp only [hl3_1]); (try simp only [hl3_2]); (try simp only [hl3_3]); exact bkq BK465⟩, ⟨bwq HB⟩⟩
                     ·rw [if_neg c32] at H
                      exact absurd H (by simp)
                    ·rw [if_neg c31] at H
                     exact absurd H (by simp)
                   ·rw [if_neg c30] at H
                    exact absurd H (by simp)
                  ·rw [if_neg c29] at H
                   exact absurd H (by simp)
                 ·rw [if_neg c28] at H
                  exact absurd H (by simp)
                ·rw [if_neg c27] at H
                 exact absurd H (by simp)
               ·replace c26 := Bool.eq_false_iff.mpr c26
                subst c26
                have H1 : (spec_FlowReach.l1 kj18 x3_3 x4_3 (wrap64 (x5_2 + 1)) l0_0) = some r := by rw [if_neg (show ¬ (false = true) by decide)] at H; exact H
                clear H
                have H := H1
                clear H1
                have H' := Aside0.mk H
                clear H
                go_wp2
                (try simp only [← hl3_2, ← hl3_3])
                go_roundg kj18
                case measure => have := HK1.out; have := HK2.out; have := HK3.out; have := HJ18.out; omega
                case rel => exact ⟨(x3_3), (x4_3), (wrap64 (x5_2 + 1)), (by first | rfl | (simp; done) | (simp [*]; done)), (by first | rfl | (simp; done) | (simp [*]; done)), H', ⟨by have := HK1.out; have := HK2.out; have := HK3.out; have := HJ18.out; omega⟩, ⟨by (try simp only [hl3_1]); (try simp only [hl3_2]); (try simp only [hl3_3]); exact Rq HO_3.out⟩, ⟨by (try simp only [hl3_1]); (try simp only [hl3_2]); (try simp only [hl3_3]); exact bkq BK465⟩, ⟨bwq HB⟩⟩
          ·rw [if_neg c17] at H
           have c17b0 : decide (x5_2 < (l0_0.length : Int)) = false := decide_eq_false c17
           clear c17
           have H' := Aside0.mk H
           clear H
           obtain ⟨hcz40, hfz40⟩ := bcf BK465
           go_wp2
           (try simp only [← hl3_1, ← hl3_2])
           go_roundg k2
           case measure => have := HK1.out; have := HK2.out; omega
           case rel => exact ⟨(x3_2), (x4_2), (by first | rfl | (simp; done) | (simp [*]; done)), H', ⟨by have := HK1.out; have := HK2.out; omega⟩, ⟨by (try simp only [hl3_1]); (try simp only [hl3_2]); exact Rq HO_3.out⟩, ⟨by (try simp only [hl3_1]); (try simp only [hl3_2]); exact bkq BK465⟩, ⟨bwq HB⟩⟩
       ·replace c16 := Bool.eq_false_iff.mpr c16
        subst c16
        have H1 : (some x3_1) = some r := by rw [if_neg (show ¬ (false = true) by decide)] at H; exact H
        clear H
        have H := H1
        clear H1
        obtain rfl := Option.some.inj H
        go_wp2
        go_ret
        exact ⟨_, by first | rfl | (simp [errW_none, errW_some] <;> rfl) | (simp [*, errW_none, errW_some] <;> rfl), Rq HO_3.out, bwq HB⟩
    ·rw [if_neg c6] at H
     exact absurd H (by simp)
   ·rw [if_neg c5] at H
    exact absurd H (by simp)
  ·rw [if_neg c4] at H
   exact absurd H (by simp)
 ·replace c3 := Bool.eq_false_iff.mpr c3
  subst c3
  have H1 : (some (([] : List Bool))) = some r := by rw [if_neg (show ¬ (false = true) by decide)] at H; exact H
  clear H
  have H := H1
  clear H1
  obtain ⟨y467, hy467⟩ : ∃ y_ : List Bool, y_ = (([] : List Bool)) := ⟨_, rfl⟩
  replace H : (some y467) = some r := by first | (rw [hy467]; with_reducible exact H) | (have H2_ := (Option.bind_some _ _).symm.trans H; rw [hy467]; with_reducible exact H2_) | (have H2_ := (Option.bind_some _ _).symm.trans H; with_reducible exact H2_) | with_reducible exact H | (rw [hy467]; exact H) | exact H
  have Ny467 := Aside0.mk hy467
  clear hy467
  obtain rfl := Option.some.inj H
  go_enter Try.func65, Try.ntmps65
  go_wp2_with (first | ((with_reducible refine gate_dst (N := 1) rfl ?_); refine bxe (cs := #[.slice A0_0 l0_0.length c0_0]) (t := 38) ?_; intro gb465 hg w41 hbox hb; have BK465 := Aside0.mk (hbox); have GW465 := bwz HB hg; have GE465 := bwz HB hg; replace HB := bwb HB hb; clear hb hbox hg; obtain ⟨hcz42, hfz42⟩ := bcf BK465) | ((with_reducible refine gate_callee (f := 76) rfl ?_); refine goesM (some 8) rfl rfl Try.func76 #[.agg #[.slice A0_0 l0_0.length c0_0]] rfl ?_; (with_reducible refine (spec_ProgOk.calls k _ _ l0_0 false _ ?side1 ?side2 A2.out).mono ?_); (case side1 => exact Cq (Kd.C_below HR0_0.out HB.out)); (case side2 => exact HC0_0.out); rintro e w43 ⟨rfl, hb⟩; refine ⟨_, rfl, ?_⟩; replace BK465 := bkb BK465 hb; replace HB := bwb HB hb; (try clear hb); (try clear hb2); (try clear hk); (try clear hi)) | ((with_reducible refine gate_dst (N := 10) rfl ?_); refine Kd.R_lit Kd.bool _ 4 ?hg (N := 10) ?hd (xs := ([] : List Bool)) (inner := []) (ok := fun _ => True) (okp := fun _ => True) ?hr ?hp (fun _ hk => hk) trivial (Below.refl _ _) (Nat.le_refl _) (by simp) ?_; (case hd => rfl); (case hg => rfl); (case hr => first | (go_simp; done) | (go_simp; rfl) | (go_simp; rfl)); (case hp => exact (Reps.none _ _)); intro v468 w44 ho45 hb hg_ hnew_; clear hg_ hnew_; (first | rw [← Ny467.out] at ho45 | (simp only [Int.reduceToNat] at ho45; rw [← Ny467.out] at ho45)); have HO469 := Aside0.mk (Kd.R_lower ho45 (below_size (bwq HB))); replace BK465 := bkb BK465 hb; replace HB := bwb HB hb; clear hb ho45))
  go_ret
  exact ⟨_, by first | rfl | (simp [errW_none, errW_some] <;> rfl) | (simp [*, errW_none, errW_some] <;> rfl), Rq HO469.out, bwq HB⟩
mutual
def spec_FlowPreds.l0 : Nat → List (List Int) → List Bool → Int → List (S77) → Option ((List (List Int)))
 | 0, _, _, _, _ => none
 | k + 1, x3, x4, x5, x536000 => if x5 < (x536000.length : Int) then (spec_FlowPreds.l1 k x3 x4 x5 (([] : List Int)) 0 x536000) else (some x3)
def spec_FlowPreds.l1 : Nat → List (List Int) → List Bool → Int → List Int → Int → List (S77) → Option ((List (List Int)))
 | 0, _, _, _, _, _, _ => none
 | k + 1, x3, x4, x5, x6, x7, x536000 => if x7 < (x536000.length : Int) then (if 0 ≤ x7 then (if x7 < (x4.length : Int) then (if rdOf false x4 x7 = true then ((spec_l2Goes.f k ((rd_T77 x536000 x7).f0) ((rd_T77 x536000 x7).f1) ((rd_T77 x536000 x7).f2) ((rd_T77 x536000 x7).f3.f0) ((rd_T77 x536000 x7).f3.f1) ((rd_T77 x536000 x7).f4.f0) ((rd_T77 x536000 x7).f4.f1) ((rd_T77 x536000 x7).f5) x5).bind fun t548 => (if t548 = true then (if x6.length < 17592186044416 then (spec_FlowPreds.l1 k x3 x4 x5 (x6 ++ [x7]) (wrap64 (x7 + 1)) x536000) else (none)) else (spec_FlowPreds.l1 k x3 x4 x5 x6 (wrap64 (x7 + 1)) x536000))) else (spec_FlowPreds.l1 k x3 x4 x5 x6 (wrap64 (x7 + 1)) x536000)) else (none)) else (none)) else (if x3.length < 5864062014805 then (spec_FlowPreds.l0 k (x3 ++ [x6]) x4 (wrap64 (x5 + 1)) x536000) else (none))
end
def spec_FlowPreds.f (k : Nat) (l0_0 : List (S77)) : Option ((List (List Int))) := (some (([] : List (List Int)) : List (List Int))).bind fun y536 => ((spec_ProgOk.f k l0_0).bind fun t539 => (if t539 = true then ((spec_FlowReach.f k l0_0).bind fun t540 => (spec_FlowPreds.l0 k y536 t540 0 l0_0)) else (some y536)))
theorem spec_FlowPreds.calls (k : Nat) (A0_0 : Option Addr) (c0_0 : Nat) (l0_0 : List (S77)) (r : List (List Int)) (w : World) (hr0_0 : Kd.C k77 w A0_0 l0_0.length l0_0) (hc0_0 : l0_0.length ≤ c0_0) (h : spec_FlowPreds.f k l0_0 = some r) :
  Calls Try.prog 94 #[.agg #[.slice A0_0 l0_0.length c0_0]] w fun e w' => ∃ v0_ : Value, e = .returned (v0_) ∧ Kd.S (Kd.slice 3 (Kd.int .i64)) 32 w' w.heap.size (fun _ => True) v0_ r ∧ Below w.heap.size w w' := by
 have hu38 := Try.underlying38
 have hu77 := Try.underlying77
 have HR0_0 := Aside0.mk hr0_0
 have HC0_0 := Aside0.mk hc0_0
 clear hr0_0 hc0_0
 have HB := Aside0.mk (Below.refl w.heap.size w)
 have H : ((some (([] : List (List Int)) : List (List Int))).bind fun y536 => ((spec_ProgOk.f k l0_0).bind fun t539 => (if t539 = true then ((spec_FlowReach.f k l0_0).bind fun t540 => (spec_FlowPreds.l0 k y536 t540 0 l0_0)) else (some y536)))) = some r := h
 clear h
 obtain ⟨y536, hy536⟩ : ∃ y_ : List (List Int), y_ = (([] : List (List Int))) := ⟨_, rfl⟩
 replace H : ((spec_ProgOk.f k l0_0).bind fun t539 => (if t539 = true then ((spec_FlowReach.f k l0_0).bind fun t540 => (spec_FlowPreds.l0 k y536 t540 0 l0_0)) else (some y536))) = some r := by first | (rw [hy536]; with_reducible exact H) | (have H2_ := (Option.bind_some _ _).symm.trans H; rw [hy536]; with_reducible exact H2_) | (have H2_ := (Option.bind_some _ _).symm.trans H; with_reducible exact H2_) | with_reducible exact H | (rw [hy536]; exact H) | exact H
 have Ny536 := Aside0.mk hy536
 clear hy536
 replace H := Option.bind_eq_some_iff.mp H
 obtain ⟨t539, A20, H⟩ := H
 have A2 := Aside0.mk A20
 clear A20
 by_cases c3 : t539 = true
 ·subst c3
  rw [if_pos rfl] at H
  replace H := Option.bind_eq_some_iff.mp H
  obtain ⟨t540, A40, H⟩ := H
  have A4 := Aside0.mk A40
  clear A40
  have H' := Aside0.mk H
  clear H
  go_enter Try.func94, Try.ntmps94
  go_wp2_with (first | ((with_reducible refine gate_dst (N := 1) rfl ?_); refine bxe (cs := #[.slice A0_0 l0_0.length c0_0]) (t := 38) ?_; intro gb535 hg w5 hbox hb; have BK535 := Aside0.mk (hbox); have GW535 := bwz HB hg; have GE535 := bwz HB hg; replace HB := bwb HB hb; clear hb hbox hg) | ((with_reducible refine gate_dst (N := 8) rfl ?_); refine Kd.S_lit (Kd.slice 3 (Kd.int .i64)) _ 32 ?hg (N := 8) ?hd (xs := ([] : List (List Int))) (inner := []) (ok := fun _ => True) (okp := fun _ => True) ?hr ?hp (fun _ hk => hk) trivial (Below.refl _ _) (Nat.le_refl _) (by simp) ?_; (case hd => rfl); (case hg => rfl); (case hr => first | (go_simp; done) | (go_simp; rfl) | (go_simp; rfl)); (case hp => exact (Reps.none _ _)); intro v537 w6 ho7 hb hg_ hnew_; clear hg_ hnew_; (first | rw [← Ny536.out] at ho7 | (simp only [Int.reduceToNat] at ho7; rw [← Ny536.out] at ho7)); have HO538 := Aside0.mk (Kd.S_lower ho7 (below_size (bwq HB))); replace BK535 := bkb BK535 hb; replace HB := bwb HB hb; clear hb ho7; obtain ⟨hcz8, hfz8⟩ := bcf BK535) | ((with_reducible refine gate_callee (f := 76) rfl ?_); refine goesM (some 10) rfl rfl Try.func76 #[.agg #[.slice A0_0 l0_0.length c0_0]] rfl ?_; (with_reducible refine (spec_ProgOk.calls k _ _ l0_0 true _ ?side1 ?side2 A2.out).mono ?_); (case side1 => exact Cq (Kd.C_below HR0_0.out HB.out)); (case side2 => exact HC0_0.out); rintro e w9 ⟨rfl, hb⟩; refine ⟨_, rfl, ?_⟩; replace HO538 := Aside0.mk (Kd.S_below (Sq HO538.out) hb); replace BK535 := bkb BK535 hb; replace HB := bwb HB hb; (try clear hb); (try clear hb2); (try clear hk); (try clear hi); obtain ⟨hcz10, hfz10⟩ := bcf BK535) | ((with_reducible refine gate_callee (f := 65) rfl ?_); refine goesM (some 14) rfl rfl Try.func65 #[.agg #[.slice A0_0 l0_0.length c0_0]] rfl ?_; (with_reducible refine (spec_FlowReach.calls k _ _ l0_0 t540 _ ?side1 ?side2 A4.out).mono ?_); (case side1 => exact Cq (Kd.C_below HR0_0.out HB.out)); (case side2 => exact HC0_0.out); rintro e w11 ⟨v541, rfl, ho0, hb⟩; refine ⟨_, rfl, ?_⟩; replace HO538 := Aside0.mk (Kd.S_below (Sq HO538.out) hb); have HO542 := Aside0.mk (Kd.R_lower ho0 (below_size (bwq HB))); replace BK535 := bkb BK535 hb; replace HB := bwb HB hb; (try clear hb); (try clear hb2); (try clear hk); (try clear hi); (try clear ho0)))
  go_loopg [3, 5] k (fun kq v3 v5 w' => ∃ (x3_1 : List (List Int)) (x5_1 : Int), v5 = .int .i64 x5_1 ∧ Aside0 (spec_FlowPreds.l0 kq x3_1 t540 x5_1 l0_0 = some r) ∧ Aside0 (kq ≤ k) ∧ Aside0 (Kd.S (Kd.slice 3 (Kd.int .i64)) 32 w' w.heap.size (fun _ => True) v3 x3_1) ∧ Aside0 (Kd.R Kd.bool 4 w' w.heap.size (fun _ => True) v541 t540) ∧ Aside0 (w'.heap[gb535]? = some (.cells #[(.slice A0_0 l0_0.length c0_0)] 38 (0, 0))) ∧ Aside0 (Below w.heap.size w w'))
  case atStart => exact ⟨(y536), (0), (by first | rfl | (simp; done) | (simp [*]; done)), H', ⟨Nat.le_refl _⟩, ⟨Sq HO538.out⟩, ⟨Rq HO542.out⟩, ⟨bkq BK535⟩, ⟨bwq HB⟩⟩
  case round =>
   clear H'
   try clear p2
   try clear c3
   try clear c6
   try clear c7
   try clear c9
   try clear hcz10
   try clear hcz8
   try clear hfz10
   try clear hfz8
   obtain ⟨x3_1, x5_1, rfl, HA, HK1, HO_3, HO_4, BK535, HB⟩ := hrel
   cases gk with
   | zero => exact absurd HA.out (by intro h_; first | (cases h_; done) | (simp [spec_FlowPreds.l0] at h_))
   | succ k1 =>
    have H := HA.out
    clear HA
    simp only [spec_FlowPreds.l0] at H
    by_cases c12 : x5_1 < (l0_0.length : Int)
    ·rw [if_pos c12] at H
     have c12b0 : decide (x5_1 < (l0_0.length : Int)) = true := decide_eq_true c12
     clear c12
     obtain ⟨y543, hy543⟩ : ∃ y_ : List Int, y_ = (([] : List Int)) := ⟨_, rfl⟩
     replace H : (spec_FlowPreds.l1 k1 x3_1 t540 x5_1 y543 0 l0_0) = some r := by first | (rw [hy543]; with_reducible exact H) | (have H2_ := (Option.bind_some _ _).symm.trans H; rw [hy543]; with_reducible exact H2_) | (have H2_ := (Option.bind_some _ _).symm.trans H; with_reducible exact H2_) | with_reducible exact H | (rw [hy543]; exact H) | exact H
     have Ny543 := Aside0.mk hy543
     clear hy543
     have H' := Aside0.mk H
     clear H
     obtain ⟨hcz13, hfz13⟩ := bcf BK535
     go_wp2_with (first | ((with_reducible refine gate_dst (N := 22) rfl ?_); refine Kd.R_lit (Kd.int .i64) _ 3 ?hg (N := 22) ?hd (xs := ([] : List Int)) (inner := []) (ok := fun _ => True) (okp := fun _ => True) ?hr ?hp (fun _ hk => hk) trivial (Below.refl _ _) (Nat.le_refl _) (by simp) ?_; (case hd => rfl); (case hg => rfl); (case hr => first | (go_simp; done) | (go_simp; rfl) | (go_simp; rfl)); (case hp => exact (Reps.none _ _)); intro v544 w14 ho15 hb hg_ hnew_; clear hg_ hnew_; (first | rw [← Ny543.out] at ho15 | (simp only [Int.reduceToNat] at ho15; rw [← Ny543.out] at ho15)); replace HO_3 := Aside0.mk (Kd.S_elder' (Sq HO_3.out) (Kd.R_base ho15) hb); replace HO_4 := Aside0.mk (Kd.R_below (Rq HO_4.out) hb); have HO545 := Aside0.mk (Kd.R_lower ho15 (below_size (bwq HB))); replace BK535 := bkb BK535 hb; replace HB := bwb HB hb; clear hb ho15))
     go_loopg [6, 7] k1 (fun kq v6 v7 w' => ∃ (x6_2 : List Int) (x7_2 : Int), v7 = .int .i64 x7_2 ∧ Aside0 (spec_FlowPreds.l1 kq x3_1 t540 x5_1 x6_2 x7_2 l0_0 = some r) ∧ Aside0 (kq ≤ k1) ∧ Aside0 (Kd.S (Kd.slice 3 (Kd.int .i64)) 32 w' w.heap.size (fun k_ => some k_ ≠ (v6 : Value).ownBlock) u3 x3_1) ∧ Aside0 (Kd.R Kd.bool 4 w' w.heap.size (fun _ => True) v541 t540) ∧ Aside0 (Kd.R (Kd.int .i64) 3 w' w.heap.size (fun _ => True) v6 x6_2) ∧ Aside0 (w'.heap[gb535]? = some (.cells #[(.slice A0_0 l0_0.length c0_0)] 38 (0, 0))) ∧ Aside0 (Below w.heap.size w w'))
     case atStart => exact ⟨(y543), (0), (by first | rfl | (simp; done) | (simp [*]; done)), H', ⟨Nat.le_refl _⟩, ⟨by (with_reducible repeat (first | apply Kd.S_alloc | apply Kd.S_drewN | apply Kd.S_drew)); exact Kd.S_mono HO_3.out (fun _ hk => hk.2)⟩, ⟨Rq HO_4.out⟩, ⟨Rq HO545.out⟩, ⟨bkq BK535⟩, ⟨bwq HB⟩⟩
     case round =>
      clear H'
      try clear c1
      try clear p2
      try clear c3
      try clear c6
      try clear c7
      try clear c9
      try clear c12
      try clear c12b0
      try clear hcz10
      try clear hcz13
      try clear hcz8
      try clear hfz10
      try clear hfz13
      try clear hfz8
      try clear p2
      obtain ⟨x6_2, x7_2, rfl, HA, HK2, HO_3, HO_4, HO_6, BK535, HB⟩ := hrel
      cases gk with
      | zero => exact absurd HA.out (by intro h_; first | (cases h_; done) | (simp [spec_FlowPreds.l1] at h_))
      | succ k2 =>
       have H := HA.out
       clear HA
       simp only [spec_FlowPreds.l1] at H
       by_cases c16 : x7_2 < (l0_0.length : Int)
       ·rw [if_pos c16] at H
        have c16b0 : decide (x7_2 < (l0_0.length : Int)) = true := decide_eq_true c16
        clear c16
        by_cases c17 : 0 ≤ x7_2
        ·rw [if_pos c17] at H
         have c17b0 : decide (0 ≤ x7_2) = true := decide_eq_true c17
         clear c17
         by_cases c18 : x7_2 < (t540.length : Int)
         ·rw [if_pos c18] at H
          have c18b0 : decide (x7_2 < (t540.length : Int)) = true := decide_eq_true c18
          clear c18
          obtain ⟨bq19, hbq19⟩ : ∃ b_ : Bool, b_ = (rdOf false t540 x7_2) := ⟨_, rfl⟩
          replace H : (if bq19 = true then ((spec_l2Goes.f k2 ((rd_T77 l0_0 x7_2).f0) ((rd_T77 l0_0 x7_2).f1) ((rd_T77 l0_0 x7_2).f2) ((rd_T77 l0_0 x7_2).f3.f0) ((rd_T77 l0_0 x7_2).f3.f1) ((rd_T77 l0_0 x7_2).f4.f0) ((rd_T77 l0_0 x7_2).f4.f1) ((rd_T77 l0_0 x7_2).f5) x5_1).bind fun t548 => (if t548 = true then (if x6_2.length < 17592186044416 then (spec_FlowPreds.l1 k2 x3_1 t540 x5_1 (x6_2 ++ [x7_2]) (wrap64 (x7_2 + 1)) l0_0) else (none)) else (spec_FlowPreds.l1 k2 x3_1 t540 x5_1 x6_2 (wrap64 (x7_2 + 1)) l0_0))) else (spec_FlowPreds.l1 k2 x3_1 t540 x5_1 x6_2 (wrap64 (x7_2 + 1)) l0_0)) = some r := by rw [← hbq19] at H; exact H
          have Nbq19 := Aside0.mk hbq19
          clear hbq19
          by_cases c20 : bq19 = true
          ·subst c20
           rw [if_pos rfl] at H
           replace H := Option.bind_eq_some_iff.mp H
           obtain ⟨t548, A210, H⟩ := H
           have A21 := Aside0.mk A210
           clear A210
           by_cases c22 : t548 = true
           ·subst c22
            rw [if_pos rfl] at H
            by_cases c23 : x6_2.length < 17592186044416
            ·rw [if_pos c23] at H
             have LMc23 := Aside0.mk c23
             clear c23
             obtain ⟨y549, hy549⟩ : ∃ y_ : List Int, y_ = (x6_2 ++ [x7_2]) := ⟨_, rfl⟩
             replace H : (spec_FlowPreds.l1 k2 x3_1 t540 x5_1 y549 (wrap64 (x7_2 + 1)) l0_0) = some r := by first | (rw [hy549]; with_reducible exact H) | (have H2_ := (Option.bind_some _ _).symm.trans H; rw [hy549]; with_reducible exact H2_) | (have H2_ := (Option.bind_some _ _).symm.trans H; with_reducible exact H2_) | with_reducible exact H | (rw [hy549]; exact H) | exact H
             have Ny549 := Aside0.mk hy549
             clear hy549
             have H' := Aside0.mk H
             clear H
             obtain ⟨hcz24, hfz24⟩ := bcf BK535
             obtain ⟨Ao25, co25, eo25⟩ := Kd.R_slice HO_4.out
             subst eo25
             have p546 : 0 ≤ (x7_2 : Int) := oda
             have q546 : x7_2 < (t540.length : Int) := oda
             obtain ⟨ad546, e546, hx546_0⟩ := Kd.at_bool (Kd.R_reads' HO_4.out).2.2 x7_2 p546 q546
             (try rw [← Nbq19.out] at hx546_0)
             cases e546
             replace p546 := eq_true p546
             replace q546 := eq_true q546
             have p547 : 0 ≤ (x7_2 : Int) := oda
             have q547 : x7_2 < (l0_0.length : Int) := oda
             obtain ⟨ad547, A547_7, c547_7, e547, hx547_0, hx547_1, hx547_2, hx547_3, hx547_4, hx547_5, hx547_6, hx547_7, hl547_7, hi547_7⟩ := at_T77 HR0_0.out x7_2 p547 q547
             cases e547
             replace hx547_0 := hxb HB hx547_0
             replace hx547_1 := hxb HB hx547_1
             replace hx547_2 := hxb HB hx547_2
             replace hx547_3 := hxb HB hx547_3
             replace hx547_4 := hxb HB hx547_4
             replace hx547_5 := hxb HB hx547_5
             replace hx547_6 := hxb HB hx547_6
             replace hx547_7 := hxb HB hx547_7
             have HR547_7 := Aside0.mk hi547_7
             have HC547_7 := Aside0.mk hl547_7
             clear hi547_7 hl547_7
             replace p547 := eq_true p547
             replace q547 := eq_true q547
             go_wp2_with (first | (go_at_call 78; (with_reducible refine (spec_l2Goes.calls k2 ((rd_T77 l0_0 x7_2).f0) ((rd_T77 l0_0 x7_2).f1) ((rd_T77 l0_0 x7_2).f2) ((rd_T77 l0_0 x7_2).f3.f0) ((rd_T77 l0_0 x7_2).f3.f1) ((rd_T77 l0_0 x7_2).f4.f0) ((rd_T77 l0_0 x7_2).f4.f1) _ _ ((rd_T77 l0_0 x7_2).f5) x5_1 true _ ?side1 ?side2 A21.out).mono ?_); (case side1 => exact Cq (Kd.C_below HR547_7.out HB.out)); (case side2 => exact HC547_7.out); rintro e w26 ⟨rfl, hb⟩; replace HO_3 := Aside0.mk (Kd.S_below (Sq HO_3.out) hb); replace HO_4 := Aside0.mk (Kd.R_below (Rq HO_4.out) hb); replace HO_6 := Aside0.mk (Kd.R_below (Rq HO_6.out) hb); replace BK535 := bkb BK535 hb; replace HB := bwb HB hb; (try clear hb); (try clear hb2); (try clear hk); (try clear hi)) | ((with_reducible refine gate_builtin (b := .append) (xs := #[.tmp 43, .tmp 45]) rfl ?_); at_builtin; refine Kd.R_append (Kd.int .i64) (w0 := w) w.heap.size rfl (.tmp 43) (.tmp 45) 32 3 (.int .i64 0) 8 rfl Try.underlying32 info3 rfl (by decide) (by omega) u6 x6_2 x7_2 [.int .i64 x7_2] (fun _ => True) (fun _ => False) rfl rfl ?aP (fun _ hk => hk.elim) ?aF ?aO ?aB ?aS ?aL ?_; (case aP => exact rfl); (case aB => exact (bwq HB)); (case aF => exact (fun _ _ => trivial)); (case aO => exact (Rq HO_6.out)); (case aS => exact (below_size (bwq HB))); (case aL => have := LMc23.out; omega); intro v550 w27 ho hb hg hat; rw [← Ny549.out] at ho; have n0_ := Aside0.mk (Kd.S_after (ok := (fun _ => True)) (by (with_reducible repeat (first | apply Kd.S_alloc | apply Kd.S_drewN | apply Kd.S_drew)); exact Kd.S_mono HO_3.out (fun _ hk => ⟨trivial, hk⟩)) hg hat); have n1_ := Aside0.mk (Kd.R_over' (Rq HO_4.out) (Kd.R_typed (Rq HO_6.out)) (by decide) hg); have n2_ := Aside0.mk (blk_grown (g := gb535) (o := .cells #[.slice (some ad547) l0_0.length c0_0] 38 (0, 0)) (bkq BK535) hg (Kd.R_ne HO_6.out BK535.out (by decide))); have n3_ := Aside0.mk (hb); have n4_ := Aside0.mk (ho); clear HO_3; clear HO_4; clear BK535; clear HB; clear HO_6; have HO_3 := n0_; have HO_4 := n1_; have BK535 := n2_; have HB := n3_; have HO551 := n4_; clear n0_ n1_ n2_ n3_ n4_; clear ho hb hg hat))
             go_roundg k2
             case measure => have := HK1.out; have := HK2.out; omega
             case rel => exact ⟨(y549), (wrap64 (x7_2 + 1)), (by first | rfl | (simp; done) | (simp [*]; done)), H', ⟨by have := HK1.out; have := HK2.out; omega⟩, ⟨by (with_reducible repeat (first | apply Kd.S_alloc | apply Kd.S_drewN | apply Kd.S_drew)); exact Kd.S_mono HO_3.out (fun _ hk => hk.2)⟩, ⟨Rq HO_4.out⟩, ⟨Rq HO551.out⟩, ⟨bkq BK535⟩, ⟨bwq HB⟩⟩
            ·rw [if_neg c23] at H
             exact absurd H (by simp)
           ·replace c22 := Bool.eq_false_iff.mpr c22
            subst c22
            have H1 : (spec_FlowPreds.l1 k2 x3_1 t540 x5_1 x6_2 (wrap64 (x7_2 + 1)) l0_0) = some r := by rw [if_neg (show ¬ (false = true) by decide)] at H; exact H
            clear H
            have H := H1
            clear H1
            have H' := Aside0.mk H
            clear H
            obtain ⟨hcz28, hfz28⟩ := bcf BK535
            obtain ⟨Ao29, co29, eo29⟩ := Kd.R_slice HO_4.out
            subst eo29
            have p546 : 0 ≤ (x7_2 : Int) := oda
            have q546 : x7_2 < (t540.length : Int) := oda
            obtain ⟨ad546, e546, hx546_0⟩ := Kd.at_bool (Kd.R_reads' HO_4.out).2.2 x7_2 p546 q546
            (try rw [← Nbq19.out] at hx546_0)
            cases e546
            replace p546 := eq_true p546
            replace q546 := eq_true q546
            have p547 : 0 ≤ (x7_2 : Int) := oda
            have q547 : x7_2 < (l0_0.length : Int) := oda
            obtain ⟨ad547, A547_7, c547_7, e547, hx547_0, hx547_1, hx547_2, hx547_3, hx547_4, hx547_5, hx547_6, hx547_7, hl547_7, hi547_7⟩ := at_T77 HR0_0.out x7_2 p547 q547
            cases e547
            replace hx547_0 := hxb HB hx547_0
            replace hx547_1 := hxb HB hx547_1
            replace hx547_2 := hxb HB hx547_2
            replace hx547_3 := hxb HB hx547_3
            replace hx547_4 := hxb HB hx547_4
            replace hx547_5 := hxb HB hx547_5
            replace hx547_6 := hxb HB hx547_6
            replace hx547_7 := hxb HB hx547_7
            have HR547_7 := Aside0.mk hi547_7
            have HC547_7 := Aside0.mk hl547_7
            clear hi547_7 hl547_7
            replace p547 := eq_true p547
            replace q547 := eq_true q547
            go_wp2_with (first | (go_at_call 78; (with_reducible refine (spec_l2Goes.calls k2 ((rd_T77 l0_0 x7_2).f0) ((rd_T77 l0_0 x7_2).f1) ((rd_T77 l0_0 x7_2).f2) ((rd_T77 l0_0 x7_2).f3.f0) ((rd_T77 l0_0 x7_2).f3.f1) ((rd_T77 l0_0 x7_2).f4.f0) ((rd_T77 l0_0 x7_2).f4.f1) _ _ ((rd_T77 l0_0 x7_2).f5) x5_1 false _ ?side1 ?side2 A21.out).mono ?_); (case side1 => exact Cq (Kd.C_below HR547_7.out HB.out)); (case side2 => exact HC547_7.out); rintro e w30 ⟨rfl, hb⟩; replace HO_3 := Aside0.mk (Kd.S_below (Sq HO_3.out) hb); replace HO_4 := Aside0.mk (Kd.R_below (Rq HO_4.out) hb); replace HO_6 := Aside0.mk (Kd.R_below (Rq HO_6.out) hb); replace BK535 := bkb BK535 hb; replace HB := bwb HB hb; (try clear hb); (try clear hb2); (try clear hk); (try clear hi)))
            go_roundg k2
            case measure => have := HK1.out; have := HK2.out; omega
            case rel => exact ⟨(x6_2), (wrap64 (x7_2 + 1)), (by first | rfl | (simp; done) | (simp [*]; done)), H', ⟨by have := HK1.out; have := HK2.out; omega⟩, ⟨Sq HO_3.out⟩, ⟨Rq HO_4.out⟩, ⟨Rq HO_6.out⟩, ⟨bkq BK535⟩, ⟨bwq HB⟩⟩
          ·replace c20 := Bool.eq_false_iff.mpr c20
           subst c20
           have H1 : (spec_FlowPreds.l1 k2 x3_1 t540 x5_1 x6_2 (wrap64 (x7_2 + 1)) l0_0) = some r := by rw [if_neg (show ¬ (false = true) by decide)] at H; exact H
           clear H
           have H := H1
           clear H1
           have H' := Aside0.mk H
           clear H
           obtain ⟨hcz31, hfz31⟩ := bcf BK535
           obtain ⟨Ao32, co32, eo32⟩ := Kd.R_slice HO_4.out
           subst eo32
           have p546 : 0 ≤ (x7_2 : Int) := oda
           have q546 : x7_2 < (t540.length : Int) := oda
           obtain ⟨ad546, e546, hx546_0⟩ := Kd.at_bool (Kd.R_reads' HO_4.out).2.2 x7_2 p546 q546
           (try rw [← Nbq19.out] at hx546_0)
           cases e546
           replace p546 := eq_true p546
           replace q546 := eq_true q546
           go_wp2
           go_roundg k2
           case measure => have := HK1.out; have := HK2.out; omega
           case rel => exact ⟨(x6_2), (wrap64 (x7_2 + 1)), (by first | rfl | (simp; done) | (simp [*]; done)), H', ⟨by have := HK1.out; have := HK2.out; omega⟩, ⟨Sq HO_3.out⟩, ⟨Rq HO_4.out⟩, ⟨Rq HO_6.out⟩, ⟨bkq BK535⟩, ⟨bwq HB⟩⟩
         ·rw [if_neg c18] at H
          exact absurd H (by simp)
        ·rw [if_neg c17] at H
         exact absurd H (by simp)
       ·rw [if_neg c16] at H
        have c16b0 : decide (x7_2 < (l0_0.length : Int)) = false := decide_eq_false c16
        clear c16
        by_cases c33 : x3_1.length < 5864062014805
        ·rw [if_pos c33] at H
         have LMc33 := Aside0.mk c33
         clear c33
         obtain ⟨y552, hy552⟩ : ∃ y_ : List (List Int), y_ = (x3_1 ++ [x6_2]) := ⟨_, rfl⟩
         replace H : (spec_FlowPreds.l0 k2 y552 t540 (wrap64 (x5_1 + 1)) l0_0) = some r := by first | (rw [hy552]; with_reducible exact H) | (have H2_ := (Option.bind_some _ _).symm.trans H; rw [hy552]; with_reducible exact H2_) | (have H2_ := (Option.bind_some _ _).symm.trans H; with_reducible exact H2_) | with_reducible exact H | (rw [hy552]; exact H) | exact H
         have Ny552 := Aside0.mk hy552
         clear hy552
         have H' := Aside0.mk H
         clear H
         obtain ⟨hcz34, hfz34⟩ := bcf BK535
         obtain ⟨Ao36, co36, eo36⟩ := Kd.R_slice HO_6.out
         subst eo36
         go_wp2_with (first | ((with_reducible refine gate_builtin (b := .append) (xs := #[.tmp 47, .tmp 49]) rfl ?_); at_builtin; refine Kd.S_append (Kd.slice 3 (Kd.int .i64)) (w0 := w) w.heap.size rfl (.tmp 47) (.tmp 49) 72 32 (.slice none 0 0) 24 rfl Try.underlying72 info32 rfl (by decide) (by omega) u3 x3_1 x6_2 [.slice Ao36 x6_2.length co36] (fun _ => True) (fun k_ => some k_ = (.slice Ao36 x6_2.length co36 : Value).ownBlock) rfl rfl ?aP (fun k_ hk_ => ((Kd.R_mono (ok' := fun k_ => ((fun _ => True)) k_ ∧ some k_ ≠ (u3 : Value).ownBlock) (Kd.R_apart' (HO_6.out) (Kd.S_typed HO_3.out) (by decide)) (fun k_ hk => ⟨trivial, hk.2⟩))).1 k_ hk_.symm) ?aF ?aO ?aB ?aS ?aL ?_; (case aP => exact Kd.M_row (Kd.R_mono (Kd.R_tight rfl (Kd.R_mono (ok' := fun k_ => ((fun _ => True)) k_ ∧ some k_ ≠ (u3 : Value).ownBlock) (Kd.R_apart' (HO_6.out) (Kd.S_typed HO_3.out) (by decide)) (fun k_ hk => ⟨trivial, hk.2⟩))) (fun _ h_ => h_))); (case aB => exact (bwq HB)); (case aF => exact (fun _ _ => trivial)); (case aO => exact (by (with_reducible repeat (first | apply Kd.S_alloc | apply Kd.S_drewN | apply Kd.S_drew)); exact Kd.S_mono HO_3.out (fun k_ hk => ⟨trivial, fun e_ => hk e_⟩))); (case aS => exact (below_size (bwq HB))); (case aL => have := LMc33.out; omega); intro v553 w35 ho hb hg hat; rw [← Ny552.out] at ho; have n0_ := Aside0.mk (Kd.R_over' (Rq HO_4.out) (Kd.S_typed (Sq HO_3.out)) (by decide) hg); have n1_ := Aside0.mk (blk_grown (g := gb535) (o := .cells #[.slice A0_0 l0_0.length c0_0] 38 (0, 0)) (bkq BK535) hg (Kd.S_ne HO_3.out BK535.out (by decide))); have n2_ := Aside0.mk (hb); have n3_ := Aside0.mk (ho); clear HO_4; clear BK535; clear HB; clear HO_3; clear HO_6; have HO_4 := n0_; have BK535 := n1_; have HB := n2_; have HO554 := n3_; clear n0_ n1_ n2_ n3_; clear ho hb hg hat))
         go_roundg k2
         case measure => have := HK1.out; have := HK2.out; omega
         case rel => exact ⟨(y552), (wrap64 (x5_1 + 1)), (by first | rfl | (simp; done) | (simp [*]; done)), H', ⟨by have := HK1.out; have := HK2.out; omega⟩, ⟨Sq HO554.out⟩, ⟨Rq HO_4.out⟩, ⟨bkq BK535⟩, ⟨bwq HB⟩⟩
        ·rw [if_neg c33] at H
         exact absurd H (by simp)
    ·rw [if_neg c12] at H
     have c12b0 : decide (x5_1 < (l0_0.length : Int)) = false := decide_eq_false c12
     clear c12
     obtain rfl := Option.some.inj H
     obtain ⟨hcz37, hfz37⟩ := bcf BK535
     go_wp2
     go_ret
     exact ⟨_, by first | rfl | (simp [errW_none, errW_some] <;> rfl) | (simp [*, errW_none, errW_some] <;> rfl), Sq HO_3.out, bwq HB⟩
 ·replace c3 := Bool.eq_false_iff.mpr c3
  subst c3
  have H1 : (some y536) = some r := by rw [if_neg (show ¬ (false = true) by decide)] at H; exact H
  clear H
  have H := H1
  clear H1
  obtain rfl := Option.some.inj H
  go_enter Try.func94, Try.ntmps94
  go_wp2_with (first | ((with_reducible refine gate_dst (N := 1) rfl ?_); refine bxe (cs := #[.slice A0_0 l0_0.length c0_0]) (t := 38) ?_; intro gb535 hg w38 hbox hb; have BK535 := Aside0.mk (hbox); have GW535 := bwz HB hg; have GE535 := bwz HB hg; replace HB := bwb HB hb; clear hb hbox hg) | ((with_reducible refine gate_dst (N := 8) rfl ?_); refine Kd.S_lit (Kd.slice 3 (Kd.int .i64)) _ 32 ?hg (N := 8) ?hd (xs := ([] : List (List Int))) (inner := []) (ok := fun _ => True) (okp := fun _ => True) ?hr ?hp (fun _ hk => hk) trivial (Below.refl _ _) (Nat.le_refl _) (by simp) ?_; (case hd => rfl); (case hg => rfl); (case hr => first | (go_simp; done) | (go_simp; rfl) | (go_simp; rfl)); (case hp => exact (Reps.none _ _)); intro v537 w39 ho40 hb hg_ hnew_; clear hg_ hnew_; (first | rw [← Ny536.out] at ho40 | (simp only [Int.reduceToNat] at ho40; rw [← Ny536.out] at ho40)); have HO538 := Aside0.mk (Kd.S_lower ho40 (below_size (bwq HB))); replace BK535 := bkb BK535 hb; replace HB := bwb HB hb; clear hb ho40; obtain ⟨hcz41, hfz41⟩ := bcf BK535) | ((with_reducible refine gate_callee (f := 76) rfl ?_); refine goesM (some 10) rfl rfl Try.func76 #[.agg #[.slice A0_0 l0_0.length c0_0]] rfl ?_; (with_reducible refine (spec_ProgOk.calls k _ _ l0_0 false _ ?side1 ?side2 A2.out).mono ?_); (case side1 => exact Cq (Kd.C_below HR0_0.out HB.out)); (case side2 => exact HC0_0.out); rintro e w42 ⟨rfl, hb⟩; refine ⟨_, rfl, ?_⟩; replace HO538 := Aside0.mk (Kd.S_below (Sq HO538.out) hb); replace BK535 := bkb BK535 hb; replace HB := bwb HB hb; (try clear hb); (try clear hb2); (try clear hk); (try clear hi)))
  go_ret
  exact ⟨_, by first | rfl | (simp [errW_none, errW_some] <;> rfl) | (simp [*, errW_none, errW_some] <;> rfl), Sq HO538.out, bwq HB⟩
def spec_l12All.f (k : Nat) (l0_0 : List (S77)) : Option (List Bool) := (some (([] : List Bool) : List Bool)).bind fun y483 => ((spec_FlowReach.f k l0_0).bind fun t486 => (if y483.length + t486.length < 140737488355328 then (some (y483 ++ t486)) else (none)))
theorem spec_l12All.calls (k : Nat) (A0_0 : Option Addr) (c0_0 : Nat) (l0_0 : List (S77)) (r : List Bool) (w : World) (hr0_0 : Kd.C k77 w A0_0 l0_0.length l0_0) (hc0_0 : l0_0.length ≤ c0_0) (h : spec_l12All.f k l0_0 = some r) :
  Calls Try.prog 71 #[.agg #[.slice A0_0 l0_0.length c0_0]] w fun e w' => ∃ v0_ : Value, e = .returned (v0_) ∧ Kd.R Kd.bool 4 w' w.heap.size (fun _ => True) v0_ r ∧ Below w.heap.size w w' := by
 have hu38 := Try.underlying38
 have HR0_0 := Aside0.mk hr0_0
 have HC0_0 := Aside0.mk hc0_0
 clear hr0_0 hc0_0
 have HB := Aside0.mk (Below.refl w.heap.size w)
 have H : ((some (([] : List Bool) : List Bool)).bind fun y483 => ((spec_FlowReach.f k l0_0).bind fun t486 => (if y483.length + t486.length < 140737488355328 then (some (y483 ++ t486)) else (none)))) = some r := h
 clear h
 obtain ⟨y483, hy483⟩ : ∃ y_ : List Bool, y_ = (([] : List Bool)) := ⟨_, rfl⟩
 replace H : ((spec_FlowReach.f k l0_0).bind fun t486 => (if y483.length + t486.length < 140737488355328 then (some (y483 ++ t486)) else (none))) = some r := by first | (rw [hy483]; with_reducible exact H) | (have H2_ := (Option.bind_some _ _).symm.trans H; rw [hy483]; with_reducible exact H2_) | (have H2_ := (Option.bind_some _ _).symm.trans H; with_reducible exact H2_) | with_reducible exact H | (rw [hy483]; exact H) | exact H
 have Ny483 := Aside0.mk hy483
 clear hy483
 replace H := Option.bind_eq_some_iff.mp H
 obtain ⟨t486, A20, H⟩ := H
 have A2 := Aside0.mk A20
 clear A20
 by_cases c3 : y483.length + t486.length < 140737488355328
 ·rw [if_pos c3] at H
  have LMc3 := Aside0.mk c3
  clear c3
  obtain ⟨y489, hy489⟩ : ∃ y_ : List Bool, y_ = (y483 ++ t486) := ⟨_, rfl⟩
  replace H : (some y489) = some r := by first | (rw [hy489]; with_reducible exact H) | (have H2_ := (Option.bind_some _ _).symm.trans H; rw [hy489]; with_reducible exact H2_) | (have H2_ := (Option.bind_some _ _).symm.trans H; with_reducible exact H2_) | with_reducible exact H | (rw [hy489]; exact H) | exact H
  have Ny489 := Aside0.mk hy489
  clear hy489
  obtain rfl := Option.some.inj H
  go_enter Try.func71, Try.ntmps71
  go_wp2_with (first | ((with_reducible refine gate_dst (N := 1) rfl ?_); refine bxe (cs := #[.slice A0_0 l0_0.length c0_0]) (t := 38) ?_; intro gb482 hg w4 hbox hb; have BK482 := Aside0.mk (hbox); have GW482 := bwz HB hg; have GE482 := bwz HB hg; replace HB := bwb HB hb; clear hb hbox hg) | ((with_reducible refine gate_dst (N := 3) rfl ?_); refine Kd.R_lit Kd.bool _ 4 ?hg (N := 3) ?hd (xs := ([] : List Bool)) (inner := []) (ok := fun _ => True) (okp := fun _ => True) ?hr ?hp (fun _ hk => hk) trivial (Below.refl _ _) (Nat.le_refl _) (by simp) ?_; (case hd => rfl); (case hg => rfl); (case hr => first | (go_simp; done) | (go_simp; rfl) | (go_simp; rfl)); (case hp => exact (Reps.none _ _)); intro v484 w5 ho6 hb hg_ hnew_; clear hg_ hnew_; (first | rw [← Ny483.out] at ho6 | (simp only [Int.reduceToNat] at ho6; rw [← Ny483.out] at ho6)); have HO485 := Aside0.mk (Kd.R_lower ho6 (below_size (bwq HB))); replace BK482 := bkb BK482 hb; replace HB := bwb HB hb; clear hb ho6; obtain ⟨hcz7, hfz7⟩ := bcf BK482) | ((with_reducible refine gate_callee (f := 65) rfl ?_); refine goesM (some 5) rfl rfl Try.func65 #[.agg #[.slice A0_0 l0_0.length c0_0]] rfl ?_; (with_reducible refine (spec_FlowReach.calls k _ _ l0_0 t486 _ ?side1 ?side2 A2.out).mono ?_); (case side1 => exact Cq (Kd.C_below HR0_0.out HB.out)); (case side2 => exact HC0_0.out); rintro e w8 ⟨v487, rfl, ho0, hb⟩; refine ⟨_, rfl, ?_⟩; have HO488 := Aside0.mk (Kd.R_lower (Kd.R_new' ho0 (Kd.R_lt (Rq HO485.out))) (below_size (bwq HB))); replace HO485 := Aside0.mk (Kd.R_elder' (Rq HO485.out) (Kd.R_base ho0) hb); replace BK482 := bkb BK482 hb; replace HB := bwb HB hb; (try clear hb); (try clear hb2); (try clear hk); (try clear hi); (try clear ho0); obtain ⟨Ao10, co10, eo10⟩ := Kd.R_slice HO488.out; subst eo10) | ((with_reducible refine gate_builtin (b := .append) (xs := #[.tmp 3, .tmp 5]) rfl ?_); at_builtin; refine Kd.R_append_rows Kd.bool (w0 := w) w.heap.size rfl (.tmp 3) (.tmp 5) 29 4 (.bool false) 1 rfl Try.underlying29 info4 rfl (by decide) (by omega) v484 y483 t486 _ _ _ (fun k_ => some k_ ≠ (.slice Ao10 t486.length co10 : Value).ownBlock) (fun _ => False) rfl rfl ?aO ?aR (fun _ _ h => h) (fun _ h => h.elim) ?aF ?aB ?aS ?aL ?_; (case aR => repeat (first | exact (Kd.R_reads' HO488.out).2.2 | (with_reducible refine Kd.C_alloc ?_ _) | (with_reducible refine Kd.C_drewN ?_ _) | (with_reducible refine Kd.C_drew ?_))); (case aB => exact (bwq HB)); (case aF => exact (fun k_ hk => Kd.fresh' (Kd.R_lt (Rq HO488.out)) k_ hk)); (case aO => exact (by (with_reducible repeat (first | apply Kd.R_alloc | apply Kd.R_drewN | apply Kd.R_drew)); exact Kd.R_mono HO485.out (fun _ hk => hk.2))); (case aS => exact (below_size (bwq HB))); (case aL => have := LMc3.out; omega); intro v490 w9 ho hb hg hat; rw [← Ny489.out] at ho; have n0_ := Aside0.mk (blk_grown (g := gb482) (o := .cells #[.slice A0_0 l0_0.length c0_0] 38 (0, 0)) (bkq BK482) hg (Kd.R_ne HO485.out BK482.out (by decide))); have n1_ := Aside0.mk (Kd.R_after (ok := (fun _ => True)) (Rq HO488.out) hg hat); have n2_ := Aside0.mk (hb); have n3_ := Aside0.mk (ho); clear BK482; clear HO488; clear HB; clear HO485; have BK482 := n0_; have HO488 := n1_; have HB := n2_; have HO491 := n3_; clear n0_ n1_ n2_ n3_; clear ho hb hg hat))
  go_ret
  exact ⟨_, by first | rfl | (simp [errW_none, errW_some] <;> rfl) | (simp [*, errW_none, errW_some] <;> rfl), by (with_reducible repeat (first | apply Kd.R_alloc | apply Kd.R_drewN | apply Kd.R_drew)); exact Kd.R_mono HO491.out (fun _ hk => trivial), bwq HB⟩
 ·rw [if_neg c3] at H
  exact absurd H (by simp)
def spec_l12Each.l0 : Nat → List Bool → List Int → Int → Option (Bool)
 | 0, _, _, _ => none
 | k + 1, x0, x1, x5 => if x5 < (x1.length : Int) then (if 0 ≤ x5 then (if 0 ≤ (rd x1 x5) then (if (rd x1 x5) < (x0.length : Int) then (if (rdOf false x0 (rd x1 x5) = true) then (spec_l12Each.l0 k x0 x1 (wrap64 (x5 + 1))) else (some false)) else (none)) else (none)) else (none)) else (some true)
def spec_l12Each.f (k : Nat) (l0 : List Bool) (l1 : List Int) : Option (Bool) := spec_l12Each.l0 k l0 l1 0
theorem spec_l12Each.calls (k : Nat) (A0 : Option Addr) (c0 : Nat) (l0 : List Bool) (A1 : Option Addr) (c1 : Nat) (l1 : List Int) (r : Bool) (w : World) (hr0 : Kd.C Kd.bool w A0 l0.length l0) (hc0 : l0.length ≤ c0) (hr1 : Kd.C (Kd.int .i64) w A1 l1.length l1) (hc1 : l1.length ≤ c1) (h : spec_l12Each.f k l0 l1 = some r) :
  Calls Try.prog 68 #[.slice A0 l0.length c0, .slice A1 l1.length c1] w fun e w' => e = .returned (.bool r) ∧ Drawn0 w w' := by
 have HR0 := Aside0.mk hr0
 have HC0 := Aside0.mk hc0
 clear hr0 hc0
 have HR1 := Aside0.mk hr1
 have HC1 := Aside0.mk hc1
 clear hr1 hc1
 have H : (spec_l12Each.l0 k l0 l1 0) = some r := h
 clear h
 have H' := Aside0.mk H
 clear H
 go_enter Try.func68, Try.ntmps68
 go_wp2
 go_loopg [5] k (fun kq v5 w' => ∃ (x5_1 : Int), v5 = .int .i64 x5_1 ∧ Aside0 (spec_l12Each.l0 kq l0 l1 x5_1 = some r) ∧ Aside0 (kq ≤ k) ∧ Drawn0 w w')
 case atStart => exact ⟨(0), (by first | rfl | (simp; done) | (simp [*]; done)), H', ⟨Nat.le_refl _⟩, by repeat (first | exact Drawn0.refl _ | apply Drawn0.step)⟩
 case round =>
  clear H'
  try clear c1
  try clear p2
  obtain ⟨x5_1, rfl, HA, HK1, ⟨m1, rfl⟩⟩ := hrel
  cases gk with
  | zero => exact absurd HA.out (by intro h_; first | (cases h_; done) | (simp [spec_l12Each.l0] at h_))
  | succ k1 =>
   have H := HA.out
   clear HA
   simp only [spec_l12Each.l0] at H
   by_cases c3 : x5_1 < (l1.length : Int)
   ·rw [if_pos c3] at H
    have c3b0 : decide (x5_1 < (l1.length : Int)) = true := decide_eq_true c3
    clear c3
    by_cases c4 : 0 ≤ x5_1
    ·rw [if_pos c4] at H
     have c4b0 : decide (0 ≤ x5_1) = true := decide_eq_true c4
     clear c4
     by_cases c5 : 0 ≤ (rd l1 x5_1)
     ·rw [if_pos c5] at H
      have c5b0 : decide (0 ≤ (rd l1 x5_1)) = true := decide_eq_true c5
      clear c5
      by_cases c6 : (rd l1 x5_1) < (l0.length : Int)
      ·rw [if_pos c6] at H
       have c6b0 : decide ((rd l1 x5_1) < (l0.length : Int)) = true := decide_eq_true c6
       clear c6
       obtain ⟨bq7, hbq7⟩ : ∃ b_ : Bool, b_ = (rdOf false l0 (rd l1 x5_1)) := ⟨_, rfl⟩
       replace H : (if (bq7 = true) then (spec_l12Each.l0 k1 l0 l1 (wrap64 (x5_1 + 1))) else (some false)) = some r := by rw [← hbq7] at H; exact H
       have Nbq7 := Aside0.mk hbq7
       clear hbq7
       by_cases c8 : (bq7 = true)
       ·subst c8
        rw [if_pos rfl] at H
        have H' := Aside0.mk H
        clear H
        have p463 : 0 ≤ (x5_1 : Int) := oda
        have q463 : x5_1 < (l1.length : Int) := oda
        obtain ⟨ad463, e463, hx463_0⟩ := Kd.at_int HR1.out x5_1 p463 q463
        cases e463
        replace p463 := eq_true p463
        replace q463 := eq_true q463
        have p464 : 0 ≤ ((rd l1 x5_1) : Int) := oda
        have q464 : (rd l1 x5_1) < (l0.length : Int) := oda
        obtain ⟨ad464, e464, hx464_0⟩ := Kd.at_bool HR0.out (rd l1 x5_1) p464 q464
        (try rw [← Nbq7.out] at hx464_0)
        cases e464
        replace p464 := eq_true p464
        replace q464 := eq_true q464
        go_wp2
        go_roundg k1
        case measure => have := HK1.out; omega
        case rel => exact ⟨(wrap64 (x5_1 + 1)), (by first | rfl | (simp; done) | (simp [*]; done)), H', ⟨by have := HK1.out; omega⟩, by repeat (first | exact Drawn0.refl _ | apply Drawn0.step)⟩
       ·replace c8 := Bool.eq_false_iff.mpr c8
        subst c8
        have H1 : (some false) = some r := by rw [if_neg (show ¬ (false = true) by decide)] at H; exact H
        clear H
        have H := H1
        clear H1
        obtain rfl := Option.some.inj H
        have p463 : 0 ≤ (x5_1 : Int) := oda
        have q463 : x5_1 < (l1.length : Int) := oda
        obtain ⟨ad463, e463, hx463_0⟩ := Kd.at_int HR1.out x5_1 p463 q463
        cases e463
        replace p463 := eq_true p463
        replace q463 := eq_true q463
        have p464 : 0 ≤ ((rd l1 x5_1) : Int) := oda
        have q464 : (rd l1 x5_1) < (l0.length : Int) := oda
        obtain ⟨ad464, e464, hx464_0⟩ := Kd.at_bool HR0.out (rd l1 x5_1) p464 q464
        (try rw [← Nbq7.out] at hx464_0)
        cases e464
        replace p464 := eq_true p464
        replace q464 := eq_true q464
        go_wp2
        go_ret
        exact ⟨by first | rfl | (simp; done) | (simp [*]; done), by repeat (first | exact Drawn0.refl _ | apply Drawn0.step)⟩
      ·rw [if_neg c6] at H
       exact absurd H (by simp)
     ·rw [if_neg c5] at H
      exact absurd H (by simp)
    ·rw [if_neg c4] at H
     exact absurd H (by simp)
   ·rw [if_neg c3] at H
    have c3b0 : decide (x5_1 < (l1.length : Int)) = false := decide_eq_false c3
    clear c3
    obtain rfl := Option.some.inj H
    go_wp2
    go_ret
    exact ⟨by first | rfl | (simp; done) | (simp [*]; done), by repeat (first | exact Drawn0.refl _ | apply Drawn0.step)⟩
def spec_l12Ok.f (k : Nat) (l0_0 : List (S77)) (a1_0 : Int) (a1_1 : Int) (a1_2 : Int) (a1_3 : Int) (a1_4 : Int) : Option (Bool) := (spec_ProgOk.f k l0_0).bind fun t134 => (if t134 = true then ((spec_ExprOk.f a1_0 a1_1 a1_2 a1_3 a1_4).bind fun t135 => (some t135)) else (some false))
theorem spec_l12Ok.calls (k : Nat) (A0_0 : Option Addr) (c0_0 : Nat) (l0_0 : List (S77)) (a1_0 : Int) (a1_1 : Int) (a1_2 : Int) (a1_3 : Int) (a1_4 : Int) (r : Bool) (w : World) (hr0_0 : Kd.C k77 w A0_0 l0_0.length l0_0) (hc0_0 : l0_0.length ≤ c0_0) (h : spec_l12Ok.f k l0_0 a1_0 a1_1 a1_2 a1_3 a1_4 = some r) :
  Calls Try.prog 63 #[.agg #[.slice A0_0 l0_0.length c0_0], .agg #[.int .i64 a1_0, .int .i64 a1_1, .int .i64 a1_2, .int .i64 a1_3, .int .i64 a1_4]] w fun e w' => e = .returned (.bool r) ∧ Below w.heap.size w w' := by
 have hu38 := Try.underlying38
 have hu42 := Try.underlying42
 have HR0_0 := Aside0.mk hr0_0
 have HC0_0 := Aside0.mk hc0_0
 clear hr0_0 hc0_0
 have HB := Aside0.mk (Below.refl w.heap.size w)
 have H : ((spec_ProgOk.f k l0_0).bind fun t134 => (if t134 = true then ((spec_ExprOk.f a1_0 a1_1 a1_2 a1_3 a1_4).bind fun t135 => (some t135)) else (some false))) = some r := h
 clear h
 replace H := Option.bind_eq_some_iff.mp H
 obtain ⟨t134, A30, H⟩ := H
 have A3 := Aside0.mk A30
 clear A30
 by_cases c4 : t134 = true
 ·subst c4
  rw [if_pos rfl] at H
  replace H := Option.bind_eq_some_iff.mp H
  obtain ⟨t135, A50, H⟩ := H
  have A5 := Aside0.mk A50
  clear A50
  obtain rfl := Option.some.inj H
  go_enter Try.func63, Try.ntmps63
  go_wp2_with (first | ((with_reducible refine gate_dst (N := 2) rfl ?_); refine bxe (cs := #[.slice A0_0 l0_0.length c0_0]) (t := 38) ?_; intro gb132 hg w6 hbox hb; have BK132 := Aside0.mk (hbox); have GW132 := bwz HB hg; have GE132 := bwz HB hg; replace HB := bwb HB hb; clear hb hbox hg) | ((with_reducible refine gate_dst (N := 3) rfl ?_); refine bxe (cs := #[.int .i64 a1_0, .int .i64 a1_1, .int .i64 a1_2, .int .i64 a1_3, .int .i64 a1_4]) (t := 42) ?_; intro gb133 hg w7 hbox hb; have BK133 := Aside0.mk (hbox); have GW133 := bwz HB hg; have GE133 := bwz HB hg; replace HB := bwb HB hb; have NB132_133 := bkl BK132 hg; have NB133_132 := bkg BK132 hg; replace BK132 := bkb BK132 hb; clear hb hbox hg; have hnb8 := NB132_133.out; have hnc8 := NB133_132.out; obtain ⟨hcz9, hfz9⟩ := bcf BK132) | ((with_reducible refine gate_callee (f := 76) rfl ?_); refine goesM (some 6) rfl rfl Try.func76 #[.agg #[.slice A0_0 l0_0.length c0_0]] rfl ?_; (with_reducible refine (spec_ProgOk.calls k _ _ l0_0 true _ ?side1 ?side2 A3.out).mono ?_); (case side1 => exact Cq (Kd.C_below HR0_0.out HB.out)); (case side2 => exact HC0_0.out); rintro e w10 ⟨rfl, hb⟩; refine ⟨_, rfl, ?_⟩; replace BK132 := bkb BK132 hb; replace BK133 := bkb BK133 hb; replace HB := bwb HB hb; (try clear hb); (try clear hb2); (try clear hk); (try clear hi); obtain ⟨hcz11, hfz11⟩ := bcf BK133) | (go_at_call 79; (with_reducible refine (spec_ExprOk.calls a1_0 a1_1 a1_2 a1_3 a1_4 t135 _ A5.out).mono ?_); rintro e w12 ⟨rfl, hb⟩; replace BK132 := bkb BK132 hb; replace BK133 := bkb BK133 hb; replace HB := bwb HB hb; (try clear hb); (try clear hb2); (try clear hk); (try clear hi)))
  go_ret
  exact ⟨by first | rfl | (simp [errW_none, errW_some] <;> rfl) | (simp [*, errW_none, errW_some] <;> rfl), bwq HB⟩
 ·replace c4 := Bool.eq_false_iff.mpr c4
  subst c4
  have H1 : (some false) = some r := by rw [if_neg (show ¬ (false = true) by decide)] at H; exact H
  clear H
  have H := H1
  clear H1
  obtain rfl := Option.some.inj H
  go_enter Try.func63, Try.ntmps63
  go_wp2_with (first | ((with_reducible refine gate_dst (N := 2) rfl ?_); refine bxe (cs := #[.slice A0_0 l0_0.length c0_0]) (t := 38) ?_; intro gb132 hg w13 hbox hb; have BK132 := Aside0.mk (hbox); have GW132 := bwz HB hg; have GE132 := bwz HB hg; replace HB := bwb HB hb; clear hb hbox hg) | ((with_reducible refine gate_dst (N := 3) rfl ?_); refine bxe (cs := #[.int .i64 a1_0, .int .i64 a1_1, .int .i64 a1_2, .int .i64 a1_3, .int .i64 a1_4]) (t := 42) ?_; intro gb133 hg w14 hbox hb; have BK133 := Aside0.mk (hbox); have GW133 := bwz HB hg; have GE133 := bwz HB hg; replace HB := bwb HB hb; have NB132_133 := bkl BK132 hg; have NB133_132 := bkg BK132 hg; replace BK132 := bkb BK132 hb; clear hb hbox hg; have hnb15 := NB132_133.out; have hnc15 := NB133_132.out; obtain ⟨hcz16, hfz16⟩ := bcf BK132) | ((with_reducible refine gate_callee (f := 76) rfl ?_); refine goesM (some 6) rfl rfl Try.func76 #[.agg #[.slice A0_0 l0_0.length c0_0]] rfl ?_; (with_reducible refine (spec_ProgOk.calls k _ _ l0_0 false _ ?side1 ?side2 A3.out).mono ?_); (case side1 => exact Cq (Kd.C_below HR0_0.out HB.out)); (case side2 => exact HC0_0.out); rintro e w17 ⟨rfl, hb⟩; refine ⟨_, rfl, ?_⟩; replace BK132 := bkb BK132 hb; replace BK133 := bkb BK133 hb; replace HB := bwb HB hb; (try clear hb); (try clear hb2); (try clear hk); (try clear hi)))
  go_ret
  exact ⟨by first | rfl | (simp [errW_none, errW_some] <;> rfl) | (simp [*, errW_none, errW_some] <;> rfl), bwq HB⟩
end Go.Proofs.Ytcgbbhkjkkpfoaa.P
namespace Go.Proofs.Ytcgbbhkjkkpfoaa.P
open Go.RowKit Go.Proofs.YtcgbbhkjkkpfoaaW.PrintWords Go.Proofs.YtcgbbhkjkkpfoaaW.PrintLast Go.Proofs.YtcgbbhkjkkpfoaaW.PrintMore Lcm Lcm.G
theorem specExprOk_eq (e0 e1 e2 e3 e4 : Int) : spec_ExprOk.f e0 e1 e2 e3 e4 = some (exOkB e0 e1 e2 e3 e4) := by
 unfold spec_ExprOk.f exOkB
 rw [l6In_eq, l1Opnd_eq, l1Opnd_eq]
 cases inB e0 1 4 <;> cases opOkB e1 e2 <;> simp
theorem l12Ok_ev (p : List Stp) (e0 e1 e2 e3 e4 : Int) : Ev (fun k => spec_l12Ok.f k p e0 e1 e2 e3 e4) (progOkB p && exOkB e0 e1 e2 e3 e4) := by
 unfold spec_l12Ok.f
 refine Ev.bind (specProgOk_ev p) (Ev.cases (fun h => ?_) (fun h => ?_))
 ·rw [h]; exact Ev.const (by rw [specExprOk_eq]; simp)
 ·rw [show progOkB p = false by simpa using h]; exact Ev.now _
theorem rd_bl {n i : Nat} {P : Nat → Prop} (h : i < n) : rdOf false (bl n P) (i : Int) = true ↔ P i := by rw [on_rd (by rw [bl_len]; exact h), on_bl]; exact ⟨fun h => h.2, fun q => ⟨h, q⟩⟩
theorem rd_prl {g : G} {n i : Nat} (h : i < n) : rd_L2 (prl g n) (i : Int) = ints (preds g n i) := by rw [rdRow (by rw [prl_len]; exact h)]; unfold prl; simp
theorem map_take {α β : Type} (f : α → β) {l : List α} {i : Nat} (h : i < l.length) : (l.take i).map f ++ [f l[i]] = (l.take (i + 1)).map f := by rw [List.take_add_one, List.getElem?_eq_getElem h, List.map_append]; rfl
theorem comp_yes (e0 e1 e2 e3 e4 : Int) (s : Stp) : yes (CompP e0 e1 e2 e3 e4 s) = (s.f0 == 1 && (s.f2 == e0 && ((s.f3.f0 == e1 && s.f3.f1 == e2) && (s.f4.f0 == e3 && s.f4.f1 == e4)))) := yes_eq (by unfold CompP; simp [and_assoc])
theorem comp_loop (p : List Stp) (hl : p.length ≤ 60) (e0 e1 e2 e3 e4 : Int) : ∀ (d i : Nat), i + d = p.length → Ev (fun k => spec_ExprComp.l0 k ((p.take i).map fun s => yes (CompP e0 e1 e2 e3 e4 s)) (i : Int) p e0 e1 e2 e3 e4) (p.map fun s => yes (CompP e0 e1 e2 e3 e4 s))
 | 0, i, hd => by
  refine Ev.step (fun k => by rw [spec_ExprComp.l0]) (Ev.neg (by omega) (Ev.eq (Ev.now _) ?_))
  rw [List.take_of_length_le (by omega)]
 | d + 1, i, hd => by
  have hi : i < p.length := by omega
  have ih := comp_loop p hl e0 e1 e2 e3 e4 d (i + 1) (by omega)
  rw [← map_take _ hi, comp_yes] at ih
  refine Ev.step (fun k => by rw [spec_ExprComp.l0]) (Ev.pos (by omega) (Ev.pos (by omega) ?_))
  rw [rdS hi, wrapN (by omega)]
  have hlen : (List.map (fun s => yes (CompP e0 e1 e2 e3 e4 s)) (List.take i p)).length < 140737488355328 := by rw [List.length_map, List.length_take]; omega
  refine Ev.cases (fun h => ?_) (fun h => ?_)
  ·unfold spec_l11Of.f
   refine Ev.put (Ev.pos hlen ?_)
   rw [show (p[i].f0 == 1) = true from beq_iff_eq.2 h, Bool.true_and] at ih
   exact ih
  ·rw [show (p[i].f0 == 1) = false from beq_eq_false_iff_ne.2 h, Bool.false_and] at ih
   exact Ev.pos hlen ih
theorem specComp_ev (p : List Stp) (e0 e1 e2 e3 e4 : Int) : Ev (fun k => spec_ExprComp.f k p e0 e1 e2 e3 e4) (safeL (fun g => g.comp) p e0 e1 e2 e3 e4) := by
 unfold spec_ExprComp.f safeL
 refine Ev.put (Ev.bind (specProgOk_ev p) (Ev.cases (fun h => ?_) (fun h => ?_)))
 ·refine Ev.bind (Ev.const (specExprOk_eq _ _ _ _ _)) (Ev.step (fun k => by rw [spec_ExprComp.j0]) (Ev.cases (fun h2 => ?_) (fun h2 => ?_)))
  ·rw [if_neg (by rw [h]; simpa using h2)]; exact Ev.now _
  ·rw [if_pos (by rw [h]; simpa using h2), ← map_comp]
   exact comp_loop p (progOk_len h).2 _ _ _ _ _ p.length 0 (by omega)
 ·rw [if_neg (by simp [h])]
  refine Ev.step (fun k => by rw [spec_ExprComp.j0]) ?_
  exact Ev.pos rfl (Ev.now _)
theorem keeps_loop (p : List Stp) (hp : progOkB p = true) (e0 e1 e2 e3 e4 : Int) : ∀ (d i : Nat), i + d = p.length → Ev (fun k => spec_ExprKeeps.l0 k ((p.take i).map fun s => yes (KeepsP e1 e3 s)) (i : Int) p e0 e1 e2 e3 e4) (p.map fun s => yes (KeepsP e1 e3 s))
 | 0, i, hd => by
  refine Ev.step (fun k => by rw [spec_ExprKeeps.l0]) (Ev.neg (by omega) (Ev.eq (Ev.now _) ?_))
  rw [List.take_of_length_le (by omega)]
 | d + 1, i, hd => by
  have hi : i < p.length := by omega
  have hl := (progOk_len hp).2
  have ih := keeps_loop p hp e0 e1 e2 e3 e4 d (i + 1) (by omega)
  rw [← map_take _ hi] at ih
  have hs := progOk_step hp (List.getElem_mem hi)
  have hk := stepOk_kind hs
  have hd1 : chB p[i].f0 = true → 0 ≤ p[i].f1 := fun hc => by
   unfold stepOkB at hs
   simp [hc] at hs
   have := hs.2.2.2.1
   unfold inB at this
   simp at this
   exact this.1
  refine Ev.step (fun k => by rw [spec_ExprKeeps.l0]) (Ev.pos (by omega) (Ev.pos (by omega) ?_))
  rw [rdS hi, wrapN (by omega)]
  have hlen : (List.map (fun s => yes (KeepsP e1 e3 s)) (List.take i p)).length < 140737488355328 := by rw [List.length_map, List.length_take]; omega
  have hset : spec_l11Sets.f p[i].f0 p[i].f1 p[i].f2 p[i].f3.f0 p[i].f3.f1 p[i].f4.f0 p[i].f4.f1 p[i].f5 = some (if chB p[i].f0 = true then p[i].f1 else -1) := by
   unfold spec_l11Sets.f chB inB
   by_cases h1 : p[i].f0 = 1
   ·simp [h1]
   by_cases h2 : p[i].f0 = 2
   ·simp [h2]
   by_cases h3 : p[i].f0 = 3
   ·simp [h3]
   rw [if_neg h1, if_neg h2, if_neg h3, if_neg]
   simp; omega
  refine Ev.bind (Ev.const hset) ?_
  by_cases hc : chB p[i].f0 = true
  ·rw [if_pos hc]
   refine Ev.neg (by have := hd1 hc; omega) (Ev.cases (fun h => ?_) (fun h => ?_))
   ·rw [yes_neg (P := KeepsP e1 e3 p[i]) (fun c => c ⟨hc, .inl h.symm⟩)] at ih
    exact Ev.pos hlen ih
   ·rw [yes_eq (P := KeepsP e1 e3 p[i]) (r := p[i].f1 != e3) (by unfold KeepsP; simp [hc]; exact ⟨fun q => ⟨fun c => h c.symm, fun c => q c.symm⟩, fun q c => q.2 c.symm⟩)] at ih
    exact Ev.pos hlen ih
  ·rw [if_neg hc]
   rw [yes_pos (P := KeepsP e1 e3 p[i]) (fun c => hc c.1)] at ih
   exact Ev.pos (by omega) (Ev.pos hlen ih)
theorem specKeeps_ev (p : List Stp) (e0 e1 e2 e3 e4 : Int) : Ev (fun k => spec_ExprKeeps.f k p e0 e1 e2 e3 e4) (safeL (fun g => g.keeps) p e0 e1 e2 e3 e4) := by
 unfold spec_ExprKeeps.f safeL
 refine Ev.put (Ev.bind (specProgOk_ev p) (Ev.cases (fun h => ?_) (fun h => ?_)))
 ·refine Ev.bind (Ev.const (specExprOk_eq _ _ _ _ _)) (Ev.step (fun k => by rw [spec_ExprKeeps.j0]) (Ev.cases (fun h2 => ?_) (fun h2 => ?_)))
  ·rw [if_neg (by rw [h]; simpa using h2)]; exact Ev.now _
  ·rw [if_pos (by rw [h]; simpa using h2), ← map_keeps]
   exact keeps_loop p h _ _ _ _ _ p.length 0 (by omega)
 ·rw [if_neg (by simp [h])]
  refine Ev.step (fun k => by rw [spec_ExprKeeps.j0]) ?_
  exact Ev.pos rfl (Ev.now _)
section
variable {g : G} {p : List Stp}
def RchI (g : G) (n : Nat) (l : List Bool) : Prop := LInv g.Reach n l ∧ on l 0
theorem sreach_in (hf : Fit g p) (r s : List Bool) (a : Bool) (i : Nat) (hi : i < p.length) (hI : RchI g p.length s)
  (K : ∀ s' a', RchI g p.length s' → (a' = a ∧ s' = s ∧ ¬ (on s i ∧ ∃ k, k ∈ g.next i ∧ ¬ on s k) ∨ a' = true ∧ p.length - many s' < p.length - many s) → Ev (fun k => spec_FlowReach.l1 k s' a' ((i + 1 : Nat) : Int) p) r) :
  ∀ (d t : Nat) (l : List Bool) (b : Bool), t + d = (g.next i).length → RchI g p.length l → (b = a ∧ l = s ∧ (∀ k, k ∈ (g.next i).take t → on s k) ∨ b = true ∧ p.length - many l < p.length - many s) → Ev (fun k => spec_FlowReach.l2 k l b (i : Int) (t : Int) p) r
 | 0, t, l, b, hd, hl, h => by
  have htwo := hf.two i hi
  have hfew := hf.few
  refine Ev.step (fun k => by rw [spec_FlowReach.l2]) ?_
  rw [rdS hi, hf.next i hi, ints_len]
  refine Ev.pos (by omega) (Ev.pos (by omega) (Ev.neg (by omega) (Ev.step (fun k => by rw [spec_FlowReach.j3]) (Ev.neg (by decide) ?_))))
  rw [wrapN (by omega)]
  exact K l b hl (h.imp (fun ⟨h1, h2, h3⟩ => ⟨h1, h2, fun ⟨_, k, hk, hn⟩ => hn (h3 k (by rw [List.take_of_length_le (by omega)]; exact hk))⟩) id)
 | d + 1, t, l, b, hd, hl, h => by
  have htwo := hf.two i hi
  have hfew := hf.few
  have ht : t < (g.next i).length := by omega
  have hlt := hf.lt i hi _ (List.getElem_mem ht)
  have hlen := hl.1.len
  have htk : ∀ j, j ∈ (g.next i).take (t + 1) → j ∈ (g.next i).take t ∨ j = (g.next i)[t] := fun j => by
   rw [List.take_add_one, List.getElem?_eq_getElem ht, List.mem_append]; simp
  refine Ev.step (fun k => by rw [spec_FlowReach.l2]) ?_
  rw [rdS hi, hf.next i hi]
  refine Ev.pos (by omega) (Ev.pos (by omega) (Ev.pos (by rw [ints_len]; omega) (Ev.pos (by omega) (Ev.step (fun k => by rw [spec_FlowReach.j3]) (Ev.cases (fun ho => ?_) (fun ho => ?_))))))
  ·have hon : on l i := (on_rd (by omega)).1 ho
   rw [rdS hi, hf.next i hi, rd_ints ht, Int.toNat_natCast]
   refine Ev.pos (by omega) (Ev.pos (by omega) (Ev.pos (by omega) (Ev.pos (by rw [ints_len]; omega) (Ev.pos (by omega) (Ev.pos (by omega) ?_)))))
   rw [wrapN (by omega)]
   refine Ev.cases (fun hk => ?_) (fun hk => ?_)
   ·have hk2 : on l (g.next i)[t] := (on_rd (by omega)).1 hk
    refine sreach_in hf r s a i hi hI K d (t + 1) l b (by omega) hl (h.imp (fun ⟨h1, h2, h3⟩ => ⟨h1, h2, fun j hj => (htk j hj).elim (h3 j) fun e => by rw [e, ← h2]; exact hk2⟩) id)
   ·have hk2 : ¬ on l (g.next i)[t] := fun c => hk ((on_rd (by omega)).2 c)
    have hm := many_on (by omega) hk2
    have hml := many_le (l.set (g.next i)[t] true)
    rw [List.length_set, hlen] at hml
    refine sreach_in hf r s a i hi hI K d (t + 1) _ true (by omega) ⟨hl.1.on hlt (.step (hl.1.sub i hon) (List.getElem_mem ht)), (on_on (by omega)).2 (.inl hl.2)⟩ (.inr ⟨rfl, ?_⟩)
    rcases h with ⟨_, h2, _⟩ | ⟨_, h2⟩
    ·rw [h2] at hm hml; rw [h2]; omega
    ·omega
  ·have hoff : ¬ on l i := fun c => ho ((on_rd (by omega)).2 c)
   rw [wrapN (by omega)]
   exact K l b hl (h.imp (fun ⟨h1, h2, h3⟩ => ⟨h1, h2, fun ⟨c, _⟩ => hoff (by rw [h2]; exact c)⟩) id)
theorem sreach_ev (hf : Fit g p) (hp : progOkB p = true) : Ev (fun k => spec_FlowReach.f k p) (bl p.length g.Reach) := by
 have hfew := hf.few
 have hpos := hf.pos
 have hs : 0 < (List.replicate p.length false).length := by rw [List.length_replicate]; exact hpos
 unfold spec_FlowReach.f
 rw [Int.toNat_natCast]
 refine Ev.bind (specProgOk_ev p) (Ev.pos hp (Ev.pos (by omega) (Ev.pos (by omega) (Ev.put (Ev.pos (by rw [List.length_replicate]; omega) ?_)))))
 refine sweep (RchI g p.length) (fun l => p.length - many l) p.length (fun i l => on l i ∧ ∃ k, k ∈ g.next i ∧ ¬ on l k) (fun l a => Ev (fun k => spec_FlowReach.l0 k l a p) (bl p.length g.Reach)) (fun i l a => Ev (fun k => spec_FlowReach.l1 k l a (i : Int) p) (bl p.length g.Reach)) ?_ ?_ ?_ ?_ _ ⟨(LInv.start g.Reach p.length).on hpos .zero, (on_on hs).2 (.inr rfl)⟩
 ·intro l hl h
  refine Ev.step (fun k => by rw [spec_FlowReach.l0]) ?_
  exact Ev.pos rfl h
 ·intro l hl h
  have e : l = bl p.length g.Reach := eq_bl hl.1.len fun i hi => ⟨hl.1.sub i, fun hr => by
   clear hi
   induction hr with
   | zero => exact hl.2
   | step hu hn ih => exact Classical.byContradiction fun c => h _ (hf.reach _ hu) ⟨ih, _, hn, c⟩⟩
  rw [e]
  refine Ev.step (fun k => by rw [spec_FlowReach.l0]) ?_
  exact Ev.neg (by decide) (Ev.now _)
 ·intro i l a hi hl K
  refine Ev.step (fun k => by rw [spec_FlowReach.l1]) (Ev.pos (by omega) ?_)
  exact sreach_in hf _ l a i hi hl K _ 0 l a (Nat.zero_add _) hl (.inl ⟨rfl, rfl, fun k hk => by simp at hk⟩)
 ·intro l a hl h
  refine Ev.step (fun k => by rw [spec_FlowReach.l1]) ?_
  exact Ev.neg (by omega) h
theorem goes_iff (hf : Fit g p) {k i : Nat} (hk : k < p.length) : ((i : Int) ∈ p[k].f5) ↔ i ∈ g.next k := by
  rw [hf.next k hk]
  unfold ints
  rw [List.mem_map]
  exact ⟨fun ⟨a, h1, h2⟩ => by have : a = i := by omega
                               rwa [this] at h1, fun h => ⟨i, h, rfl⟩⟩
theorem spreds_in (hf : Fit g p) (r rows : List (List Int)) (i : Nat) (hr : rows.length ≤ 60) (K : Ev (fun k => spec_FlowPreds.l0 k (rows ++ [ints (preds g p.length i)]) (bl p.length g.Reach) (wrap64 ((i : Int) + 1)) p) r) :
  ∀ (d j : Nat), j + d = p.length → Ev (fun k => spec_FlowPreds.l1 k rows (bl p.length g.Reach) (i : Int) (ints ((List.range j).filter fun u => yes (g.Pred u i))) (j : Int) p) r
 | 0, j, hd => by
  obtain rfl : p.length = j := by omega
  refine Ev.step (fun k => by rw [spec_FlowPreds.l1]) ?_
  exact Ev.neg (by omega) (Ev.pos (by omega) K)
 | d + 1, j, hd => by
  have hj : j < p.length := by omega
  have hfew := hf.few
  have hle := List.length_filter_le (fun u => yes (g.Pred u i)) (List.range j)
  rw [List.length_range] at hle
  have ih := spreds_in hf r rows i hr K d (j + 1) (by omega)
  rw [List.range_succ, List.filter_append] at ih
  refine Ev.step (fun k => by rw [spec_FlowPreds.l1]) (Ev.pos (by omega) (Ev.pos (by omega) (Ev.pos (by rw [bl_len]; omega) ?_)))
  rw [rdS hj, wrapN (by omega)]
  refine Ev.cases (fun h => ?_) (fun h => ?_)
  ·have hr : g.Reach j := (rd_bl hj).1 h
   refine Ev.bind (goes_ev p[j] (i : Int) (by rw [hf.next j hj, ints_len]; have := hf.two j hj; omega)) (Ev.cases (fun h2 => ?_) (fun h2 => ?_))
   ·have hp : g.Pred j i := ⟨hr, (goes_iff hf hj).1 (by simpa using h2)⟩
    rw [show List.filter (fun u => yes (g.Pred u i)) [j] = [j] by simp [List.filter_cons, yes_iff.2 hp]] at ih
    refine Ev.pos (by rw [ints_len]; omega) ?_
    unfold ints at ih ⊢
    rw [List.map_append] at ih
    exact ih
   ·have hp : ¬ g.Pred j i := fun c => h2 (by simpa using (goes_iff hf hj).2 c.2)
    rw [show List.filter (fun u => yes (g.Pred u i)) [j] = [] by simp [List.filter_cons, yes_neg hp], List.append_nil] at ih
    exact ih
  ·have hp : ¬ g.Pred j i := fun c => h ((rd_bl hj).2 c.1)
   rw [show List.filter (fun u => yes (g.Pred u i)) [j] = [] by simp [List.filter_cons, yes_neg hp], List.append_nil] at ih
   exact ih
theorem spreds_loop (hf : Fit g p) : ∀ (d i : Nat), i + d = p.length → Ev (fun k => spec_FlowPreds.l0 k ((List.range i).map fun i => ints (preds g p.length i)) (bl p.length g.Reach) (i : Int) p) (prl g p.length)
 | 0, i, hd => by
  obtain rfl : p.length = i := by omega
  refine Ev.step (fun k => by rw [spec_FlowPreds.l0]) ?_
  exact Ev.neg (by omega) (Ev.now _)
 | d + 1, i, hd => by
  have hi : i < p.length := by omega
  have hfew := hf.few
  refine Ev.step (fun k => by rw [spec_FlowPreds.l0]) (Ev.pos (by omega) ?_)
  refine spreds_in hf _ _ i (by rw [List.length_map, List.length_range]; omega) ?_ p.length 0 (by omega)
  rw [wrapN (by omega)]
  have ih := spreds_loop hf d (i + 1) (by omega)
  rw [List.range_succ, List.map_append] at ih
  exact ih
theorem spreds_ev (hf : Fit g p) (hp : progOkB p = true) : Ev (fun k => spec_FlowPreds.f k p) (prl g p.length) := by
 unfold spec_FlowPreds.f
 exact Ev.put (Ev.bind (specProgOk_ev p) (Ev.pos hp (Ev.bind (sreach_ev hf hp) (spreds_loop hf p.length 0 (by omega)))))
theorem sall_ev (hf : Fit g p) (hp : progOkB p = true) : Ev (fun k => spec_l12All.f k p) (bl p.length g.Reach) := by
 have hfew := hf.few
 unfold spec_l12All.f
 refine Ev.put (Ev.bind (sreach_ev hf hp) (Ev.pos (by rw [bl_len]; simp; omega) (Ev.now _)))
theorem each_loop (l : List Bool) (ks : List Nat) (hk : ∀ k, k ∈ ks → k < l.length) (hl : ks.length ≤ 60) : ∀ (d i : Nat), i + d = ks.length → Ev (fun k => spec_l12Each.l0 k l (ints ks) (i : Int)) (yes (∀ k, k ∈ ks.drop i → on l k))
 | 0, i, hd => by
  refine Ev.step (fun k => by rw [spec_l12Each.l0]) (Ev.neg (by rw [ints_len]; omega) (Ev.eq (Ev.now _) ?_))
  rw [List.drop_eq_nil_of_le (by omega), yes_pos (by simp)]
 | d + 1, i, hd => by
  have hi : i < ks.length := by omega
  have hlt := hk _ (List.getElem_mem hi)
  refine Ev.step (fun k => by rw [spec_l12Each.l0]) ?_
  rw [rd_ints hi, wrapN (by omega)]
  refine Ev.pos (by rw [ints_len]; omega) (Ev.pos (by omega) (Ev.pos (by omega) (Ev.pos (by omega) (Ev.cases (fun h => ?_) (fun h => ?_)))))
  ·refine Ev.eq (each_loop l ks hk hl d (i + 1) (by omega)) (yes_congr ?_)
   rw [drop_at hi]
   exact ⟨fun q k hk => (List.mem_cons.1 hk).elim (fun e => e ▸ (on_rd hlt).1 h) (q k), fun q k hk => q k (List.mem_cons_of_mem _ hk)⟩
  ·refine Ev.eq (Ev.now _) (yes_neg fun q => h ((on_rd hlt).2 (q _ ?_))).symm
   rw [drop_at hi]; exact List.mem_cons_self
theorem seach_ev (l : List Bool) (ks : List Nat) (hk : ∀ k, k ∈ ks → k < l.length) (hl : ks.length ≤ 60) : Ev (fun k => spec_l12Each.f k l (ints ks)) (yes (∀ k, k ∈ ks → on l k)) := by
 unfold spec_l12Each.f
 exact Ev.eq (each_loop l ks hk hl ks.length 0 (by omega)) (by rw [List.drop_zero])
end
end Go.Proofs.Ytcgbbhkjkkpfoaa.P
