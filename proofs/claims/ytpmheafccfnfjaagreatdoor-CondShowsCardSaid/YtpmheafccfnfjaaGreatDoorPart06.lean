/- deep: how many levels a condition's text has. cond's reader: prim at a comparison. cond's reader: the descent, by induction over how many words there are. cond.parse. cond.parse, walked. slices.Grow and slices.Concat at nodes; sides. flat: sides of one word group from the left. cond.read, result, Show, Valid. terms, and what gathered's closure gathers. terms, gathered, Names, Vars. -/
import Derived.Deep.RegionHeld3
import Derived.Lib.AppendZerosOnto
import Derived.Laws.AppendOwn
import Derived.Test.YtpmheafccfnfjaaGreatDoorPart05
set_option linter.unusedSimpArgs false
set_option linter.unusedVariables false
namespace Go.Proofs.YtpmheafccfnfjaaGreatDoor
open Go Go.RowKit
theorem dp_cn : ∀ n : Nd, dp n + 1 ≤ 2 * (cn n : Int)
  | .pair op l r => by
    have hl := dp_cn l
    have hr := dp_cn r
    simp only [dp, pz, cn]
    split <;> split <;> omega
  | .no n => by
    have := dp_cn n
    simp only [dp, pz, cn]
    split <;> omega
  | .test _ _ _ => by simp [dp, cn]
  | .truth _ => by simp [dp, cn]
theorem cn_graft (op : Int) (a : Nd) : ∀ b, cn (graft op a b) = cn a + cn b + 1
  | .pair o l r => by
    unfold graft
    split
    · simp only [cn, cn_graft op a l]
      omega
    · simp only [cn]
  | .no _ => rfl
  | .test _ _ _ => rfl
  | .truth _ => rfl
theorem cn_fl : ∀ n, cn (fl n) = cn n
  | .pair op l r => by rw [fl, cn_graft, cn_fl l, cn_fl r]; rfl
  | .no n => by simp only [fl, cn, cn_fl n]
  | .test _ _ _ => rfl
  | .truth _ => rfl
set_option maxHeartbeats 1000000 in
set_option maxRecDepth 100000 in
theorem deep_pair (op least : Int) (tl tr : TypeId) (vl vr : Value) (A B : Int) (hA0 : 0 ≤ A) (hA1 : A ≤ 1000000) (hB0 : 0 ≤ B) (hB1 : B ≤ 1000000) (w : World)
    (HL : Fix 95 #[.iface tl vl, .int .i64 op] w (.int .i64 A)) (HR : Fix 95 #[.iface tr vr, .int .i64 op] w (.int .i64 B)) :
    Calls Tryz.prog 95 #[.iface 134 (.agg #[.int .i64 op, .iface tl vl, .iface tr vr]), .int .i64 least] w (Ret w (.int .i64 (pz least op + max A B))) := by
  unfold pz
  by_cases h : op < least
  · rw [if_pos h]
    go_enter Tryz.func95, Tryz.ntmps95
    go_wp2_with (go_at_call 248; refine Calls_ret (lev_p _ _ _ _ _ _) ?_; intro y1)
    refine wp_region_xt (by kernel_rfl) (by kernel_rfl) ?_
    repeat (go_big_quiet_step (first | (with_reducible exact Calls_in (HL.out _ ((((kp_xt _ _).alloc _).more _)))) | (with_reducible exact Calls_in (HR.out _ ((((kp_xt _ _).alloc _).more _))))))
    refine wpQuiet_nil ?_
    intro x1
    go_wp2
    go_ret
    exact ret_of (v_int (by omega)) (((kp_xt _ _).alloc _).more _)
  · rw [if_neg h]
    go_enter Tryz.func95, Tryz.ntmps95
    go_wp2_with (go_at_call 248; refine Calls_ret (lev_p _ _ _ _ _ _) ?_; intro y1)
    refine wp_region_xt (by kernel_rfl) (by kernel_rfl) ?_
    repeat (go_big_quiet_step (first | (with_reducible exact Calls_in (HL.out _ ((((kp_xt _ _).alloc _).more _)))) | (with_reducible exact Calls_in (HR.out _ ((((kp_xt _ _).alloc _).more _))))))
    refine wpQuiet_nil ?_
    intro x1
    go_wp2
    go_ret
    exact ret_of (v_int (by omega)) (((kp_xt _ _).alloc _).more _)
theorem deep_no (least : Int) (t : TypeId) (v : Value) (A : Int) (hA0 : 0 ≤ A) (hA1 : A ≤ 1000000) (w : World) (HL : Fix 95 #[.iface t v, .int .i64 4] w (.int .i64 A)) :
    Calls Tryz.prog 95 #[.iface 88 (.agg #[.iface t v]), .int .i64 least] w (Ret w (.int .i64 (pz least 3 + (1 + A)))) := by
  unfold pz
  by_cases h : 3 < least
  · rw [if_pos h]
    go_enter Tryz.func95, Tryz.ntmps95
    go_wp2_with (first | (go_at_call 246; refine Calls_ret (lev_n _ _) ?_; intro y1) | (go_at_call 95; refine Calls_ret (HL.out _ ((kp_xt _ _).alloc _)) ?_; intro y2))
    go_ret
    exact ret_of (v_int (by omega)) (((kp_xt _ _).alloc _).more _)
  · rw [if_neg h]
    go_enter Tryz.func95, Tryz.ntmps95
    go_wp2_with (first | (go_at_call 246; refine Calls_ret (lev_n _ _) ?_; intro y1) | (go_at_call 95; refine Calls_ret (HL.out _ ((kp_xt _ _).alloc _)) ?_; intro y2))
    go_ret
    exact ret_of (v_int (by omega)) (((kp_xt _ _).alloc _).more _)
theorem deep_test (v : Value) (least : Int) (w : World) : Calls Tryz.prog 95 #[.iface 117 v, .int .i64 least] w (Ret w (.int .i64 (pz least 4))) := by
  unfold pz
  by_cases h : 4 < least
  · rw [if_pos h]
    go_enter Tryz.func95, Tryz.ntmps95
    go_wp2_with (go_at_call 247; refine Calls_ret (lev_t _ _) ?_; intro y1)
    go_ret
    exact ret_of rfl (kp_xt _ _)
  · rw [if_neg h]
    go_enter Tryz.func95, Tryz.ntmps95
    go_wp2_with (go_at_call 247; refine Calls_ret (lev_t _ _) ?_; intro y1)
    go_ret
    exact ret_of rfl (kp_xt _ _)
theorem deep_truth (v : Value) (least : Int) (w : World) : Calls Tryz.prog 95 #[.iface 140 v, .int .i64 least] w (Ret w (.int .i64 (pz least 4))) := by
  unfold pz
  by_cases h : 4 < least
  · rw [if_pos h]
    go_enter Tryz.func95, Tryz.ntmps95
    go_wp2_with (go_at_call 249; refine Calls_ret (lev_u _ _) ?_; intro y1)
    go_ret
    exact ret_of rfl (kp_xt _ _)
  · rw [if_neg h]
    go_enter Tryz.func95, Tryz.ntmps95
    go_wp2_with (go_at_call 249; refine Calls_ret (lev_u _ _) ?_; intro y1)
    go_ret
    exact ret_of rfl (kp_xt _ _)
/-- cond.deep. -/
theorem deep_ret : ∀ (n : Nd) (least : Int) (w : World), cn n ≤ 100000 → Calls Tryz.prog 95 #[nv n, .int .i64 least] w (Ret w (.int .i64 (dpS n least)))
  | .pair op l r, least, w, hc => by
    simp only [cn] at hc
    have hl := fun W => deep_ret l op W (by omega)
    have hr := fun W => deep_ret r op W (by omega)
    have b1 := dp_cn l
    have b2 := dp_cn r
    have b3 := dp_pos l
    have b4 := dp_pos r
    rw [nv]
    obtain ⟨tl, vl, el⟩ := nv_iface l
    obtain ⟨tr, vr, er⟩ := nv_iface r
    rw [el] at hl ⊢
    rw [er] at hr ⊢
    have p1 : 0 ≤ pz op (lvl l) ∧ pz op (lvl l) ≤ 1 := by unfold pz; split <;> omega
    have p2 : 0 ≤ pz op (lvl r) ∧ pz op (lvl r) ≤ 1 := by unfold pz; split <;> omega
    exact deep_pair op least tl tr vl vr _ _ (by omega) (by omega) (by omega) (by omega) w (Lib.hid fun W _ => hl W) (Lib.hid fun W _ => hr W)
  | .no n, least, w, hc => by
    simp only [cn] at hc
    have hl := fun W => deep_ret n 4 W (by omega)
    have b1 := dp_cn n
    have b3 := dp_pos n
    rw [nv]
    obtain ⟨tl, vl, el⟩ := nv_iface n
    rw [el] at hl ⊢
    have p1 : 0 ≤ pz 4 (lvl n) ∧ pz 4 (lvl n) ≤ 1 := by unfold pz; split <;> omega
    exact deep_no least tl vl _ (by omega) (by omega) w (Lib.hid fun W _ => hl W)
  | .test op a b, least, w, hc => by
    have := deep_test (.agg #[.string (st op), .string (tvA a), .bool (tvB a), .int .i64 (tvK a), .int .i64 (tvN a), .string (tvS a), .string (tvA b), .bool (tvB b), .int .i64 (tvK b), .int .i64 (tvN b), .string (tvS b)]) least w
    simpa [dpS, dp, lvl, nv] using this
  | .truth b, least, w, hc => by
    have := deep_truth (.agg #[.bool b]) least w
    simpa [dpS, dp, lvl, nv] using this
end Go.Proofs.YtpmheafccfnfjaaGreatDoor
namespace Go.Proofs.YtpmheafccfnfjaaGreatDoor
open Go Go.RowKit
theorem Calls_cast {P : Program} {f : FuncId} {args : Array Value} {w w' : World} {R : Ending → World → Prop} (h : w = w') (k : Calls P f args w' R) : Calls P f args w R := by subst h; exact k
theorem kb_xt {b : Nat} {w x : World} (h : Kb b w x) (hb : b < w.heap.size) {o : Obj} (ho : x.heap[b]? = some o) : ∃ W1 y, x = sb (xt W1 y) b o ∧ Kp w W1 ∧ b < W1.heap.size ∧ W1.heap.size = x.heap.size ∧ ∀ k, k ≠ b → W1.heap[k]? = x.heap[k]? := by
  obtain ⟨y, hy⟩ := h.out hb ho
  have hbx : b < x.heap.size := Nat.lt_of_lt_of_le hb h.size
  have hk : Kp w (sb x b (w.heap[b]'hb)) := by
    refine ⟨by rw [size_sb]; exact h.size, h.os, h.tape, h.output, fun k hk => ?_⟩
    by_cases e : k = b
    · subst e
      rw [heap_sb_same x k _ hbx]
      exact (Array.getElem?_eq_getElem hk).symm
    · rw [heap_sb_other x b _ e]
      exact h.block k hk e
  refine ⟨sb x b (w.heap[b]'hb), sb x b (w.heap[b]'hb), ?_, hk, by simpa using hbx, by simp, fun k hk => heap_sb_other x b _ hk⟩
  rw [show xt (sb x b (w.heap[b]'hb)) (sb x b (w.heap[b]'hb)) = sb x b (w.heap[b]'hb) from by rw [xt, if_pos (Kp.refl _)], sb_sb]
  conv => lhs; rw [hy]
  rw [hy, sb_sb]
theorem pr_base {w y : World} {b : Nat} {o : Obj} (hb : b < w.heap.size) (v0 v1 v2 v3 v4 : Value) : ∃ W1 y', (sb (xt w y) b o).alloc (.cells #[v0, v1, v2, v3, v4] 93) = sb (xt W1 y') b o ∧ Kp w W1 ∧ b < W1.heap.size ∧
    W1.heap[(xt w y).heap.size]? = some (.cells #[v0, v1, v2, v3, v4] 93 (0, 0)) ∧ (xt w y).heap.size ≠ b := by
  have hbx : b < (xt w y).heap.size := Nat.lt_of_lt_of_le hb (size_xt w y)
  have hne : (xt w y).heap.size ≠ b := Nat.ne_of_gt hbx
  have h0 : ((sb (xt w y) b o).alloc (.cells #[v0, v1, v2, v3, v4] 93)).heap[(xt w y).heap.size]? = some (.cells #[v0, v1, v2, v3, v4] 93 (0, 0)) := by
    have := World.alloc_heap_new (sb (xt w y) b o) (.cells #[v0, v1, v2, v3, v4] 93)
    rwa [size_sb] at this
  have hb2 : ((sb (xt w y) b o).alloc (.cells #[v0, v1, v2, v3, v4] 93)).heap[b]? = some o := by
    rw [Lib.alloc_old _ _ _ (by simpa using hbx)]
    exact heap_sb_same _ _ _ hbx
  have hk : Kb b w ((sb (xt w y) b o).alloc (.cells #[v0, v1, v2, v3, v4] 93)) := (((Kb.refl b w).more y).setB o).alloc _
  obtain ⟨W1, y', e1, e2, e3, e4, e5⟩ := kb_xt hk hb hb2
  exact ⟨W1, y', e1, e2, e3, by rw [e5 _ hne]; exact h0, hne⟩
def pTest (T : List Bs) (d : Int) : PRes := match pTerm T with
  | none => none
  | some (a, T1) => if isRel (hd T1) then (match pTerm T1.tail with | none => none | some (b, T2) => some (.test (hd T1) a b, T2, d)) else none
set_option maxHeartbeats 2000000 in
set_option maxRecDepth 100000 in
theorem prim_test (b : Nat) (s : ByteArray) (hb8 : 8 ≤ b) (hs : s.size ≤ 1000) (lv : Int) (T : List Bs) (n : Nat) (d : Int) (w : World) (h : w.heap[b]? = some (rdO s n d)) (hn : n ≤ s.size) (hT : toks (sfx s n) = T) (hg : Glob w) (hat : atE rdsL (st (hd T)) = none) (R : Ending → World → Prop) (HR : Hid (∀ e w', NodeOK w b s (pTest T d) e w' → R e w')) :
    Calls Tryz.prog 207 #[.pointer (some ⟨b, 0, none⟩), .int .i64 lv] w R := by
  have hb : b < w.heap.size := (Array.getElem?_eq_some_iff.1 h).1
  obtain ⟨m, HW, hm1, hm2, hm3, hm4⟩ := word_hd h hn hs hT
  have HL := Lib.hid (fun (W : World) (r : Nat) (hr : W.heap[r]? = some (Obj.map (rdsE 3) 3)) => by have := look_rds W r hr (st (hd T)); rw [hat] at this; exact this)
  have HT := Lib.hid (fun y => term_ret s d b hb8 hs T m (sb (xt w y) b (rdO s m d)) (sb_is hb) hm3 hm4 ((hg.xt y).sb hb8 _))
  replace HW := Lib.hid HW
  clear h hT hat hm2 hm4
  unfold TermOK at HT
  cases hp : pTerm T with
  | none =>
    rw [hp] at HT
    have HB : Hid (∀ w', Kb b w w' → R (.panicked [{ v := wrongC, recovered := false }]) w') := fun w' hk => HR.out _ _ (by unfold pTest; rw [hp]; exact ⟨rfl, hk⟩)
    have HT2 : Hid (∀ y, Calls Tryz.prog 118 #[.pointer (some ⟨b, 0, none⟩)] (sb (xt w y) b (rdO s m d)) (PanB (sb (xt w y) b (rdO s m d)) b wrongC)) := HT
    generalize st (hd T) = q at *
    clear hp HT HR
    go_enter Tryz.func207, Tryz.ntmps207
    go_wp2_with (first | (go_at_call 119; refine Calls_retB HW.out hb ?_; intro y1) | (go_at_call 218; refine (readers_ret _).mono ?_; rintro e w' ⟨r, rfl, hk, hr, hm⟩; obtain ⟨y2, rfl, _⟩ := sb_kp (F := fun _ => True) (fun _ _ => trivial) hb trivial hk; have hlk := HL.out _ r hm; clear hk hr hm) | (go_at_call 118; refine Calls_panBS (HT2.out _) ?_; intro w3 hk3))
    exact ⟨rfl, HB.out _ hk3⟩
  | some r =>
    obtain ⟨a, T1⟩ := r
    rw [hp] at HT
    have HT2 : Hid (∀ y, Calls Tryz.prog 118 #[.pointer (some ⟨b, 0, none⟩)] (sb (xt w y) b (rdO s m d)) (RetT (sb (xt w y) b (rdO s m d)) b s T1 d (tm5 (tvA a) (tvB a) (tvK a) (tvN a) (tvS a)))) := fun y => by
      have := HT.out y
      rw [← tv_eq]
      exact this
    have HW2 := Lib.hid (fun (W : World) (n' : Nat) (h' : W.heap[b]? = some (rdO s n' d)) (hn' : n' ≤ s.size) (hT' : toks (sfx s n') = T1) => word_hd h' hn' hs hT')
    have HX := Lib.hid (fun (W : World) (n' : Nat) (h' : W.heap[b]? = some (rdO s n' d)) (hn' : n' ≤ s.size) (hT' : toks (sfx s n') = T1.tail) (hg' : Glob W) => term_ret s d b hb8 hs T1.tail n' W h' hn' hT' hg')
    generalize st (hd T) = q at *
    cases hrel : atE relL (st (hd T1)) with
    | none =>
      have HL2 := Lib.hid (fun (W : World) (r : Nat) (hr : W.heap[r]? = some (Obj.map (relE 6) 6)) => by have := look_rel W r hr (st (hd T1)); rw [hrel] at this; exact this)
      have HB : Hid (∀ w', Kb b w w' → R (.panicked [{ v := wrongC, recovered := false }]) w') := fun w' hk => HR.out _ _ (by unfold pTest; rw [hp]; simp only [isRel, hrel]; exact ⟨rfl, hk⟩)
      generalize st (hd T1) = q1 at *
      clear hp HT HR HX hrel
      go_enter Tryz.func207, Tryz.ntmps207
      go_wp2_with (first | (go_at_call 119; refine Calls_retB HW.out hb ?_; intro y1) | (go_at_call 218; refine (readers_ret _).mono ?_; rintro e w' ⟨r, rfl, hk, hr, hm⟩; obtain ⟨y2, rfl, _⟩ := sb_kp (F := fun _ => True) (fun _ _ => trivial) hb trivial hk; have hlk := HL.out _ r hm; clear hk hr hm) | (go_at_call 118; refine Calls_retT hb (HT2.out _) ?_; intro y3 n3 hn3 ht3; obtain ⟨W1, y4, hW, hk1, hb1, hr1, hne1⟩ := pr_base (y := y3) (o := rdO s n3 d) hb (.string (tvA a)) (.bool (tvB a)) (.int .i64 (tvK a)) (.int .i64 (tvN a)) (.string (tvS a)); replace hW := Lib.hid hW; replace hr1 := Lib.hid hr1) | (go_at_call 119; refine Calls_cast hW.out ?_; obtain ⟨m4, HW4, f1, f2, f3, f4⟩ := HW2.out (sb (xt W1 y4) b (rdO s n3 d)) n3 (sb_is hb1) hn3 ht3; refine Calls_retBS hb1 HW4 ?_; intro y5; replace f2 := Lib.hid f2; replace f4 := Lib.hid f4; clear HW4) | (go_at_call 106; refine (relations_ret _).mono ?_; rintro e w' ⟨r2, rfl, hk, hr, hm⟩; obtain ⟨y6, rfl, _⟩ := sb_kp (F := fun _ => True) (fun _ _ => trivial) hb1 trivial hk; have hlk2 := HL2.out _ r2 hm; clear hk hr hm))
      exact ⟨rfl, HB.out _ (((Kb.of_kp hk1).more _).setB _)⟩
    | some f =>
      have HL2 := Lib.hid (fun (W : World) (r : Nat) (hr : W.heap[r]? = some (Obj.map (relE 6) 6)) => by have := look_rel W r hr (st (hd T1)); rw [hrel] at this; exact this)
      have hR : Hid (isRel (hd T1) = true) := by show _ = _; simp [isRel, hrel]
      have hR2 : Hid (st (hd T1) = st (hd T1)) := rfl
      generalize hq1 : st (hd T1) = q1 at *
      cases hp2 : pTerm T1.tail with
      | none =>
        have HB : Hid (∀ w', Kb b w w' → R (.panicked [{ v := wrongC, recovered := false }]) w') := fun w' hk => HR.out _ _ (by unfold pTest; rw [hp]; simp only [hR.out, if_true, hp2]; exact ⟨rfl, hk⟩)
        have HX2 : Hid (∀ (W : World) (n' : Nat), W.heap[b]? = some (rdO s n' d) → n' ≤ s.size → toks (sfx s n') = T1.tail → Glob W → Calls Tryz.prog 118 #[.pointer (some ⟨b, 0, none⟩)] W (PanB W b wrongC)) := fun W n' a1 a2 a3 a4 => by
          have := HX.out W n' a1 a2 a3 a4
          unfold TermOK at this
          rwa [hp2] at this
        clear hp HT HR HX hrel hp2 hq1
        go_enter Tryz.func207, Tryz.ntmps207
        go_wp2_with (first | (go_at_call 119; refine Calls_retB HW.out hb ?_; intro y1) | (go_at_call 218; refine (readers_ret _).mono ?_; rintro e w' ⟨r, rfl, hk, hr, hm⟩; obtain ⟨y2, rfl, _⟩ := sb_kp (F := fun _ => True) (fun _ _ => trivial) hb trivial hk; have hlk := HL.out _ r hm; clear hk hr hm) | (go_at_call 118; refine Calls_retT hb (HT2.out _) ?_; intro y3 n3 hn3 ht3; obtain ⟨W1, y4, hW, hk1, hb1, hr1, hne1⟩ := pr_base (y := y3) (o := rdO s n3 d) hb (.string (tvA a)) (.bool (tvB a)) (.int .i64 (tvK a)) (.int .i64 (tvN a)) (.string (tvS a)); replace hW := Lib.hid hW; replace hr1 := Lib.hid hr1) | (go_at_call 119; refine Calls_cast hW.out ?_; obtain ⟨m4, HW4, f1, f2, f3, f4⟩ := HW2.out (sb (xt W1 y4) b (rdO s n3 d)) n3 (sb_is hb1) hn3 ht3; refine Calls_retBS hb1 HW4 ?_; intro y5; replace f2 := Lib.hid f2; replace f4 := Lib.hid f4; clear HW4) | (go_at_call 106; refine (relations_ret _).mono ?_; rintro e w' ⟨r2, rfl, hk, hr, hm⟩; obtain ⟨y6, rfl, _⟩ := sb_kp (F := fun _ => True) (fun _ _ => trivial) hb1 trivial hk; have hlk2 := HL2.out _ r2 hm; clear hk hr hm))
        have F : ∀ y o i, (sb (xt W1 y) b o).cell? ⟨(xt w y3).heap.size, i, none⟩ = (#[Value.string (tvA a), .bool (tvB a), .int .i64 (tvK a), .int .i64 (tvN a), .string (tvS a)])[i]? := fun y o i => Lib.cell_of_heap (by rw [heap_sb_other _ _ _ hne1, heap_xt _ _ (Array.getElem?_eq_some_iff.1 hr1.out).1]; exact hr1.out) i
        refine wp_region_each 7 rfl (by kernel_rfl) ?_
        refine wpAny_take (i := 0) (v := .string q1) rfl (by kernel_rfl) (by kernel_rfl) (by kernel_rfl) (fun _ _ _ h => h) (.inl ⟨by kernel_rfl, fun w => rfl⟩) ?_
        refine wpAny_take (i := 2) (v := .pointer (some ⟨b, 0, none⟩)) rfl (by kernel_rfl) (by kernel_rfl) (by kernel_rfl) (fun _ _ _ h => h) (.inl ⟨by kernel_rfl, fun w => rfl⟩) ?_
        have G0 := Lib.cell_of_heap hr1.out 0
        have G1 := Lib.cell_of_heap hr1.out 1
        have G2 := Lib.cell_of_heap hr1.out 2
        have G3 := Lib.cell_of_heap hr1.out 3
        have G4 := Lib.cell_of_heap hr1.out 4
        have rl := (Array.getElem?_eq_some_iff.1 hr1.out).1
        refine wpAny_two (i := 1) (j := 3) (by kernel_rfl) rfl rfl ?_ ?_
        · go_wp2
          refine wpAny_one (i := 3) (by kernel_rfl) rfl ?_
          go_wp2_with (go_at_call 118; refine Calls_panB (HX2.out _ (m4 + q1.size) (sb_is hb1) f1 f2.out (((hg.kp hk1).xt y6).drew.sb hb8 _)) ?_; intro w3 hk3)
          exact ⟨rfl, HB.out _ (((((Kb.of_kp hk1).more y6).setB _).drew).trans hk3)⟩
        · go_wp2_with (go_at_call 118; refine Calls_panB (HX2.out _ (m4 + q1.size) (sb_is hb1) f1 f2.out (((hg.kp hk1).xt y6).drew.sb hb8 _)) ?_; intro w3 hk3)
          exact ⟨rfl, HB.out _ (((((Kb.of_kp hk1).more y6).setB _).drew).trans hk3)⟩
      | some r2 =>
        obtain ⟨c, T2⟩ := r2
        have HB : Hid (∀ e w', RetT w b s T2 d (.iface 117 (.agg #[.string q1, .string (tvA a), .bool (tvB a), .int .i64 (tvK a), .int .i64 (tvN a), .string (tvS a), .string (tvA c), .bool (tvB c), .int .i64 (tvK c), .int .i64 (tvN c), .string (tvS c)])) e w' → R e w') := fun e w' hh => HR.out _ _ (by
          unfold pTest
          rw [hp]
          simp only [hR.out, if_true, hp2]
          show RetT w b s T2 d (nv (.test (hd T1) a c)) e w'
          rw [nv, hq1]
          exact hh)
        have HX2 : Hid (∀ (W : World) (n' : Nat), W.heap[b]? = some (rdO s n' d) → n' ≤ s.size → toks (sfx s n') = T1.tail → Glob W → Calls Tryz.prog 118 #[.pointer (some ⟨b, 0, none⟩)] W (RetT W b s T2 d (tm5 (tvA c) (tvB c) (tvK c) (tvN c) (tvS c)))) := fun W n' a1 a2 a3 a4 => by
          have := HX.out W n' a1 a2 a3 a4
          unfold TermOK at this
          rw [hp2] at this
          rw [← tv_eq]
          exact this
        clear hp HT HR HX hrel hp2 hq1
        go_enter Tryz.func207, Tryz.ntmps207
        go_wp2_with (first | (go_at_call 119; refine Calls_retB HW.out hb ?_; intro y1) | (go_at_call 218; refine (readers_ret _).mono ?_; rintro e w' ⟨r, rfl, hk, hr, hm⟩; obtain ⟨y2, rfl, _⟩ := sb_kp (F := fun _ => True) (fun _ _ => trivial) hb trivial hk; have hlk := HL.out _ r hm; clear hk hr hm) | (go_at_call 118; refine Calls_retT hb (HT2.out _) ?_; intro y3 n3 hn3 ht3; obtain ⟨W1, y4, hW, hk1, hb1, hr1, hne1⟩ := pr_base (y := y3) (o := rdO s n3 d) hb (.string (tvA a)) (.bool (tvB a)) (.int .i64 (tvK a)) (.int .i64 (tvN a)) (.string (tvS a)); replace hW := Lib.hid hW; replace hr1 := Lib.hid hr1) | (go_at_call 119; refine Calls_cast hW.out ?_; obtain ⟨m4, HW4, f1, f2, f3, f4⟩ := HW2.out (sb (xt W1 y4) b (rdO s n3 d)) n3 (sb_is hb1) hn3 ht3; refine Calls_retBS hb1 HW4 ?_; intro y5; replace f2 := Lib.hid f2; replace f4 := Lib.hid f4; clear HW4) | (go_at_call 106; refine (relations_ret _).mono ?_; rintro e w' ⟨r2, rfl, hk, hr, hm⟩; obtain ⟨y6, rfl, _⟩ := sb_kp (F := fun _ => True) (fun _ _ => trivial) hb1 trivial hk; have hlk2 := HL2.out _ r2 hm; clear hk hr hm))
        have E : ∀ i, (sb (xt W1 y6) b (rdO s (m4 + q1.size : Nat) d)).drew.cell? ⟨(xt w y3).heap.size, i, none⟩ = (#[Value.string (tvA a), .bool (tvB a), .int .i64 (tvK a), .int .i64 (tvN a), .string (tvS a)])[i]? := fun i => Lib.cell_of_heap (w := sb (xt W1 y6) b (rdO s (m4 + q1.size : Nat) d)) (by rw [heap_sb_other _ _ _ hne1, heap_xt _ _ (Array.getElem?_eq_some_iff.1 hr1.out).1]; exact hr1.out) i
        have hlt : (xt w y3).heap.size < (sb (xt W1 y6) b (rdO s (m4 + q1.size : Nat) d)).drew.heap.size := Nat.lt_of_lt_of_le (Array.getElem?_eq_some_iff.1 hr1.out).1 (by rw [show (sb (xt W1 y6) b (rdO s (m4 + q1.size : Nat) d)).drew.heap.size = (sb (xt W1 y6) b (rdO s (m4 + q1.size : Nat) d)).heap.size from rfl, size_sb]; exact size_xt _ _)
        have HC := Lib.hid (HX2.out (sb (xt W1 y6) b (rdO s (m4 + q1.size : Nat) d)).drew (m4 + q1.size) (sb_is hb1) f1 f2.out ((((hg.kp hk1).xt y6).sb hb8 _).drew))
        have HD : ∀ w3, Kb b (sb (xt W1 y6) b (rdO s (m4 + q1.size : Nat) d)).drew w3 → ∀ i, w3.cell? ⟨(xt w y3).heap.size, i, none⟩ = (#[Value.string (tvA a), .bool (tvB a), .int .i64 (tvK a), .int .i64 (tvN a), .string (tvS a)])[i]? := fun w3 hk3 i => (World.cell?_of_block (a := ⟨(xt w y3).heap.size, i, none⟩) (hk3.block _ hlt hne1)).trans (E i)
        go_region_held3 (fun w' => w'.cell? ⟨(xt w y3).heap.size, 0, none⟩ = some (Value.string (tvA a)) ∧ w'.cell? ⟨(xt w y3).heap.size, 1, none⟩ = some (Value.bool (tvB a)) ∧ w'.cell? ⟨(xt w y3).heap.size, 2, none⟩ = some (Value.int .i64 (tvK a)) ∧ w'.cell? ⟨(xt w y3).heap.size, 3, none⟩ = some (Value.int .i64 (tvN a)) ∧ w'.cell? ⟨(xt w y3).heap.size, 4, none⟩ = some (Value.string (tvS a))) (first | exact ⟨E 0, E 1, E 2, E 3, E 4⟩ | exact ⟨D 0, D 1, D 2, D 3, D 4⟩)
          (first | (go_at_call 118; refine HC.out.mono ?_; rintro e w3 ⟨rfl, hk3, n5, hn5, ht5, ho5⟩; have D := HD w3 hk3))
        go_wp2
        exact HB.out _ _ ⟨rfl, ((((Kb.of_kp hk1).more y6).setB _).drew).trans hk3, n5, hn5, ht5, ho5⟩
end Go.Proofs.YtpmheafccfnfjaaGreatDoor
namespace Go.Proofs.YtpmheafccfnfjaaGreatDoor
open Go Go.RowKit
/-- The greatest level stays within bounds. -/
def Bd (lv : Int) (f : List Bs → Int → PRes) : Prop := ∀ (T : List Bs) (d : Int) (n : Nd) (T' : List Bs) (d' : Int), f T d = some (n, T', d') → d ≤ d' ∧ d' ≤ max d (lv + T.length)
theorem pMore_bd {lv : Int} {side : List Bs → Int → PRes} (hs : Shr side) (hb : Bd lv side) {w : Bs} {op : Int} : ∀ {f : Nat} {n0 : Nd} {T : List Bs} {d : Int} {n : Nd} {T' : List Bs} {d' : Int}, pMore side w op f n0 T d = some (n, T', d') → d ≤ d' ∧ d' ≤ max d (lv + T.length)
  | 0, _, _, _, _, _, _, h => by cases h
  | f + 1, n0, T, d, n, T', d', h => by
    unfold pMore at h
    split at h
    · split at h
      · rename_i m T1 d1 hp
        have h1 := hs _ _ _ _ _ hp
        have h3 := hb _ _ _ _ _ hp
        have h2 := pMore_bd hs hb h
        have : T.tail.length ≤ T.length := by simp
        omega
      · cases h
    · cases h
      omega
theorem pMany_bd {lv : Int} {side : List Bs → Int → PRes} (hs : Shr side) (hb : Bd lv side) {w : Bs} {op : Int} : Bd lv (pMany side w op) := by
  intro T d n T' d' h
  unfold pMany at h
  split at h
  · rename_i m T1 d1 hp
    have h1 := hs _ _ _ _ _ hp
    have h3 := hb _ _ _ _ _ hp
    have h2 := pMore_bd hs hb h
    omega
  · cases h
theorem pNot_bd {prim : Int → List Bs → Int → PRes} (hp : ∀ lv, Bd lv (prim lv)) (lv : Int) : Bd lv (pNot prim lv) := by
  intro T d n T' d' h
  unfold pNot at h
  split at h
  · rename_i hh
    cases T with
    | nil => simp [hd] at hh
    | cons t u =>
      cases hr : prim (lv + 1) (t :: u).tail (max d (lv + 1)) with
      | none => rw [hr] at h; cases h
      | some r =>
        obtain ⟨m, T1, d1⟩ := r
        rw [hr] at h
        cases h
        have := hp _ _ _ _ _ _ hr
        simp only [List.tail_cons, List.length_cons] at this ⊢
        omega
  · exact hp _ _ _ _ _ _ h
theorem pOr_bd {prim : Int → List Bs → Int → PRes} (hs : ∀ lv, Shr (prim lv)) (hp : ∀ lv, Bd lv (prim lv)) (lv : Int) : Bd lv (pOr prim lv) :=
  pMany_bd (pMany_len (pNot_len hs lv)) (pMany_bd (pNot_len hs lv) (pNot_bd hp lv))
theorem pPrim_bd : ∀ (k : Nat) (lv : Int), Bd lv (pPrim k lv)
  | 0, lv => by intro T d n T' d' h; cases h
  | k + 1, lv => by
    intro T d n T' d' h
    unfold pPrim at h
    split at h
    · cases h; omega
    · split at h
      · cases h; omega
      · split at h
        · rename_i hh
          split at h
          · rename_i m T1 d1 hp
            have h1 := pOr_bd (fun lv => pPrim_len k lv) (fun lv => pPrim_bd k lv) _ _ _ _ _ _ hp
            split at h
            · cases h
              cases T with
              | nil => simp [hd] at hh
              | cons t u =>
                simp only [List.tail_cons, List.length_cons] at h1 ⊢
                omega
            · cases h
          · cases h
        · split at h
          · cases h
          · split at h
            · split at h
              · cases h
              · cases h; omega
            · cases h
theorem bd_ok {g : Int → List Bs → Int → PRes} (h : ∀ lv, Bd lv (g lv)) : ∀ lv T d n T' d', 0 ≤ lv → 0 ≤ d → d ≤ 1000000 → lv ≤ 100000 - (T.length : Int) → g lv T d = some (n, T', d') → 0 ≤ d' ∧ d' ≤ 1000000 := fun lv T d n T' d' h0 h1 h2 h3 hh => by
  have := h lv T d n T' d' hh
  omega
theorem and_does (b : Nat) (s : ByteArray) (hb8 : 8 ≤ b) (hs : s.size ≤ 1000) (g : Int → List Bs → Int → PRes) (hg1 : ∀ lv, Shr (g lv)) (hg2 : ∀ lv, Bd lv (g lv)) (k : Nat) (hp : Does 193 b s g k) : Does 173 b s (fun lv => pMany (g lv) wAnd 2) k :=
  fun lv T n d w h hn hT hg hk h0 h1 h2 h3 => and_walk b s hb8 hs g hg1 (bd_ok hg2) k hp lv T n d w h hn hT hg hk h0 h1 h2 h3 _ (Lib.hid fun _ _ hh => hh)
theorem or_does (b : Nat) (s : ByteArray) (hb8 : 8 ≤ b) (hs : s.size ≤ 1000) (g : Int → List Bs → Int → PRes) (hg1 : ∀ lv, Shr (g lv)) (hg2 : ∀ lv, Bd lv (g lv)) (k : Nat) (hp : Does 173 b s g k) : Does 136 b s (fun lv => pMany (g lv) wOr 1) k :=
  fun lv T n d w h hn hT hg hk h0 h1 h2 h3 => or_walk b s hb8 hs g hg1 (bd_ok hg2) k hp lv T n d w h hn hT hg hk h0 h1 h2 h3 _ (Lib.hid fun _ _ hh => hh)
theorem rds_none {t : Bs} (h1 : t ≠ wTrue) (h2 : t ≠ wFalse) (h3 : t ≠ [40]) : atE rdsL (st t) = none := by
  have key : ∀ (c : ByteArray), t ≠ c.data.toList → (st t == c) = false := fun c h => by
    rw [Bool.eq_false_iff]
    intro e
    exact h (by rw [← beq_iff_toList.1 e, st_list])
  have k1 := key ⟨#[116, 114, 117, 101]⟩ h1
  have k2 := key ⟨#[102, 97, 108, 115, 101]⟩ h2
  have k3 := key ⟨#[40]⟩ h3
  simp only [rdsL, atE, k1, k2, k3, Bool.false_eq_true, if_false]
theorem prim_does (b : Nat) (s : ByteArray) (hb8 : 8 ≤ b) (hs : s.size ≤ 1000) (k : Nat) (hp : Does 136 b s (pOr (pPrim k)) k) : Does 207 b s (pPrim (k + 1)) (k + 1) := by
  intro lv T n d w h hn hT hg hk h0 h1 h2 h3
  by_cases c1 : hd T = wTrue
  · have := prim_true b s hs lv T n d w h hn hT (by rw [c1]; decide +kernel)
    refine this.mono fun e w' hh => ?_
    unfold pPrim
    rw [if_pos c1]
    exact hh
  · by_cases c2 : hd T = wFalse
    · have := prim_false b s hs lv T n d w h hn hT (by rw [c2]; decide +kernel)
      refine this.mono fun e w' hh => ?_
      unfold pPrim
      rw [if_neg c1, if_pos c2]
      exact hh
    · by_cases c3 : hd T = [40]
      · refine prim_par b s hb8 hs (pOr (pPrim k)) k hp lv T n d w h hn hT hg hk h0 h1 h2 h3 c3 (by rw [c3]; decide +kernel) _ (Lib.hid fun e w' hh => ?_)
        unfold pPrim
        rw [if_neg c1, if_neg c2, if_pos c3]
        exact hh
      · refine prim_test b s hb8 hs lv T n d w h hn hT hg (rds_none c1 c2 c3) _ (Lib.hid fun e w' hh => ?_)
        unfold pPrim
        rw [if_neg c1, if_neg c2, if_neg c3]
        exact hh
/-- cond's reader: prim, whatever there is to read. -/
theorem prim_all (b : Nat) (s : ByteArray) (hb8 : 8 ≤ b) (hs : s.size ≤ 1000) : ∀ k, Does 207 b s (pPrim k) k
  | 0 => fun lv T n d w h hn hT hg hk => absurd hk (Nat.not_lt_zero _)
  | k + 1 => by
    have hn := not_does b s hb8 hs (pPrim k) k (prim_all b s hb8 hs k)
    have ha := and_does b s hb8 hs _ (pNot_len fun lv => pPrim_len k lv) (pNot_bd fun lv => pPrim_bd k lv) k hn
    have ho := or_does b s hb8 hs _ (fun lv => pMany_len (pNot_len (fun lv => pPrim_len k lv) lv)) (fun lv => pMany_bd (pNot_len (fun lv => pPrim_len k lv) lv) (pNot_bd (fun lv => pPrim_bd k lv) lv)) k ha
    exact prim_does b s hb8 hs k ho
/-- cond's reader: or. -/
theorem or_all (b : Nat) (s : ByteArray) (hb8 : 8 ≤ b) (hs : s.size ≤ 1000) (k : Nat) : Does 136 b s (pOr (pPrim k)) k := by
  have hn := not_does b s hb8 hs (pPrim k) k (prim_all b s hb8 hs k)
  have ha := and_does b s hb8 hs _ (pNot_len fun lv => pPrim_len k lv) (pNot_bd fun lv => pPrim_bd k lv) k hn
  exact or_does b s hb8 hs _ (fun lv => pMany_len (pNot_len (fun lv => pPrim_len k lv) lv)) (fun lv => pMany_bd (pNot_len (fun lv => pPrim_len k lv) lv) (pNot_bd (fun lv => pPrim_bd k lv) lv)) k ha
end Go.Proofs.YtpmheafccfnfjaaGreatDoor
namespace Go.Proofs.YtpmheafccfnfjaaGreatDoor
open Go Go.RowKit
@[go_sem] theorem assertC_wrong (w : World) : (Instr.typeAssert wrongC 20 150 true).run Tryz.prog w = .ok (.tuple #[.agg #[], .bool true]) w := by kernel_rfl
@[go_sem] theorem assertC_nil (w : World) : (Instr.typeAssert .nilIface 20 150 true).run Tryz.prog w = .ok (.tuple #[.agg #[], .bool false]) w := by kernel_rfl
set_option maxHeartbeats 1000000 in
theorem catchC_pan (a c e : Nat) (x y z : Value) (older : List PanicEntry) (w : World) (hac : c ≠ a) (hae : e ≠ a) (hce : e ≠ c) (ha : w.heap[a]? = some (.cells #[x] 61 (0, 0))) (hc : w.heap[c]? = some (.cells #[y] 3 (0, 0))) (he : w.heap[e]? = some (.cells #[z] 4 (0, 0))) :
    CallsD Tryz.prog 135 #[.pointer (some ⟨a, 0, none⟩), .pointer (some ⟨c, 0, none⟩), .pointer (some ⟨e, 0, none⟩)] (.panicking ({ v := wrongC, recovered := false } :: older)) w fun e' u' w' =>
      e' = .returned (.tuple #[]) ∧ u' = .panicking ({ v := wrongC, recovered := true } :: older) ∧ ∃ o, w' = (((w.setCell ⟨a, 0, none⟩ .nilIface).setCell ⟨c, 0, none⟩ (.int .i64 0)).setCell ⟨e, 0, none⟩ (.bool false)).alloc o := by
  have hal : a < w.heap.size := (Array.getElem?_eq_some_iff.1 ha).1
  have hcl : c < w.heap.size := (Array.getElem?_eq_some_iff.1 hc).1
  have hel : e < w.heap.size := (Array.getElem?_eq_some_iff.1 he).1
  have c0 : w.cell? ⟨a, 0, none⟩ = some x := by rw [Lib.cell_of_heap ha]; rfl
  have f0 := Lib.frozen_of_heap ha 0
  have c1 : w.cell? ⟨c, 0, none⟩ = some y := by rw [Lib.cell_of_heap hc]; rfl
  have f1 := Lib.frozen_of_heap hc 0
  have c2 : ∀ v, (w.setCell ⟨a, 0, none⟩ v).cell? ⟨c, 0, none⟩ = some y := fun v => by
    rw [World.cell?_of_block (w := w) (a := ⟨c, 0, none⟩) (Below.heap_setCell _ _ _ _ hac)]
    exact c1
  have f2 : ∀ v, (w.setCell ⟨a, 0, none⟩ v).frozen? ⟨c, 0, none⟩ = false := fun v => by rw [World.frozen?_setCell]; exact f1
  have c3 : ∀ v u, ((w.setCell ⟨a, 0, none⟩ v).setCell ⟨c, 0, none⟩ u).cell? ⟨e, 0, none⟩ = some z := fun v u => by
    rw [World.cell?_of_block (w := w.setCell ⟨a, 0, none⟩ v) (a := ⟨e, 0, none⟩) (Below.heap_setCell _ _ _ _ hce), World.cell?_of_block (w := w) (a := ⟨e, 0, none⟩) (Below.heap_setCell _ _ _ _ hae), Lib.cell_of_heap he]
    rfl
  have f3 : ∀ v u, ((w.setCell ⟨a, 0, none⟩ v).setCell ⟨c, 0, none⟩ u).frozen? ⟨e, 0, none⟩ = false := fun v u => by rw [World.frozen?_setCell, World.frozen?_setCell]; exact Lib.frozen_of_heap he 0
  refine callsD_of_wpS Tryz.func135 rfl fun c₀ cs hu => ?_
  apply wpS_seq
  apply wpS_region
  simp [wpOpsS, go_sem, recoverD, hu, Tryz.ntmps135, Exit.thenS]
  apply wpS_seq
  apply wpS_region
  simp [wpOpsS, go_sem, Array.replicate, Exit.thenS]
  refine wpS_cond (t := true) (by simp [Act.eval, Array.replicate]) ?_
  simp only [if_true]
  apply wpS_region
  simp [wpOpsS, go_sem, c0, f0, c1, f1, c2, f2, c3, f3, hal, hcl, hel, bodyPostS, results, Tryz.results135]
  exact ⟨_, rfl⟩
theorem catchC_idle (a c e : Nat) (w : World) :
    CallsD Tryz.prog 135 #[.pointer (some ⟨a, 0, none⟩), .pointer (some ⟨c, 0, none⟩), .pointer (some ⟨e, 0, none⟩)] .returning w fun e u' w' =>
      e = .returned (.tuple #[]) ∧ u' = .returning ∧ ∃ o, w' = w.alloc o := by
  refine callsD_of_wpS Tryz.func135 rfl fun c₀ cs hu => ?_
  apply wpS_seq
  apply wpS_region
  simp [wpOpsS, go_sem, recoverD, hu, Tryz.ntmps135, Exit.thenS]
  apply wpS_seq
  apply wpS_region
  simp [wpOpsS, go_sem, Array.replicate, Exit.thenS]
  refine wpS_cond (t := false) (by simp [Act.eval, Array.replicate]) ?_
  simp only [Bool.false_eq_true, if_false]
  refine wpS_of_wp (wp_skip ?_)
  cases c₀
  simp_all [bodyPostS, results, Tryz.results135]
  exact ⟨_, rfl⟩
section
variable {w W : World} {tmps : Array Value} {x y z : Value} {R : Ending → World → Prop}
abbrev defC (w : World) : List Deferred := [{ target := Target.fn (Fn.func 135) #[Value.pointer (some ⟨w.heap.size, 0, none⟩), Value.pointer (some ⟨w.heap.size + 1, 0, none⟩), Value.pointer (some ⟨w.heap.size + 1 + 1, 0, none⟩)], args := #[] }]
theorem doorC_bad (hk : Kp w W) (h2 : W.heap[w.heap.size]? = some (.cells #[x] 61 (0, 0))) (h3 : W.heap[w.heap.size + 1]? = some (.cells #[y] 3 (0, 0))) (h4 : W.heap[w.heap.size + 1 + 1]? = some (.cells #[z] 4 (0, 0)))
    (t2 : tmps[2]? = some (.pointer (some ⟨w.heap.size, 0, none⟩))) (t3 : tmps[3]? = some (.pointer (some ⟨w.heap.size + 1, 0, none⟩))) (t4 : tmps[4]? = some (.pointer (some ⟨w.heap.size + 1 + 1, 0, none⟩)))
    (hR : ∀ w', Kp w w' → R (.returned (.tuple #[.nilIface, .int .i64 0, .bool false])) w') : Leaves Tryz.prog Tryz.f92 tmps R (defC w) (.panicking [{ v := wrongC, recovered := false }]) W := by
  have hl : w.heap.size + 1 + 1 < W.heap.size := (Array.getElem?_eq_some_iff.1 h4).1
  refine leaves_cons (f := 135) (args := #[.pointer (some ⟨w.heap.size, 0, none⟩), .pointer (some ⟨w.heap.size + 1, 0, none⟩), .pointer (some ⟨w.heap.size + 1 + 1, 0, none⟩)]) (by simp) (by simp [go_sem]) ?_
  refine (catchC_pan _ _ _ _ _ _ [] W (by omega) (by omega) (by omega) h2 h3 h4).mono ?_
  rintro e u' w'' ⟨rfl, rfl, o, rfl⟩
  have hX : ∃ Y, Y = (((W.setCell ⟨w.heap.size, 0, none⟩ .nilIface).setCell ⟨w.heap.size + 1, 0, none⟩ (.int .i64 0)).setCell ⟨w.heap.size + 1 + 1, 0, none⟩ (.bool false)).alloc o ∧ Y.cell? ⟨w.heap.size, 0, none⟩ = some .nilIface ∧ Y.cell? ⟨w.heap.size + 1, 0, none⟩ = some (.int .i64 0) ∧ Y.cell? ⟨w.heap.size + 1 + 1, 0, none⟩ = some (.bool false) := by
    have e2 := heap_set_same (i := 0) (v := .nilIface) h2
    have e3 : (W.setCell ⟨w.heap.size, 0, none⟩ .nilIface).heap[w.heap.size + 1]? = some (.cells #[y] 3 (0, 0)) := by rw [Below.heap_setCell _ _ _ _ (by simp)]; exact h3
    have e4 := heap_set_same (i := 0) (v := .int .i64 0) e3
    have e5 : ((W.setCell ⟨w.heap.size, 0, none⟩ .nilIface).setCell ⟨w.heap.size + 1, 0, none⟩ (.int .i64 0)).heap[w.heap.size + 1 + 1]? = some (.cells #[z] 4 (0, 0)) := by
      rw [Below.heap_setCell _ _ _ _ (by simp), Below.heap_setCell _ _ _ _ (by simp; try omega)]
      exact h4
    have e6 := heap_set_same (i := 0) (v := .bool false) e5
    have e7 : (((W.setCell ⟨w.heap.size, 0, none⟩ .nilIface).setCell ⟨w.heap.size + 1, 0, none⟩ (.int .i64 0)).setCell ⟨w.heap.size + 1 + 1, 0, none⟩ (.bool false)).heap[w.heap.size + 1]? = some (.cells #[.int .i64 0] 3 (0, 0)) := by
      rw [Below.heap_setCell _ _ _ _ (by simp), e4]
      rfl
    have e8 : (((W.setCell ⟨w.heap.size, 0, none⟩ .nilIface).setCell ⟨w.heap.size + 1, 0, none⟩ (.int .i64 0)).setCell ⟨w.heap.size + 1 + 1, 0, none⟩ (.bool false)).heap[w.heap.size]? = some (.cells #[.nilIface] 61 (0, 0)) := by
      rw [Below.heap_setCell _ _ _ _ (by simp; try omega), Below.heap_setCell _ _ _ _ (by simp), e2]
      rfl
    refine ⟨_, rfl, ?_, ?_, ?_⟩
    · rw [Lib.cell_of_heap ((Lib.alloc_old _ _ _ (by simp; omega)).trans e8)]; rfl
    · rw [Lib.cell_of_heap ((Lib.alloc_old _ _ _ (by simp; omega)).trans e7)]; rfl
    · rw [Lib.cell_of_heap ((Lib.alloc_old _ _ _ (by simp; omega)).trans e6)]; rfl
  obtain ⟨Y, hY, g2, g3, g4⟩ := hX
  rw [← hY]
  have hkY : Kp w Y := by rw [hY]; exact (((hk.setCell (Nat.le_refl _) _).setCell (by simp) _).setCell (by simp; try omega) _).alloc _
  have := hR Y hkY
  simp [Leaves, settle, results, Tryz.results92, go_sem, t2, t3, t4, g2, g3, g4]
  exact this
theorem doorC_ok (hk : Kp w W) (h2 : W.heap[w.heap.size]? = some (.cells #[x] 61 (0, 0))) (h3 : W.heap[w.heap.size + 1]? = some (.cells #[y] 3 (0, 0))) (h4 : W.heap[w.heap.size + 1 + 1]? = some (.cells #[z] 4 (0, 0)))
    (t2 : tmps[2]? = some (.pointer (some ⟨w.heap.size, 0, none⟩))) (t3 : tmps[3]? = some (.pointer (some ⟨w.heap.size + 1, 0, none⟩))) (t4 : tmps[4]? = some (.pointer (some ⟨w.heap.size + 1 + 1, 0, none⟩)))
    (hR : ∀ w', Kp W w' → R (.returned (.tuple #[x, y, z])) w') : Leaves Tryz.prog Tryz.f92 tmps R (defC w) .returning W := by
  have hl : w.heap.size + 1 + 1 < W.heap.size := (Array.getElem?_eq_some_iff.1 h4).1
  refine leaves_cons (f := 135) (args := #[.pointer (some ⟨w.heap.size, 0, none⟩), .pointer (some ⟨w.heap.size + 1, 0, none⟩), .pointer (some ⟨w.heap.size + 1 + 1, 0, none⟩)]) (by simp) (by simp [go_sem]) ?_
  refine (catchC_idle _ _ _ W).mono ?_
  rintro e u' w'' ⟨rfl, rfl, o, rfl⟩
  have g2 : (W.alloc o).cell? ⟨w.heap.size, 0, none⟩ = some x := by rw [Lib.cell_of_heap ((Lib.alloc_old _ _ _ (by omega)).trans h2)]; rfl
  have g3 : (W.alloc o).cell? ⟨w.heap.size + 1, 0, none⟩ = some y := by rw [Lib.cell_of_heap ((Lib.alloc_old _ _ _ (by omega)).trans h3)]; rfl
  have g4 : (W.alloc o).cell? ⟨w.heap.size + 1 + 1, 0, none⟩ = some z := by rw [Lib.cell_of_heap ((Lib.alloc_old _ _ _ (by omega)).trans h4)]; rfl
  have := hR _ ((Kp.refl W).alloc o)
  generalize W.alloc o = Y at *
  simp [Leaves, settle, results, Tryz.results92, go_sem, t2, t3, t4, g2, g3, g4]
  exact this
end
end Go.Proofs.YtpmheafccfnfjaaGreatDoor
namespace Go.Proofs.YtpmheafccfnfjaaGreatDoor
open Go Go.RowKit
/-- What parse hands back. -/
structure PcR (w : World) (s : ByteArray) (R : Ending → World → Prop) : Prop where
  ok : ∀ n T' d w', pOr (pPrim (s.size + 1)) 0 (toks s.data.toList) 0 = some (n, T', d) → Kp w w' → R (.returned (.tuple #[nv n, .int .i64 d, .bool (decide (T' = []))])) w'
  bad : ∀ w', pOr (pPrim (s.size + 1)) 0 (toks s.data.toList) 0 = none → Kp w w' → R (.returned (.tuple #[.nilIface, .int .i64 0, .bool false])) w'
/-- Parse under way. -/
structure Pq (w W : World) (v : Value) (o : Obj) : Prop where
  kp : Kp w W
  h2 : W.heap[w.heap.size]? = some (.cells #[v] 61 (0, 0))
  h3 : W.heap[w.heap.size + 1]? = some (.cells #[.int .i64 0] 3 (0, 0))
  h4 : W.heap[w.heap.size + 1 + 1]? = some (.cells #[.bool false] 4 (0, 0))
  h5 : W.heap[w.heap.size + 1 + 1 + 1]? = some o
theorem toks_lenF : ∀ (f : Nat) (r : Bs), (toksF f r).length ≤ f
  | 0, _ => Nat.le_refl _
  | f + 1, r => by
    unfold toksF
    split
    · exact Nat.zero_le _
    · have := toks_lenF f ((dropB r).drop (wordLen (dropB r)))
      simp only [List.length_cons]
      omega
theorem toks_len (r : Bs) : (toks r).length ≤ r.length := toks_lenF _ _
theorem hd_nil {s : ByteArray} {n : Nat} : (st (hd (toks (sfx s n)))).toList.isEmpty = decide (toks (sfx s n) = []) := by
  rw [st_list']
  cases h : toks (sfx s n) with
  | nil => rfl
  | cons t u =>
    have : t ≠ [] := toks_ne (r := sfx s n) (by rw [h]; simp)
    have e : (hd (t :: u)).isEmpty = false := by simpa [hd] using this
    rw [e]
    rfl
theorem Pq.start (w : World) (s : ByteArray) : Pq w ((((w.alloc (.cells #[.nilIface] 61)).alloc (.cells #[.int .i64 0] 3)).alloc (.cells #[.bool false] 4)).alloc (rdO s 0 0)) .nilIface (rdO s 0 0) := by
  refine ⟨((((Kp.refl w).alloc _).alloc _).alloc _).alloc _, ?_, ?_, ?_, ?_⟩
  · rw [Lib.alloc_old _ _ _ (by simp; omega), Lib.alloc_old _ _ _ (by simp; omega), Lib.alloc_old _ _ _ (by simp)]
    exact World.alloc_heap_new _ _
  · rw [Lib.alloc_old _ _ _ (by simp), Lib.alloc_old _ _ _ (by simp)]
    exact heap_new2 _ _ _
  · rw [Lib.alloc_old _ _ _ (by simp)]
    have := World.alloc_heap_new ((w.alloc (.cells #[.nilIface] 61)).alloc (.cells #[.int .i64 0] 3)) (.cells #[.bool false] 4)
    simpa using this
  · have := World.alloc_heap_new (((w.alloc (.cells #[.nilIface] 61)).alloc (.cells #[.int .i64 0] 3)).alloc (.cells #[.bool false] 4)) (rdO s 0 0)
    simpa using this
theorem Pq.turn {w W X : World} {v : Value} {o o' : Obj} (h : Pq w W v o) (k : Kb (w.heap.size + 1 + 1 + 1) W X) (ho : X.heap[w.heap.size + 1 + 1 + 1]? = some o') : Pq w X v o' := by
  have e : ∀ i, i < w.heap.size + 1 + 1 + 1 → X.heap[i]? = W.heap[i]? := fun i hi => k.block i (Nat.lt_trans hi (Array.getElem?_eq_some_iff.1 h.h5).1) (by omega)
  refine ⟨⟨Nat.le_trans h.kp.size k.size, k.os.trans h.kp.os, k.tape.trans h.kp.tape, k.output.trans h.kp.output, fun i hi => (e i (by omega)).trans (h.kp.block i hi)⟩, ?_, ?_, ?_, ho⟩
  · rw [e _ (by omega)]; exact h.h2
  · rw [e _ (by omega)]; exact h.h3
  · rw [e _ (by omega)]; exact h.h4
theorem Pq.broken {w W X : World} {v : Value} {o : Obj} (h : Pq w W v o) (k : Kb (w.heap.size + 1 + 1 + 1) W X) : Kp w X ∧ X.heap[w.heap.size]? = some (.cells #[v] 61 (0, 0)) ∧ X.heap[w.heap.size + 1]? = some (.cells #[.int .i64 0] 3 (0, 0)) ∧ X.heap[w.heap.size + 1 + 1]? = some (.cells #[.bool false] 4 (0, 0)) := by
  have hlt := (Array.getElem?_eq_some_iff.1 h.h5).1
  have e : ∀ i, i < w.heap.size + 1 + 1 + 1 → X.heap[i]? = W.heap[i]? := fun i hi => k.block i (Nat.lt_trans hi hlt) (by omega)
  refine ⟨⟨Nat.le_trans h.kp.size k.size, k.os.trans h.kp.os, k.tape.trans h.kp.tape, k.output.trans h.kp.output, fun i hi => (e i (by omega)).trans (h.kp.block i hi)⟩, ?_, ?_, ?_⟩
  · rw [e _ (by omega)]; exact h.h2
  · rw [e _ (by omega)]; exact h.h3
  · rw [e _ (by omega)]; exact h.h4
theorem Pq.set {w W : World} {v u : Value} {o : Obj} (h : Pq w W v o) : Pq w (W.setCell ⟨w.heap.size, 0, none⟩ u) u o := by
  refine ⟨h.kp.setCell (Nat.le_refl _) _, ?_, ?_, ?_, ?_⟩
  · rw [heap_set_same h.h2]; rfl
  · rw [Below.heap_setCell _ _ _ _ (by simp)]; exact h.h3
  · rw [Below.heap_setCell _ _ _ _ (by simp; try omega)]; exact h.h4
  · rw [Below.heap_setCell _ _ _ _ (by simp; try omega)]; exact h.h5
theorem Pq.drew {w W : World} {v : Value} {o : Obj} (h : Pq w W v o) : Pq w W.drew v o := ⟨h.kp.drew, h.h2, h.h3, h.h4, h.h5⟩
structure Pq3 (w W : World) (v x y : Value) (o : Obj) : Prop where
  kp : Kp w W
  h2 : W.heap[w.heap.size]? = some (.cells #[v] 61 (0, 0))
  h3 : W.heap[w.heap.size + 1]? = some (.cells #[x] 3 (0, 0))
  h4 : W.heap[w.heap.size + 1 + 1]? = some (.cells #[y] 4 (0, 0))
  h5 : W.heap[w.heap.size + 1 + 1 + 1]? = some o
theorem Pq3.s3 {w W : World} {v x y u : Value} {o : Obj} (h : Pq3 w W v x y o) : Pq3 w (W.setCell ⟨w.heap.size + 1, 0, none⟩ u) v u y o := by
  refine ⟨h.kp.setCell (by simp) _, ?_, ?_, ?_, ?_⟩
  · rw [Below.heap_setCell _ _ _ _ (by simp)]; exact h.h2
  · rw [heap_set_same h.h3]; rfl
  · rw [Below.heap_setCell _ _ _ _ (by simp)]; exact h.h4
  · rw [Below.heap_setCell _ _ _ _ (by simp; try omega)]; exact h.h5
theorem Pq3.s4 {w W : World} {v x y u : Value} {o : Obj} (h : Pq3 w W v x y o) : Pq3 w (W.setCell ⟨w.heap.size + 1 + 1, 0, none⟩ u) v x u o := by
  refine ⟨h.kp.setCell (by simp; try omega) _, ?_, ?_, ?_, ?_⟩
  · rw [Below.heap_setCell _ _ _ _ (by simp; try omega)]; exact h.h2
  · rw [Below.heap_setCell _ _ _ _ (by simp)]; exact h.h3
  · rw [heap_set_same h.h4]; rfl
  · rw [Below.heap_setCell _ _ _ _ (by simp)]; exact h.h5
theorem Pq3.keep {w W : World} {v x y : Value} {s : ByteArray} {m : Nat} {d : Int} (h : Pq3 w W v x y (rdO s m d)) : W.cell? ⟨w.heap.size, 0, none⟩ = some v ∧ W.cell? ⟨w.heap.size + 1 + 1 + 1, 2, none⟩ = some (.int .i64 d) :=
  ⟨by rw [Lib.cell_of_heap h.h2]; rfl, by rw [Lib.cell_of_heap h.h5]; rfl⟩
theorem Pq.to3 {w W : World} {v : Value} {o : Obj} (h : Pq w W v o) : Pq3 w W v (.int .i64 0) (.bool false) o := ⟨h.kp, h.h2, h.h3, h.h4, h.h5⟩
set_option maxHeartbeats 2000000 in
set_option maxRecDepth 100000 in
theorem parseC_walk (s : ByteArray) (w : World) (hs : s.size ≤ 1000) (hg : Glob w) (R : Ending → World → Prop) (HR : Hid (PcR w s R)) :
    Calls Tryz.prog 92 #[.string s] w R := by
  have hmf : ∀ (fn : Fn) (first cap : Array Value) (w : World), (Instr.makeFunc fn first cap).run Tryz.prog w = .ok (.func fn first cap) w := fun _ _ _ _ => rfl
  have HS := Pq.start w s
  have hsz := hg.sz
  have hlen := toks_len s.data.toList
  rw [size_data] at hlen
  have HO := or_all (w.heap.size + 1 + 1 + 1) s (by omega) (by omega) (s.size + 1) 0 (toks s.data.toList) 0 0 _ HS.h5 (Nat.zero_le _) rfl (hg.kp HS.kp) (by omega) (by omega) (by omega) (by omega) (by omega)
  generalize hX : ((((w.alloc (.cells #[.nilIface] 61)).alloc (.cells #[.int .i64 0] 3)).alloc (.cells #[.bool false] 4)).alloc (rdO s 0 0)) = X at *
  cases hr : pOr (pPrim (s.size + 1)) 0 (toks s.data.toList) 0 with
  | none =>
    have HO2 : Hid (Calls Tryz.prog 136 #[.pointer (some ⟨w.heap.size + 1 + 1 + 1, 0, none⟩), .int .i64 0] X (PanB X (w.heap.size + 1 + 1 + 1) wrongC)) := by
      rw [hr] at HO
      exact HO
    have HB : Hid (∀ w', Kp w w' → R (.returned (.tuple #[.nilIface, .int .i64 0, .bool false])) w') := fun w' hk => HR.out.bad w' hr hk
    replace HS := Lib.hid HS
    replace hX := Lib.hid hX
    clear HO hr HR hlen
    go_enter_defers Tryz.func92, Tryz.ntmps92
    go_wp2_with (go_at_call 136; refine Calls_cast hX.out ?_; refine Calls_panB HO2.out ?_; intro w' hk'; have hbr := HS.out.broken hk')
    exact doorC_bad hbr.1 hbr.2.1 hbr.2.2.1 hbr.2.2.2 rfl rfl rfl (fun w' hk => HB.out w' hk)
  | some r =>
    obtain ⟨m, T', d⟩ := r
    have HO2 : Hid (Calls Tryz.prog 136 #[.pointer (some ⟨w.heap.size + 1 + 1 + 1, 0, none⟩), .int .i64 0] X (RetT X (w.heap.size + 1 + 1 + 1) s T' d (nv m))) := by
      rw [hr] at HO
      exact HO
    have HB : Hid (∀ w', Kp w w' → R (.returned (.tuple #[nv m, .int .i64 d, .bool (decide (T' = []))])) w') := fun w' hk => HR.out.ok _ _ _ w' hr hk
    obtain ⟨ty, v, hv⟩ := nv_iface m
    rw [hv] at HO2 HB
    replace HS := Lib.hid HS
    replace hX := Lib.hid hX
    clear HO hr HR hlen hv
    go_enter_defers Tryz.func92, Tryz.ntmps92
    go_wp2_with (go_at_call 136; refine Calls_cast hX.out ?_; refine HO2.out.mono ?_; rintro e w' ⟨rfl, hk1, n1, hn1, ht1, ho1⟩; have HT := Lib.hid (HS.out.turn hk1 ho1); have c2 := Lib.cell_of_heap HT.out.h2 0; have f2 := Lib.frozen_of_heap HT.out.h2 0; have l2 := (Array.getElem?_eq_some_iff.1 HT.out.h2).1; clear hk1 ho1)
    have HY := (HT.out.set (u := .iface ty v)).drew
    obtain ⟨m4, HW4, g1, g2, g3, g4⟩ := word_hd HY.h5 hn1 (by omega) ht1
    have hbT := hd_nil (s := s) (n := n1)
    rw [ht1] at hbT
    rw [← hbT] at HB
    replace HW4 := Lib.hid HW4
    replace HY := Lib.hid HY
    clear ht1 g1 g2 g3 g4 hbT c2 f2 l2
    generalize (w'.setCell ⟨w.heap.size, 0, none⟩ (.iface ty v)) = Y at *
    generalize st (hd T') = q at *
    go_region_held3 (fun W => W.cell? ⟨w.heap.size, 0, none⟩ = some (Value.iface ty v) ∧ W.cell? ⟨w.heap.size + 1 + 1 + 1, 2, none⟩ = some (Value.int .i64 d)) (first | exact HY.out.to3.keep | exact HZ.out.to3.keep | exact HZ2.out.to3.keep | exact HZ3.out.keep | exact HZ4.out.keep)
      (first | (go_at_call 119; refine HW4.out.mono ?_; rintro e w3 ⟨rfl, hk3, ho3⟩; have HZ := Lib.hid (HY.out.turn hk3 ho3); have HZ2 := Lib.hid (HZ.out.set (u := .iface ty v)); have HZ3 := Lib.hid (HZ2.out.to3.s3 (u := .int .i64 d)); have HZ4 := Lib.hid (HZ3.out.s4 (u := .bool q.toList.isEmpty)); have z0 := Lib.cell_of_heap HZ.out.h2 0; have z1 := Lib.cell_of_heap HZ.out.h3 0; have z2 := Lib.cell_of_heap HZ.out.h4 0; have y0 := Lib.frozen_of_heap HZ.out.h2 0; have y1 := Lib.frozen_of_heap HZ.out.h3 0; have y2 := Lib.frozen_of_heap HZ.out.h4 0; have x0 := (Array.getElem?_eq_some_iff.1 HZ.out.h2).1; have x1 := (Array.getElem?_eq_some_iff.1 HZ.out.h3).1; have x2 := (Array.getElem?_eq_some_iff.1 HZ.out.h4).1; clear hk3 ho3))
    go_wp2
    exact doorC_ok HZ4.out.kp HZ4.out.h2 HZ4.out.h3 HZ4.out.h4 rfl rfl rfl (fun w' hk => HB.out w' (HZ4.out.kp.trans hk))
/-- cond.parse. -/
theorem parseC_ok (s : ByteArray) (w : World) (hs : s.size ≤ 1000) (hg : Glob w) {n : Nd} {T' : List Bs} {d : Int} (h : pOr (pPrim (s.size + 1)) 0 (toks s.data.toList) 0 = some (n, T', d)) : Calls Tryz.prog 92 #[.string s] w (Ret w (.tuple #[nv n, .int .i64 d, .bool (decide (T' = []))])) :=
  parseC_walk s w hs hg _ (Lib.hid ⟨fun n2 T2 d2 w' h2 hk => by rw [h] at h2; cases h2; exact ⟨rfl, hk⟩, fun w' h2 hk => by rw [h] at h2; cases h2⟩)
theorem parseC_bad (s : ByteArray) (w : World) (hs : s.size ≤ 1000) (hg : Glob w) (h : pOr (pPrim (s.size + 1)) 0 (toks s.data.toList) 0 = none) : Calls Tryz.prog 92 #[.string s] w (Ret w (.tuple #[.nilIface, .int .i64 0, .bool false])) :=
  parseC_walk s w hs hg _ (Lib.hid ⟨fun n2 T2 d2 w' h2 hk => (by rw [h] at h2; cases h2), fun w' h2 hk => ⟨rfl, hk⟩⟩)
end Go.Proofs.YtpmheafccfnfjaaGreatDoor
namespace Go.Proofs.YtpmheafccfnfjaaGreatDoor
open Go Go.RowKit
theorem ndInfo : (Tryz.prog.info? 61).map (fun i => (i.zero, i.size, i.bytes)) = some (some .nilIface, 1, 16) := by kernel_rfl
set_option maxHeartbeats 2000000 in
set_option maxRecDepth 100000 in
theorem grow_ret (n : Nat) (w : World) (h0 : 1 ≤ n) (h1 : n ≤ 1000000) : Calls Tryz.prog 167 #[.slice none 0 0, .int .i64 n] w fun e w' => ∃ v, e = .returned v ∧ Kp w w' ∧ w'.ownsRow w.heap.size 61 1 v 0 [] := by
  obtain ⟨i0, hi, hz0, hz1, hz2⟩ := info_parts ndInfo
  have hold : (Builtin.firstCells i0.size 0 (.slice none 0 0)).run Tryz.prog w.drew = .ok ([] : List Value).toArray w.drew := run_firstCells_none w.drew i0.size 0 0 0
  have hrz : ∀ ty, (Builtin.append_ #[112, 3] ty #[.slice none 0 0, .int .i64 n]).run Tryz.prog w = .ok (.slice (some ⟨w.heap.size, 0, none⟩) n (grownCap w n 0 61)) (w.drew.alloc (.cells (#[] ++ Builtin.zeroCells (Value.nilIface).cells n ++ Builtin.zeroCells (Value.nilIface).cells (grownCap w n 0 61 - n)) 61)) := fun ty => by
    have h := Lib.run_append_grow_zeros w 112 3 ty 61 i0 .nilIface .i64 .i64 Tryz.underlying112 Tryz.underlying3 hi hz0 none 0 0 [] hold n (by omega) (by rw [hz1]; decide) (by omega) (by omega)
      (by rw [hz2]; omega) (growslice_fits (by omega) (by rw [hz2]; omega))
    simpa using h
  have hG := grownCap_ge w n 0 61
  have hGm := grownCap_le_maxLen w n 0 61 (by unfold maxLen; omega)
  have hGm2 : grownCap w n 0 61 ≤ 9223372036854775807 := hGm
  generalize grownCap w n 0 61 = G at *
  clear hold
  go_enter Tryz.func167, Tryz.ntmps167
  go_wp2_with (at_builtin; refine Lib.wpList_append_run _ rfl _ _ _ _ rfl _ _ rfl rfl _ _ (hrz _) ?_)
  go_ret
  refine ⟨_, rfl, ((Kp.refl w).alloc _).drew, rfl, .inr ⟨w.heap.size, G, _, rfl, Nat.le_refl _, World.alloc_heap_new _ _, Nat.zero_le _, hGm, ?_, by simp⟩⟩
  rw [Array.size_append, size_zeroCells, size_zeroCells]
  simp
  omega
/-- A slice of nodes that is read. -/
def NdsIs (w : World) (v : Value) (l : List Nd) : Prop := l.length ≤ 100000 ∧ ∃ b c, v = .slice (some ⟨b, 0, none⟩) l.length c ∧ (b < w.heap.size ∧ l.length ≤ c) ∧ ∀ (j : Nat) x, l[j]? = some x → w.cell? ⟨b, j, none⟩ = some (nv x)
theorem NdsIs.kp {w x : World} {v : Value} {l : List Nd} (h : NdsIs w v l) (k : Kp w x) : NdsIs x v l := by
  obtain ⟨h0, b, c, h1, h2, h3⟩ := h
  exact ⟨h0, b, c, h1, ⟨Nat.lt_of_lt_of_le h2.1 k.size, h2.2⟩, fun j y hj => by rw [World.cell?_of_block (w := w) (a := ⟨b, j, none⟩) (k.block _ h2.1)]; exact h3 j y hj⟩
/-- A row of nodes of one's own, read. -/
theorem own_nds {W : World} {B : Nat} {v : Value} {l : List Nd} (h : W.ownsRow B 61 1 v l.length (l.map nv)) (hl : l ≠ []) (hm : l.length ≤ 100000) : NdsIs W v l := by
  refine ⟨hm, ?_⟩
  rcases h.2 with ⟨rfl, h0⟩ | ⟨g, cap, cur, rfl, _, hg, hcap, _, _, ht⟩
  · exact absurd (List.eq_nil_of_length_eq_zero h0) hl
  · refine ⟨g, cap, rfl, ⟨(Array.getElem?_eq_some_iff.1 hg).1, hcap⟩, fun j x hj => ?_⟩
    have hlt : j < l.length := (List.getElem?_eq_some_iff.1 hj).1
    rw [Lib.cell_of_heap hg]
    have e : (cur.toList.take (l.length * 1))[j]? = some (nv x) := by rw [ht]; simp [hj]
    rw [List.getElem?_take_of_lt (by omega)] at e
    simpa using e
theorem nv_one (x : Nd) : (nv x).oneCell' = true := by
  obtain ⟨t, v, h⟩ := nv_iface x
  rw [h]
  rfl
/-- 'out = append(out, l...)' at nodes. -/
theorem app_nds {ops : Array Oper} {rest : List Oper} {o : Oper} {a : Act} {Q : Exit → Act → World → Prop} (hgd : o.guard = none) (so xo : Operand)
    (ho : o.op = .call { callee := .builtin .append, args := #[so, xo], argTypes := #[112, 112] }) {W : World} {B : Nat} {v u : Value} {l m : List Nd} (h : W.ownsRow B 61 1 v l.length (l.map nv)) (hB : B ≤ W.heap.size) (hs : a.eval so = v)
    (hx : a.eval xo = u) (hu : NdsIs W u m) (hl : l.length ≤ 100000)
    (k : ∀ v' W', W.grownBy W' v.ownBlock → W'.ownsRow B 61 1 v' (l ++ m).length ((l ++ m).map nv) → wpList Tryz.prog ops Q rest (a.put o.dst v') W') :
    wpList Tryz.prog ops Q (o :: rest) a W := by
  obtain ⟨i0, hi, hz0, hz1, hz2⟩ := info_parts ndInfo
  obtain ⟨hm, b, c, rfl, hb, hc⟩ := hu
  refine wpList_append_own _ hgd so xo 112 ho B 61 i0 .nilIface 1 16 Tryz.underlying112 hi hz0 hz1 hz2 rfl (by decide) v l.length (l.map nv) hs h ⟨b, 0, none⟩ m.length c (m.map nv) hx (by simp) ?_ ?_ ?_ ?_ hB ?_
  · intro j y hj
    rw [List.getElem?_map] at hj
    obtain ⟨x, hx', rfl⟩ := Option.map_eq_some_iff.1 hj
    have ha : (⟨b, 0, none⟩ : Addr).add j = ⟨b, j, none⟩ := by unfold Addr.add; split <;> simp_all
    rw [ha]
    exact hc j x hx'
  · intro y hy
    obtain ⟨x, _, rfl⟩ := List.mem_map.1 hy
    exact nv_one x
  · unfold maxLen; omega
  · omega
  · intro v' w' h1 h2 _
    refine k v' w' h2 ?_
    rw [List.length_append, List.map_append]
    exact h1
theorem kp_own {w W W' : World} {v : Value} {B n size : Nat} {e : TypeId} {xs : List Value} (hk : Kp w W) (h : W.ownsRow B e size v n xs) (hB : w.heap.size ≤ B) (hg : W.grownBy W' v.ownBlock) : Kp w W' := kp_grownBy hk hg (fun k hk => Nat.le_trans hB (h.lt k hk).1)
abbrev iN (v : Value) : Nat := match v with
  | .int _ z => (2 - z).toNat
  | _ => 0
set_option maxHeartbeats 4000000 in
set_option maxRecDepth 100000 in
theorem concat_ret (b : Nat) (v1 v2 : Value) (l1 l2 : List Nd) (w : World) (hb : w.heap[b]? = some (.cells #[v1, v2] 112 (0, 0))) (h1 : NdsIs w v1 l1) (h2 : NdsIs w v2 l2) (hl1 : l1 ≠ []) (hl : l1.length + l2.length ≤ 100000) :
    Calls Tryz.prog 132 #[.slice (some ⟨b, 0, none⟩) 2 2] w fun e w' => ∃ v, e = .returned v ∧ Kp w w' ∧ NdsIs w' v (l1 ++ l2) := by
  have hbl : b < w.heap.size := (Array.getElem?_eq_some_iff.1 hb).1
  have c0 : w.cell? ⟨b, 0, none⟩ = some v1 := by rw [Lib.cell_of_heap hb]; rfl
  have c1 : w.cell? ⟨b, 1, none⟩ = some v2 := by rw [Lib.cell_of_heap hb]; rfl
  obtain ⟨m1, b1, k1, rfl, ⟨e1, _⟩, g1⟩ := id h1
  obtain ⟨m2, b2, k2, rfl, ⟨e2, _⟩, g2⟩ := id h2
  have hn1 : 1 ≤ l1.length := List.length_pos_iff.2 hl1
  have HG := Lib.hid (grow_ret (l1.length + l2.length) w (by omega) (by omega))
  simp only [Int.natCast_add] at HG
  have N1 := Lib.hid h1
  have N2 := Lib.hid h2
  clear h1 h2 g1 g2 hb
  go_enter Tryz.func132, Tryz.ntmps132
  go_wp2
  go_loopw [11, 3] (fun i n wr => wr = w ∧ ((i = .int .i64 0 ∧ n = .int .i64 0) ∨ (i = .int .i64 1 ∧ n = .int .i64 l1.length) ∨ (i = .int .i64 2 ∧ n = .int .i64 (l1.length + l2.length)))) (fun i _ _ => iN i)
  case atStart => exact ⟨rfl, .inl ⟨rfl, rfl⟩⟩
  case round =>
    obtain ⟨rfl, ⟨rfl, rfl⟩ | ⟨rfl, rfl⟩ | ⟨rfl, rfl⟩⟩ := hrel
    · go_wp2
      go_roundw
      case rel => exact ⟨trivial, .inr (.inl ⟨rfl, by simp⟩)⟩
      case measure => decide
    · go_wp2
      go_roundw
      case rel => exact ⟨trivial, .inr (.inr ⟨rfl, by simp⟩)⟩
      case measure => decide
    · go_wp2_with (go_at_call 167; refine HG.out.mono ?_; rintro e W ⟨u, rfl, hk, hown⟩)
      go_loopw [27, 6] (fun i v wr' => ∃ l', ((i = .int .i64 0 ∧ l' = []) ∨ (i = .int .i64 1 ∧ l' = l1) ∨ (i = .int .i64 2 ∧ l' = l1 ++ l2)) ∧ Hid (Kp wr wr') ∧ Hid (wr'.ownsRow wr.heap.size 61 1 v l'.length (l'.map nv))) (fun i _ _ => iN i)
      case atStart => exact ⟨[], .inl ⟨rfl, rfl⟩, hk, hown⟩
      case round =>
        rename World => X
        obtain ⟨l', hl', hkX, hoX⟩ := hrel
        have d0 : X.cell? ⟨b, 0, none⟩ = some (.slice (some ⟨b1, 0, none⟩) l1.length k1) := by rw [World.cell?_of_block (w := wr) (a := ⟨b, 0, none⟩) (hkX.out.block _ hbl)]; exact c0
        have d1 : X.cell? ⟨b, 1, none⟩ = some (.slice (some ⟨b2, 0, none⟩) l2.length k2) := by rw [World.cell?_of_block (w := wr) (a := ⟨b, 1, none⟩) (hkX.out.block _ hbl)]; exact c1
        have bX : b < X.heap.size := Nat.lt_of_lt_of_le hbl hkX.out.size
        rcases hl' with ⟨rfl, rfl⟩ | ⟨rfl, rfl⟩ | ⟨rfl, rfl⟩
        · go_wp2_with (at_builtin; refine app_nds (u := .slice (some ⟨b1, 0, none⟩) l1.length k1) rfl _ _ rfl hoX.out hkX.out.size rfl rfl (N1.out.kp hkX.out) (by simp) ?_; intro v2 W2 hg2 hown2)
          go_roundw
          case rel => exact ⟨l1, .inr (.inl ⟨rfl, rfl⟩), kp_own hkX.out hoX.out (Nat.le_refl _) hg2, hown2⟩
          case measure => decide
        · go_wp2_with (at_builtin; refine app_nds (u := .slice (some ⟨b2, 0, none⟩) l2.length k2) rfl _ _ rfl hoX.out hkX.out.size rfl rfl (N2.out.kp hkX.out) m1 ?_; intro v2 W2 hg2 hown2)
          go_roundw
          case rel => exact ⟨_, .inr (.inr ⟨rfl, rfl⟩), kp_own hkX.out hoX.out (Nat.le_refl _) hg2, hown2⟩
          case measure => decide
        · go_wp2
          go_ret
          exact ⟨_, rfl, hkX.out, own_nds hoX.out (by simp [hl1]) (by simp; omega)⟩
abbrev SdR (l : List Nd) (w : World) (e : Ending) (w' : World) : Prop := ∃ v, e = .returned v ∧ Kp w w' ∧ NdsIs w' v l
theorem nds_one {w : World} {o : Nat} {x : Nd} (h : w.heap[o]? = some (.cells #[nv x] 61 (0, 0))) : NdsIs w (.slice (some ⟨o, 0, none⟩) 1 1) [x] := by
  refine ⟨by simp, o, 1, rfl, ⟨(Array.getElem?_eq_some_iff.1 h).1, Nat.le_refl _⟩, fun j y hj => ?_⟩
  have hlt := (List.getElem?_eq_some_iff.1 hj).1
  have : j = 0 := by simpa using hlt
  subst this
  simp only [List.getElem?_cons_zero, Option.some.injEq] at hj
  subst hj
  rw [Lib.cell_of_heap h]
  rfl
theorem sd_no (n : Nd) (op : Int) (w : World) : Calls Tryz.prog 86 #[nv (.no n), .int .i64 op] w (SdR [.no n] w) := by
  have HN := Lib.hid (fun (W : World) (o : Nat) (h : W.heap[o]? = some (.cells #[nv (.no n)] 61 (0, 0))) => nds_one h)
  rw [nv] at HN ⊢
  go_enter Tryz.func86, Tryz.ntmps86
  go_wp2
  go_ret
  exact ⟨_, rfl, ((Kp.refl _).alloc _).alloc _, HN.out _ _ (heap_new2 _ _ _)⟩
theorem sd_test (o : Bs) (a b : Trm) (op : Int) (w : World) : Calls Tryz.prog 86 #[nv (.test o a b), .int .i64 op] w (SdR [.test o a b] w) := by
  have HN := Lib.hid (fun (W : World) (q : Nat) (h : W.heap[q]? = some (.cells #[nv (.test o a b)] 61 (0, 0))) => nds_one h)
  rw [nv] at HN ⊢
  go_enter Tryz.func86, Tryz.ntmps86
  go_wp2
  go_ret
  exact ⟨_, rfl, ((Kp.refl _).alloc _).alloc _, HN.out _ _ (heap_new2 _ _ _)⟩
theorem sd_truth (b : Bool) (op : Int) (w : World) : Calls Tryz.prog 86 #[nv (.truth b), .int .i64 op] w (SdR [.truth b] w) := by
  have HN := Lib.hid (fun (W : World) (q : Nat) (h : W.heap[q]? = some (.cells #[nv (.truth b)] 61 (0, 0))) => nds_one h)
  rw [nv] at HN ⊢
  go_enter Tryz.func86, Tryz.ntmps86
  go_wp2
  go_ret
  exact ⟨_, rfl, ((Kp.refl _).alloc _).alloc _, HN.out _ _ (heap_new2 _ _ _)⟩
theorem sd_ne (o : Int) (l r : Nd) (op : Int) (ho : o ≠ op) (w : World) : Calls Tryz.prog 86 #[nv (.pair o l r), .int .i64 op] w (SdR [.pair o l r] w) := by
  have HN := Lib.hid (fun (W : World) (q : Nat) (h : W.heap[q]? = some (.cells #[nv (.pair o l r)] 61 (0, 0))) => nds_one h)
  rw [nv] at HN ⊢
  obtain ⟨tl, vl, el⟩ := nv_iface l
  obtain ⟨tr, vr, er⟩ := nv_iface r
  rw [el, er] at HN ⊢
  have hb : (o == op) = false := by simpa using ho
  clear el er ho
  go_enter Tryz.func86, Tryz.ntmps86
  go_wp2
  go_ret
  exact ⟨_, rfl, ((Kp.refl _).alloc _).alloc _, HN.out _ _ (heap_new2 _ _ _)⟩
set_option maxHeartbeats 2000000 in
set_option maxRecDepth 100000 in
theorem sd_eq (op : Int) (tl tr : TypeId) (vl vr : Value) (ll lr : List Nd) (hl : ll ≠ []) (hn : ll.length + lr.length ≤ 100000) (w : World)
    (HL : Hid (∀ W, Calls Tryz.prog 86 #[.iface tl vl, .int .i64 op] W (SdR ll W))) (HR : Hid (∀ W, Calls Tryz.prog 86 #[.iface tr vr, .int .i64 op] W (SdR lr W))) :
    Calls Tryz.prog 86 #[.iface 134 (.agg #[.int .i64 op, .iface tl vl, .iface tr vr]), .int .i64 op] w (SdR (ll ++ lr) w) := by
  have hb : (op == op) = true := by simp
  have HC := Lib.hid (fun (b : Nat) (v1 v2 : Value) (W : World) (h : W.heap[b]? = some (.cells #[v1, v2] 112 (0, 0))) (h1 : NdsIs W v1 ll) (h2 : NdsIs W v2 lr) => concat_ret b v1 v2 ll lr W h h1 h2 hl hn)
  have E : ∀ W, Kp (w.alloc (.cells #[.int .i64 op, .iface tl vl, .iface tr vr] 134)) W → W.cell? ⟨w.heap.size, 1, none⟩ = some (.iface tl vl) ∧ W.cell? ⟨w.heap.size, 2, none⟩ = some (.iface tr vr) := fun W k => by
    have h := (k.block w.heap.size (by simp)).trans (World.alloc_heap_new w (.cells #[.int .i64 op, .iface tl vl, .iface tr vr] 134))
    exact ⟨by rw [Lib.cell_of_heap h]; rfl, by rw [Lib.cell_of_heap h]; rfl⟩
  have hk0 : Kp (w.alloc (.cells #[.int .i64 op, .iface tl vl, .iface tr vr] 134)) (w.alloc (.cells #[.int .i64 op, .iface tl vl, .iface tr vr] 134)).drew := (Kp.refl _).drew
  have hk9 : Kp w (w.alloc (.cells #[.int .i64 op, .iface tl vl, .iface tr vr] 134)) := (Kp.refl _).alloc _
  replace E := Lib.hid E
  clear hl hn
  go_enter Tryz.func86, Tryz.ntmps86
  go_wp2
  go_region_held3 (fun W => W.cell? ⟨w.heap.size, 1, none⟩ = some (.iface tl vl) ∧ W.cell? ⟨w.heap.size, 2, none⟩ = some (.iface tr vr)) (first | (with_reducible exact E.out _ hk0) | (with_reducible exact E.out _ k1) | (with_reducible exact E.out _ k2) | (with_reducible exact E.out _ (k2.alloc _)) | (with_reducible exact E.out _ k4))
    (first | (go_at_call 86; (with_reducible refine (HL.out _).mono ?_); rintro e W1 ⟨v1, rfl, k1, n1⟩; obtain ⟨_, b1, c1, rfl, _, _⟩ := id n1; replace k1 := hk0.trans k1) | (go_at_call 86; (with_reducible refine (HR.out _).mono ?_); rintro e W2 ⟨v2, rfl, k2, n2⟩; obtain ⟨_, b2, c2, rfl, _, _⟩ := id n2; replace n1 := n1.kp k2; replace k2 := k1.trans k2) | (go_at_call 132; refine (HC.out _ _ _ _ (World.alloc_heap_new _ _) (n1.kp ((Kp.refl _).alloc _)) (n2.kp ((Kp.refl _).alloc _))).mono ?_; rintro e W4 ⟨v4, rfl, k4, n4⟩; replace k4 := (k2.alloc _).trans k4))
  go_wp2
  go_ret
  exact ⟨_, rfl, hk9.trans k4, n4⟩
theorem sidesL_len (op : Int) : ∀ n, (sidesL op n).length ≤ cn n
  | .pair o l r => by
    unfold sidesL
    split
    · have := sidesL_len op l
      have := sidesL_len op r
      simp only [List.length_append, cn]
      omega
    · simp only [List.length_singleton, cn]
      omega
  | .no _ => by simp [sidesL, cn]
  | .test _ _ _ => by simp [sidesL, cn]
  | .truth _ => by simp [sidesL, cn]
/-- cond.sides. -/
theorem sides_ret : ∀ (n : Nd) (op : Int) (w : World), cn n ≤ 100000 → Calls Tryz.prog 86 #[nv n, .int .i64 op] w (SdR (sidesL op n) w)
  | .no n, op, w, _ => sd_no n op w
  | .test o a b, op, w, _ => sd_test o a b op w
  | .truth b, op, w, _ => sd_truth b op w
  | .pair o l r, op, w, hc => by
    by_cases ho : o = op
    · subst ho
      simp only [cn] at hc
      have hl := fun W => sides_ret l o W (by omega)
      have hr := fun W => sides_ret r o W (by omega)
      have h1 := sidesL_len o l
      have h2 := sidesL_len o r
      obtain ⟨tl, vl, el⟩ := nv_iface l
      obtain ⟨tr, vr, er⟩ := nv_iface r
      rw [nv, sidesL, if_pos rfl]
      rw [el] at hl ⊢
      rw [er] at hr ⊢
      exact sd_eq o tl tr vl vr _ _ (sidesL_ne _ _) (by omega) w (Lib.hid hl) (Lib.hid hr)
    · rw [sidesL, if_neg ho]
      exact sd_ne o l r op ho w
end Go.Proofs.YtpmheafccfnfjaaGreatDoor
namespace Go.Proofs.YtpmheafccfnfjaaGreatDoor
open Go Go.RowKit
def FlOK (n : Nd) : Prop := ∀ w, Calls Tryz.prog 93 #[nv n] w (Ret w (nv (fl n)))
theorem flat_no (t t' : TypeId) (v v' : Value) (w : World) (H : Hid (∀ W, Calls Tryz.prog 93 #[.iface t v] W (Ret W (.iface t' v')))) : Calls Tryz.prog 93 #[.iface 88 (.agg #[.iface t v])] w (Ret w (.iface 88 (.agg #[.iface t' v']))) := by
  go_enter Tryz.func93, Tryz.ntmps93
  go_wp2_with (go_at_call 93; refine Calls_ret (H.out _) ?_; intro y1)
  go_ret
  exact ret_of rfl (((Kp.refl _).alloc _).more _)
theorem flat_test (v : Value) (w : World) : Calls Tryz.prog 93 #[.iface 117 v] w (Ret w (.iface 117 v)) := by
  go_enter Tryz.func93, Tryz.ntmps93
  go_wp2
  go_ret
  exact ret_of rfl (Kp.refl _)
theorem flat_truth (v : Value) (w : World) : Calls Tryz.prog 93 #[.iface 140 v] w (Ret w (.iface 140 v)) := by
  go_enter Tryz.func93, Tryz.ntmps93
  go_wp2
  go_ret
  exact ret_of rfl (Kp.refl _)
abbrev iM (m : Nat) (v : Value) : Nat := match v with
  | .int _ z => (m - z).toNat
  | _ => 0
set_option maxHeartbeats 4000000 in
set_option maxRecDepth 100000 in
theorem flat_pair (op : Int) (tl tr : TypeId) (vl vr : Value) (x0 : Nd) (xs : List Nd) (hx : 1 ≤ xs.length) (hn : xs.length ≤ 100000) (w : World)
    (HS : Hid (∀ W, Calls Tryz.prog 86 #[.iface 134 (.agg #[.int .i64 op, .iface tl vl, .iface tr vr]), .int .i64 op] W (SdR (x0 :: xs) W)))
    (HF : Hid (∀ x ∈ x0 :: xs, FlOK x)) (R : Ending → World → Prop) (HR : Hid (∀ w', Kp w w' → R (.returned (nv (xs.foldl (fun a x => .pair op a (fl x)) (fl x0)))) w')) :
    Calls Tryz.prog 93 #[.iface 134 (.agg #[.int .i64 op, .iface tl vl, .iface tr vr])] w R := by
  have HF0 : Hid (∀ W, Calls Tryz.prog 93 #[nv x0] W (Ret W (nv (fl x0)))) := fun W => HF.out x0 (by simp) W
  obtain ⟨t0, u0, e0⟩ := nv_iface x0
  obtain ⟨t1, u1, e1⟩ := nv_iface (fl x0)
  rw [e0, e1] at HF0
  replace e0 := Lib.hid e0
  replace e1 := Lib.hid e1
  have hk0 : Kp w (w.alloc (.cells #[.int .i64 op, .iface tl vl, .iface tr vr] 134)) := (Kp.refl _).alloc _
  go_enter Tryz.func93, Tryz.ntmps93
  go_wp2_with (first | (go_at_call 86; refine (HS.out _).mono ?_; rintro e W1 ⟨v1, rfl, k1, n1⟩; obtain ⟨_, b1, c1, rfl, ⟨hb1, hcap⟩, hc1⟩ := id n1; have hne : ¬ c1 = 1 := (by simp only [List.length_cons] at hcap; omega); have g0 := hc1 0 x0 rfl; rw [e0.out] at g0; have hp := Lib.hid ((k1.block w.heap.size (by simp)).trans (World.alloc_heap_new w (.cells #[.int .i64 op, .iface tl vl, .iface tr vr] 134))); have c0 : W1.cell? ⟨w.heap.size, 0, none⟩ = some (.int .i64 op) := (by rw [Lib.cell_of_heap hp.out]; rfl); have l0 := (Array.getElem?_eq_some_iff.1 hp.out).1; have k2 := Lib.hid (hk0.trans k1); replace hc1 := Lib.hid hc1; clear k1 n1) | (go_at_call 93; refine Calls_ret (HF0.out _) ?_; intro y1))
  go_loopw [33, 6] (fun i u wr => ∃ (j : Nat) (acc : Nd), i = .int .i64 j ∧ u = nv acc ∧ Hid (Kp W1 wr) ∧ j ≤ xs.length ∧ Hid (xs.foldl (fun a x => Nd.pair op a (fl x)) (fl x0) = (xs.drop j).foldl (fun a x => Nd.pair op a (fl x)) acc)) (fun i _ _ => iM xs.length i)
  case atStart => exact ⟨0, fl x0, rfl, e1.out.symm, kp_xt _ _, Nat.zero_le _, rfl⟩
  case round =>
    rename World => X
    obtain ⟨j, acc, rfl, rfl, hkX, hj, hacc⟩ := hrel
    have c0X : X.cell? ⟨w.heap.size, 0, none⟩ = some (.int .i64 op) := by rw [World.cell?_of_block (w := W1) (a := ⟨w.heap.size, 0, none⟩) (hkX.out.block _ l0)]; exact c0
    have l0X : w.heap.size < X.heap.size := Nat.lt_of_lt_of_le l0 hkX.out.size
    have hbX : b1 < X.heap.size := Nat.lt_of_lt_of_le hb1 hkX.out.size
    by_cases hlt : j < xs.length
    · obtain ⟨x, hxj⟩ : ∃ x, xs[j]? = some x := ⟨xs[j], by simp [hlt]⟩
      have hmem : x ∈ xs := List.mem_of_getElem? hxj
      have HF1 : Hid (∀ W, Calls Tryz.prog 93 #[nv x] W (Ret W (nv (fl x)))) := fun W => HF.out x (by simp [hmem]) W
      have gj := hc1.out (j + 1) x (by simpa using hxj)
      have hdrop : xs.drop j = x :: xs.drop (j + 1) := by
        obtain ⟨h1, h2⟩ := List.getElem?_eq_some_iff.1 hxj
        rw [List.drop_eq_getElem_cons h1, h2]
      have hacc2 : Hid (xs.foldl (fun a x => Nd.pair op a (fl x)) (fl x0) = (xs.drop (j + 1)).foldl (fun a x => Nd.pair op a (fl x)) (.pair op acc (fl x))) := by
        show _ = _
        rw [hacc.out, hdrop]
        rfl
      obtain ⟨t2, u2, e2⟩ := nv_iface x
      obtain ⟨t3, u3, e3⟩ := nv_iface (fl x)
      obtain ⟨t4, u4, e4⟩ := nv_iface acc
      have hpair : Hid (nv (.pair op acc (fl x)) = .iface 134 (.agg #[.int .i64 op, .iface t4 u4, .iface t3 u3])) := by
        show _ = _
        rw [nv, e3, e4]
      rw [e2] at gj HF1
      rw [e3] at HF1
      rw [e4]
      rw [Nat.add_comm] at gj
      have gjX : X.cell? ⟨b1, 1 + j, none⟩ = some (.iface t2 u2) := by rw [World.cell?_of_block (w := W1) (a := ⟨b1, 1 + j, none⟩) (hkX.out.block _ hb1)]; exact gj
      clear e2 e3 e4 hdrop hxj hmem hacc HF0
      go_wp2
      refine wp_region_xt (by kernel_rfl) (by kernel_rfl) ?_
      repeat (go_big_quiet_step (first | (with_reducible exact Calls_in (HF1.out _))))
      refine wpQuiet_nil ?_
      intro y2
      go_wp2
      go_roundw
      case rel => exact ⟨j + 1, .pair op acc (fl x), by simp, hpair.out.symm, hkX.out.trans (kp_xt _ _), hlt, hacc2⟩
      case measure =>
        show ((xs.length : Int) - ((j : Int) + 1)).toNat < ((xs.length : Int) - (j : Int)).toNat
        omega
    · have hjl : j = xs.length := by omega
      have hres : nv (xs.foldl (fun a x => Nd.pair op a (fl x)) (fl x0)) = nv acc := by rw [hacc.out, hjl, List.drop_length]; rfl
      rw [hres] at HR
      obtain ⟨t4, u4, e4⟩ := nv_iface acc
      rw [e4] at HR ⊢
      clear hres hacc e4 hc1 HF
      go_wp2
      exact HR.out _ (k2.out.trans hkX.out)
/-- cond.flat. -/
theorem flat_ret (n : Nat) : ∀ {m : Nd}, cn m ≤ n → cn m ≤ 100000 → FlOK m := by
  induction n with
  | zero =>
    intro m h _
    exfalso
    cases m <;> simp [cn] at h
  | succ n ih =>
    intro m h hc w
    cases m with
    | no x =>
      simp only [cn] at h hc
      have H := ih (m := x) (by omega) (by omega)
      rw [fl, nv, nv]
      obtain ⟨t, v, e⟩ := nv_iface x
      obtain ⟨t', v', e'⟩ := nv_iface (fl x)
      unfold FlOK at H
      rw [e, e'] at H
      rw [e, e']
      exact flat_no t t' v v' w (Lib.hid H)
    | test o a b => exact flat_test _ w
    | truth b => exact flat_truth _ w
    | pair op l r =>
      have hs := sides_ret (.pair op l r) op
      have hsides : sidesL op (.pair op l r) = sidesL op l ++ sidesL op r := by rw [sidesL, if_pos rfl]
      have hmem : ∀ x ∈ sidesL op (.pair op l r), cn x < cn (.pair op l r) := fun x hx => by
        have key : ∀ (m : Nd) (x : Nd), x ∈ sidesL op m → cn x ≤ cn m := by
          intro m
          induction m with
          | pair o a b iha ihb =>
            intro x hx
            unfold sidesL at hx
            split at hx
            · rcases List.mem_append.1 hx with h | h
              · have := iha x h; simp only [cn]; omega
              · have := ihb x h; simp only [cn]; omega
            · simp only [List.mem_singleton] at hx
              subst hx
              exact Nat.le_refl _
          | no m _ => intro x hx; simp only [sidesL, List.mem_singleton] at hx; subst hx; exact Nat.le_refl _
          | test => intro x hx; simp only [sidesL, List.mem_singleton] at hx; subst hx; exact Nat.le_refl _
          | truth => intro x hx; simp only [sidesL, List.mem_singleton] at hx; subst hx; exact Nat.le_refl _
        rw [hsides] at hx
        simp only [cn]
        rcases List.mem_append.1 hx with h | h
        · have := key l x h; omega
        · have := key r x h; omega
      have hlen := sidesL_len op (.pair op l r)
      have h2 : 2 ≤ (sidesL op (.pair op l r)).length := by
        rw [hsides, List.length_append]
        have := List.length_pos_iff.2 (sidesL_ne op l)
        have := List.length_pos_iff.2 (sidesL_ne op r)
        omega
      have hfl := fl_eq op (.pair op l r)
      cases hL : sidesL op (.pair op l r) with
      | nil => rw [hL] at h2; simp at h2
      | cons x0 xs =>
        rw [hL] at hfl hmem hlen h2
        simp only [List.length_cons] at hlen h2
        have hres : fl (.pair op l r) = xs.foldl (fun a x => Nd.pair op a (fl x)) (fl x0) := by
          rw [hfl]
          simp only [chain, List.map_cons, List.foldl_map]
        rw [hres]
        have HS : Hid (∀ W, Calls Tryz.prog 86 #[nv (.pair op l r), .int .i64 op] W (SdR (x0 :: xs) W)) := fun W => by
          have := hs W hc
          rwa [hL] at this
        have HF : Hid (∀ x ∈ x0 :: xs, FlOK x) := fun x hx => ih (by have := hmem x hx; omega) (by have := hmem x hx; omega)
        rw [nv] at HS ⊢
        obtain ⟨tl, vl, el⟩ := nv_iface l
        obtain ⟨tr, vr, er⟩ := nv_iface r
        rw [el, er] at HS ⊢
        exact flat_pair op tl tr vl vr x0 xs (by omega) (by omega) w HS HF _ (Lib.hid fun w' hk => ⟨rfl, hk⟩)
end Go.Proofs.YtpmheafccfnfjaaGreatDoor
namespace Go.Proofs.YtpmheafccfnfjaaGreatDoor
open Go Go.RowKit
/-- What cond reads. -/
def readQ (s : ByteArray) : Option Nd × Int :=
  if 1000 < s.size then (none, 3) else match rdAll (s.size + 1) (toks s.data.toList) with
    | none => (none, 2)
    | some (n, d) => if 20 < d then (none, 4) else (some (fl n), 0)
def onv : Option Nd → Value
  | some n => nv n
  | none => .nilIface
theorem rdAll_of {k : Nat} {T : List Bs} {n : Nd} {T' : List Bs} {d : Int} (h : pOr (pPrim k) 0 T 0 = some (n, T', d)) : rdAll k T = if T' = [] then some (n, d) else none := by
  unfold rdAll
  rw [h]
  cases T' <;> simp
set_option maxRecDepth 100000 in
/-- cond.read. -/
theorem read_ret (s : ByteArray) (w : World) (hs : s.size ≤ 1000000) (hg : Glob w) : Calls Tryz.prog 46 #[.string s] w (Ret w (.tuple #[onv (readQ s).1, .int .i64 (readQ s).2])) := by
  by_cases h0 : 1000 < s.size
  · have e : readQ s = (none, 3) := by unfold readQ; rw [if_pos h0]
    rw [e]
    go_enter Tryz.func46, Tryz.ntmps46
    go_wp2
    go_ret2
    exact ret_of rfl (Kp.refl _)
  · cases hr : pOr (pPrim (s.size + 1)) 0 (toks s.data.toList) 0 with
    | none =>
      have HP := Lib.hid (parseC_bad s w (by omega) hg hr)
      have e : readQ s = (none, 2) := by unfold readQ rdAll; rw [if_neg h0, hr]
      rw [e]
      clear hr
      go_enter Tryz.func46, Tryz.ntmps46
      go_wp2_with (go_at_call 92; refine Calls_ret HP.out ?_; intro y1)
      go_ret2
      exact ret_of rfl (kp_xt _ _)
    | some r =>
      obtain ⟨n, T', d⟩ := r
      have HP := Lib.hid (parseC_ok s w (by omega) hg hr)
      have hra := rdAll_of hr
      obtain ⟨t, v, en⟩ := nv_iface n
      by_cases hT : T' = []
      · rw [if_pos hT] at hra
        rw [decide_eq_true hT] at HP
        have hc := rdAll_cn hra
        have hc2 := toks_len s.data.toList
        rw [size_data] at hc2
        have HF := Lib.hid (fun W => flat_ret (cn n) (m := n) (Nat.le_refl _) (by omega) W)
        by_cases hd : 20 < d
        · have e : readQ s = (none, 4) := by unfold readQ; rw [if_neg h0, hra]; simp only [if_pos hd]
          rw [e]
          rw [en] at HP
          clear hr hra en HF hT hc hc2
          go_enter Tryz.func46, Tryz.ntmps46
          go_wp2_with (go_at_call 92; refine Calls_ret HP.out ?_; intro y1)
          go_ret2
          exact ret_of rfl (kp_xt _ _)
        · have e : readQ s = (some (fl n), 0) := by unfold readQ; rw [if_neg h0, hra]; simp only [if_neg hd]
          rw [e]
          show Calls _ _ _ _ (Ret w (.tuple #[nv (fl n), .int .i64 0]))
          rw [en] at HP HF
          obtain ⟨t', v', en'⟩ := nv_iface (fl n)
          rw [en'] at HF ⊢
          clear hr hra en en' hT hc hc2
          go_enter Tryz.func46, Tryz.ntmps46
          go_wp2_with (first | (go_at_call 92; refine Calls_ret HP.out ?_; intro y1) | (go_at_call 93; refine Calls_ret (HF.out _) ?_; intro y2))
          go_ret2
          exact ret_of rfl (kp_xt _ _)
      · rw [if_neg hT] at hra
        rw [decide_eq_false hT] at HP
        have e : readQ s = (none, 2) := by unfold readQ; rw [if_neg h0, hra]
        rw [e]
        rw [en] at HP
        clear hr hra en hT
        go_enter Tryz.func46, Tryz.ntmps46
        go_wp2_with (go_at_call 92; refine Calls_ret HP.out ?_; intro y1)
        go_ret2
        exact ret_of rfl (kp_xt _ _)
/-- What is read is right, flat, and not great. -/
theorem readQ_ok {s : ByteArray} {n : Nd} (h : (readQ s).1 = some n) : OkN n ∧ FlatN n ∧ cn n ≤ 1000 := by
  unfold readQ at h
  split at h
  · cases h
  · rename_i h0
    split at h
    · cases h
    · rename_i m d hr
      split at h
      · cases h
      · cases h
        have hc := rdAll_cn hr
        have hc2 := toks_len s.data.toList
        rw [size_data] at hc2
        exact ⟨fl_ok (rdAll_good hr).1, fl_flat m, by rw [cn_fl]; omega⟩
/-- A condition's canonical text, if it is not too long or too deep. -/
def resQ (m : Nd) : Bs × Int := if 1000 < (plB (fl m)).length ∨ 20 < dp (fl m) then ([], 4) else (plB (fl m), 0)
theorem dpS_zero {n : Nd} (h : OkN n) : dpS n 0 = dp n := by
  have : ¬ lvl n < 0 := by
    cases n with
    | pair op l r => rcases h.1 with rfl | rfl <;> simp [lvl]
    | _ => simp [lvl]
  simp only [dpS, pz, if_neg this]
  omega
set_option maxRecDepth 100000 in
/-- cond.result. -/
theorem result_ret (m : Nd) (ok : OkN m) (hc : cn m ≤ 100000) (w : World) (hg : Glob w) : Calls Tryz.prog 47 #[nv m] w (Ret w (.tuple #[.string (st (resQ m).1), .int .i64 (resQ m).2])) := by
  have hc2 : cn (fl m) ≤ 100000 := by rw [cn_fl]; exact hc
  have HF := Lib.hid (fun W => flat_ret (cn m) (m := m) (Nat.le_refl _) hc W)
  have HP : Fix 94 #[nv (fl m)] w (.string (st (plB (fl m)))) := Lib.hid fun W k => plain_ret (fl_ok ok) hc2 W (hg.kp k)
  have HD := Lib.hid (fun W => deep_ret (fl m) 0 W hc2)
  rw [dpS_zero (fl_ok ok)] at HD
  have hsz : (st (plB (fl m))).size = (plB (fl m)).length := st_size _
  obtain ⟨t, v, e⟩ := nv_iface m
  obtain ⟨t', v', e'⟩ := nv_iface (fl m)
  rw [e, e'] at HF
  rw [e'] at HP HD
  rw [e]
  clear e e'
  unfold resQ
  by_cases h1 : 1000 < (plB (fl m)).length
  · rw [if_pos (.inl h1)]
    rw [← hsz] at h1
    generalize st (plB (fl m)) = q at *
    go_enter Tryz.func47, Tryz.ntmps47
    go_wp2_with (first | (go_at_call 93; refine Calls_ret (HF.out _) ?_; intro y1) | (go_at_call 94; refine Calls_ret (HP.out _ (kp_xt _ _)) ?_; intro y2))
    go_ret2
    exact ret_of rfl (kp_xt _ _)
  · by_cases h2 : 20 < dp (fl m)
    · rw [if_pos (.inr h2)]
      rw [← hsz] at h1
      generalize st (plB (fl m)) = q at *
      generalize dp (fl m) = z at *
      go_enter Tryz.func47, Tryz.ntmps47
      go_wp2_with (first | (go_at_call 93; refine Calls_ret (HF.out _) ?_; intro y1) | (go_at_call 94; refine Calls_ret (HP.out _ (kp_xt _ _)) ?_; intro y2) | (go_at_call 95; refine Calls_ret (HD.out _) ?_; intro y3))
      go_ret2
      exact ret_of rfl (kp_xt _ _)
    · rw [if_neg (by simp only [not_or]; exact ⟨h1, h2⟩)]
      rw [← hsz] at h1
      show Calls _ _ _ _ (Ret w (.tuple #[.string (st (plB (fl m))), .int .i64 0]))
      generalize st (plB (fl m)) = q at *
      generalize dp (fl m) = z at *
      go_enter Tryz.func47, Tryz.ntmps47
      go_wp2_with (first | (go_at_call 93; refine Calls_ret (HF.out _) ?_; intro y1) | (go_at_call 94; refine Calls_ret (HP.out _ (kp_xt _ _)) ?_; intro y2) | (go_at_call 95; refine Calls_ret (HD.out _) ?_; intro y3))
      go_ret2
      exact ret_of rfl (kp_xt _ _)
/-- The canonical text. -/
def showQ (s : ByteArray) : Bs × Int := match readQ s with
  | (some n, _) => resQ n
  | (none, e) => ([], e)
theorem readQ_err {s : ByteArray} {e : Int} (h : readQ s = (none, e)) : (e == 0) = false := by
  unfold readQ at h
  split at h
  · cases h; rfl
  · split at h
    · cases h; rfl
    · split at h
      · cases h; rfl
      · cases h
theorem readQ_fine {s : ByteArray} {n : Nd} {e : Int} (h : readQ s = (some n, e)) : e = 0 := by
  unfold readQ at h
  split at h
  · cases h
  · split at h
    · cases h
    · split at h
      · cases h
      · cases h; rfl
/-- cond.Show. -/
theorem show_q (s : ByteArray) (w : World) (hs : s.size ≤ 1000000) (hg : Glob w) : Calls Tryz.prog 10 #[.string s] w (Ret w (.tuple #[.string (st (showQ s).1), .int .i64 (showQ s).2])) := by
  have HR := read_ret s w hs hg
  unfold showQ
  cases hr : readQ s with
  | mk o e =>
    cases o with
    | none =>
      have he := readQ_err hr
      rw [hr] at HR
      replace HR := Lib.hid HR
      show Calls _ _ _ _ (Ret w (.tuple #[.string (st []), .int .i64 e]))
      have e0 : st [] = ⟨#[]⟩ := rfl
      rw [e0]
      clear hr e0
      simp only [onv] at HR
      go_enter Tryz.func10, Tryz.ntmps10
      go_wp2_with (go_at_call 46; refine Calls_ret HR.out ?_; intro y1)
      go_ret2
      exact ret_of rfl (kp_xt _ _)
    | some n =>
      obtain rfl := readQ_fine hr
      obtain ⟨h1, h2, h3⟩ := readQ_ok (s := s) (n := n) (by rw [hr])
      have HQ : Fix 47 #[nv n] w (.tuple #[.string (st (resQ n).1), .int .i64 (resQ n).2]) := Lib.hid fun W k => result_ret n h1 (by omega) W (hg.kp k)
      rw [hr] at HR
      replace HR := Lib.hid HR
      show Calls _ _ _ _ (Ret w (.tuple #[.string (st (resQ n).1), .int .i64 (resQ n).2]))
      simp only [onv] at HR
      obtain ⟨t, v, en⟩ := nv_iface n
      rw [en] at HR HQ
      generalize st (resQ n).1 = q at *
      generalize (resQ n).2 = z at *
      clear hr en
      go_enter Tryz.func10, Tryz.ntmps10
      go_wp2_with (first | (go_at_call 46; refine Calls_ret HR.out ?_; intro y1) | (go_at_call 47; refine Calls_ret (HQ.out _ (kp_xt _ _)) ?_; intro y2))
      go_ret2
      exact ret_of rfl (kp_xt _ _)
/-- cond.Valid. -/
theorem valid_q (s : ByteArray) (w : World) (hs : s.size ≤ 1000000) (hg : Glob w) : Calls Tryz.prog 12 #[.string s] w (Ret w (.bool ((showQ s).2 == 0))) := by
  have HR := Lib.hid (show_q s w hs hg)
  generalize (showQ s).2 = z at *
  generalize st (showQ s).1 = q at *
  go_enter Tryz.func12, Tryz.ntmps12
  go_wp2_with (go_at_call 10; refine Calls_ret HR.out ?_; intro y1)
  go_ret
  exact ret_of rfl (kp_xt _ _)
end Go.Proofs.YtpmheafccfnfjaaGreatDoor
namespace Go.Proofs.YtpmheafccfnfjaaGreatDoor
open Go Go.RowKit
/-- One more term gathered. -/
def gstep (vb : Bool) (acc : List ByteArray) (a : ByteArray) (b : Bool) : List ByteArray := if (!(a.toList == [])) && (b == vb) && !(hasS acc a) then acc ++ [a] else acc
def gath (vb : Bool) (acc : List ByteArray) (l : List Trm) : List ByteArray := l.foldl (fun acc t => gstep vb acc (tvA t) (tvB t)) acc
theorem gstep_len (vb : Bool) (acc : List ByteArray) (a : ByteArray) (b : Bool) : (gstep vb acc a b).length ≤ acc.length + 1 := by
  unfold gstep
  split <;> simp
theorem gath_len (vb : Bool) : ∀ (l : List Trm) (acc : List ByteArray), (gath vb acc l).length ≤ acc.length + l.length
  | [], acc => Nat.le_refl _
  | t :: l, acc => by
    have h1 := gath_len vb l (gstep vb acc (tvA t) (tvB t))
    have h2 := gstep_len vb acc (tvA t) (tvB t)
    simp only [gath, List.foldl_cons, List.length_cons] at h1 ⊢
    omega
theorem gath_app (vb : Bool) (acc : List ByteArray) (l m : List Trm) : gath vb acc (l ++ m) = gath vb (gath vb acc l) m := by simp [gath]
theorem terms_cn : ∀ n : Nd, (termsL n).length ≤ 2 * cn n
  | .pair _ l r => by
    have := terms_cn l
    have := terms_cn r
    simp only [termsL, List.length_append, cn]
    omega
  | .no n => by have := terms_cn n; simp only [termsL, cn]; omega
  | .test _ _ _ => by simp [termsL, cn]
  | .truth _ => by simp [termsL, cn]
/-- Blocks but a stand, where they hold no texts. -/
structure KeepS (a : Nat) (W W' : World) : Prop where
  size : W.heap.size ≤ W'.heap.size
  keep : ∀ k cs T fr, W.heap[k]? = some (.cells cs T fr) → k ≠ a → T ≠ 9 → W'.heap[k]? = some (.cells cs T fr)
theorem KeepS.refl (a : Nat) (W : World) : KeepS a W W := ⟨Nat.le_refl _, fun _ _ _ _ h _ _ => h⟩
theorem KeepS.trans {a : Nat} {A B C : World} (h : KeepS a A B) (k : KeepS a B C) : KeepS a A C := ⟨Nat.le_trans h.size k.size, fun i cs T fr h1 h2 h3 => k.keep i cs T fr (h.keep i cs T fr h1 h2 h3) h2 h3⟩
theorem KeepS.of_kp {a : Nat} {W W' : World} (h : Kp W W') : KeepS a W W' := ⟨h.size, fun k cs T fr h1 _ _ => by rw [h.block k (Array.getElem?_eq_some_iff.1 h1).1]; exact h1⟩
/-- Gathering under way. -/
structure GS (w W : World) (a c : Nat) (vb : Bool) (v : Value) (acc : List ByteArray) : Prop where
  kp : Kp w W
  wc : w.heap.size ≤ c
  ca : c < a
  hc : W.heap[c]? = some (.cells #[.bool vb] 4 (0, 0))
  ha : W.heap[a]? = some (.cells #[v] 27 (0, 0))
  own : OwnT (a + 1) W v acc
theorem GS.more {w W X : World} {a c : Nat} {vb : Bool} {v : Value} {acc : List ByteArray} (h : GS w W a c vb v acc) (k : Kp W X) : GS w X a c vb v acc :=
  ⟨h.kp.trans k, h.wc, h.ca, by rw [k.block _ (Array.getElem?_eq_some_iff.1 h.hc).1]; exact h.hc, by rw [k.block _ (Array.getElem?_eq_some_iff.1 h.ha).1]; exact h.ha, h.own.kp k⟩
/-- A row of texts of one's own, read. -/
theorem own_strs {B : Nat} {W : World} {v : Value} {l : List ByteArray} (h : OwnT B W v l) (hl : l.length ≤ 1000000) : Strs W v l := by
  obtain ⟨p, c, rfl⟩ := owns_shape h
  obtain ⟨h0, h1⟩ := OwnT.cells h
  refine ⟨p, c, rfl, by omega, ?_⟩
  rcases h1 with h1 | ⟨b, rfl, _, hb, _, hc⟩
  · exact .inl h1
  · refine .inr ⟨_, rfl, hb, fun j hj => ?_⟩
    have ha : (⟨b, 0, none⟩ : Addr).add j = ⟨b, j, none⟩ := by unfold Addr.add; split <;> simp_all
    rw [ha]
    have := hc j l[j] (by simp [hj])
    rw [Nat.zero_add] at this
    simpa [List.getD, hj] using this
/-- 'append(l, t)' to texts of one's own. -/
theorem app_str {ops : Array Oper} {rest : List Oper} {o : Oper} {a : Act} {Q : Exit → Act → World → Prop} (hgd : o.guard = none) (s x : Operand)
    (ho : o.op = .call { callee := .builtin .append, args := #[s, x], argTypes := #[27, 27] }) {W : World} {B : Nat} {v : Value} {L : List ByteArray} (hs : a.eval s = v)
    (hown : OwnT B W v L) (hB : B ≤ W.heap.size) (t : ByteArray) (hx : a.eval x = .slice (some ⟨W.heap.size, 0, none⟩) 1 1) (hl : L.length + 1 ≤ 1000000)
    (h : ∀ g c W', OwnT B W' (.slice (some ⟨g, 0, none⟩) (L.length + 1) c) (L ++ [t]) → (W.alloc (.cells #[.string t] 9)).grownBy W' v.ownBlock → wpList Tryz.prog ops Q rest (a.put o.dst (.slice (some ⟨g, 0, none⟩) (L.length + 1) c)) W') :
    wpList Tryz.prog ops Q (o :: rest) a (W.alloc (.cells #[.string t] 9)) := by
  obtain ⟨i0, hi, hz0, hz1, hz2⟩ := info_parts sInfo
  refine wpList_append_own _ hgd s x 27 ho B 9 i0 (.string ⟨#[]⟩) 1 16 Tryz.underlying27 hi hz0 hz1 hz2 rfl (by decide) v L.length (L.map Value.string) hs (hown.kp ((Kp.refl _).alloc _)) ⟨W.heap.size, 0, none⟩ 1 1 [.string t] hx rfl ?c1 ?c2 ?c3 ?c4 ?c5 ?_
  case c1 =>
    intro j u hj
    match j, hj with
    | 0, hj => simp at hj; subst hj; simp [Addr.add]
  case c2 => intro u hu; simp at hu; subst hu; rfl
  case c3 => unfold maxLen; omega
  case c4 => omega
  case c5 => simp; omega
  intro v' w' hown' hgrow _
  obtain ⟨g, cap, rfl⟩ : ∃ g cap, v' = .slice (some ⟨g, 0, none⟩) (L.length + 1) cap := by
    rcases hown'.2 with ⟨_, h0⟩ | ⟨g, cap, cur, hv, _⟩
    · omega
    · exact ⟨g, cap, hv⟩
  exact h g cap w' (by unfold OwnT; simpa using hown') hgrow
theorem keepS_grown {a B : Nat} {W W' : World} {v : Value} {acc : List ByteArray} (ho : OwnT B W v acc) (t : ByteArray) (hg : (W.alloc (.cells #[.string t] 9)).grownBy W' v.ownBlock) : KeepS a W W' := by
  have hs := hg.size
  refine ⟨Nat.le_trans (by simp) hs, fun k cs T fr h1 _ h3 => ?_⟩
  have hk := (Array.getElem?_eq_some_iff.1 h1).1
  rw [hg.block k (by simp; omega) ?_, Lib.alloc_old _ _ _ hk]
  · exact h1
  · intro e
    rcases ho.2 with ⟨rfl, _⟩ | ⟨g, cap, cur, rfl, _, hg2, _⟩
    · cases e
    · simp only [Value.ownBlock, Option.some.injEq] at e
      subst e
      rw [hg2] at h1
      simp only [Option.some.injEq, Obj.cells.injEq] at h1
      exact h3 h1.2.1.symm
theorem OwnT.set {B : Nat} {W : World} {v u : Value} {l : List ByteArray} (h : OwnT B W v l) {a : Nat} (ha : a < B) : OwnT B (W.setCell ⟨a, 0, none⟩ u) v l := by
  refine World.ownsRow.kept (row := some a) h ⟨rfl, rfl, rfl, by simp, fun k _ hk => Below.heap_setCell _ _ _ _ (fun e => hk (by rw [e]))⟩ (.inr ?_)
  intro e
  have := (World.ownsRow.lt h _ e).1
  omega
/-- What gathered's closure does. -/
abbrev ClR (w W : World) (a c : Nat) (vb : Bool) (acc : List ByteArray) (e : Ending) (W' : World) : Prop := e = .returned (.tuple #[]) ∧ (∃ v', GS w W' a c vb v' acc) ∧ KeepS a W W'
theorem GS.add {w X W' : World} {a c g cap : Nat} {vb : Bool} {v : Value} {acc : List ByteArray} {nm : ByteArray} (h : GS w X a c vb v acc) (hown : OwnT (a + 1) W' (.slice (some ⟨g, 0, none⟩) (acc.length + 1) cap) (acc ++ [nm])) (hg : (X.alloc (.cells #[.string nm] 9)).grownBy W' v.ownBlock) :
    W'.heap[a]? = some (.cells #[v] 27 (0, 0)) ∧ GS w (W'.setCell ⟨a, 0, none⟩ (.slice (some ⟨g, 0, none⟩) (acc.length + 1) cap)) a c vb (.slice (some ⟨g, 0, none⟩) (acc.length + 1) cap) (acc ++ [nm]) ∧ KeepS a X (W'.setCell ⟨a, 0, none⟩ (.slice (some ⟨g, 0, none⟩) (acc.length + 1) cap)) := by
  have hB : ∀ k, v.ownBlock = some k → a + 1 ≤ k := fun k hk => (h.own.lt k hk).1
  have hs := hg.size
  have old : ∀ k, k < X.heap.size → k < a + 1 → W'.heap[k]? = X.heap[k]? := fun k hk hka => by
    rw [hg.block k (by simp; omega) (fun e => by have := hB k e.symm; omega), Lib.alloc_old _ _ _ hk]
  have la := (Array.getElem?_eq_some_iff.1 h.ha).1
  have lc := (Array.getElem?_eq_some_iff.1 h.hc).1
  have wc := h.wc
  have ca := h.ca
  have ha : W'.heap[a]? = some (.cells #[v] 27 (0, 0)) := by rw [old a la (by omega)]; exact h.ha
  refine ⟨ha, ⟨?_, wc, ca, ?_, ?_, ?_⟩, ?_⟩
  · exact (kp_grownBy (h.kp.alloc _) hg (fun k hk => by have := hB k hk; omega)).setCell (by simp; omega) _
  · rw [Below.heap_setCell _ _ _ _ (by simp; omega), old c lc (by omega)]; exact h.hc
  · rw [heap_set_same ha]; rfl
  · refine OwnT.set hown ?_
    omega
  · refine (keepS_grown (a := a) h.own nm hg).trans ⟨by simp, fun k cs T fr h1 h2 _ => ?_⟩
    rw [Below.heap_setCell _ _ _ _ (by simpa using h2)]
    exact h1
set_option maxHeartbeats 1000000 in
set_option maxRecDepth 100000 in
theorem cl_no (w W : World) (a c r i : Nat) (vb b2 : Bool) (v : Value) (acc : List ByteArray) (nm : ByteArray) (h : GS w W a c vb v acc) (hr : r < W.heap.size) (c0 : W.cell? ⟨r, i, none⟩ = some (.string nm)) (c1 : W.cell? ⟨r, i + 1, none⟩ = some (.bool b2)) (hl : acc.length ≤ 100000)
    (hno : ((!(nm.toList == [])) && (b2 == vb) && !(hasS acc nm)) = false) :
    Calls Tryz.prog 99 #[.pointer (some ⟨r, i, none⟩), .pointer (some ⟨c, 0, none⟩), .pointer (some ⟨a, 0, none⟩)] W (ClR w W a c vb acc) := by
  have HC := Lib.hid (fun y => contains_ret (own_strs (h.own.kp (kp_xt W y)) (by omega)) nm)
  have HF : ∀ W', Kp W W' → ClR w W a c vb acc (.returned (.tuple #[])) W' := fun W' k => ⟨rfl, ⟨v, h.more k⟩, .of_kp k⟩
  have d0 : W.cell? ⟨c, 0, none⟩ = some (.bool vb) := by rw [Lib.cell_of_heap h.hc]; rfl
  have d1 : W.cell? ⟨a, 0, none⟩ = some v := by rw [Lib.cell_of_heap h.ha]; rfl
  have l0 := (Array.getElem?_eq_some_iff.1 h.hc).1
  have l1 := (Array.getElem?_eq_some_iff.1 h.ha).1
  generalize hasS acc nm = hz at *
  replace HF := Lib.hid HF
  clear h hl
  by_cases e1 : (nm.toList == []) = true
  · clear hno
    go_enter Tryz.func99, Tryz.ntmps99
    go_wp2
    refine wp_region_xt (by kernel_rfl) (by kernel_rfl) ?_
    repeat (go_big_quiet_step (first | (with_reducible exact Calls_in (HC.out _))))
    refine wpQuiet_nil ?_
    intro y1
    go_wp2
    exact bodyPost_end (results_none rfl _ _ _) rfl (HF.out _ (kp_xt _ _))
  · have e1' : (nm.toList == []) = false := by simpa using e1
    rw [e1'] at hno
    clear e1
    by_cases e2 : b2 = vb
    · subst e2
      have hz1 : hz = true := by simpa using hno
      subst hz1
      clear hno
      go_enter Tryz.func99, Tryz.ntmps99
      go_wp2
      refine wp_region_xt (by kernel_rfl) (by kernel_rfl) ?_
      repeat (go_big_quiet_step (first | (with_reducible exact Calls_in (HC.out _))))
      refine wpQuiet_nil ?_
      intro y1
      go_wp2
      exact bodyPost_end (results_none rfl _ _ _) rfl (HF.out _ (kp_xt _ _))
    · have e2' : (b2 == vb) = false := by simpa using e2
      clear hno e2
      go_enter Tryz.func99, Tryz.ntmps99
      go_wp2
      refine wp_region_xt (by kernel_rfl) (by kernel_rfl) ?_
      repeat (go_big_quiet_step (first | (with_reducible exact Calls_in (HC.out _))))
      refine wpQuiet_nil ?_
      intro y1
      go_wp2
      exact bodyPost_end (results_none rfl _ _ _) rfl (HF.out _ (kp_xt _ _))
set_option maxHeartbeats 4000000 in
set_option maxRecDepth 100000 in
theorem cl_yes (w W : World) (a c r i : Nat) (vb : Bool) (v : Value) (acc : List ByteArray) (nm : ByteArray) (h : GS w W a c vb v acc) (hr : r < W.heap.size) (c0 : W.cell? ⟨r, i, none⟩ = some (.string nm)) (c1 : W.cell? ⟨r, i + 1, none⟩ = some (.bool vb)) (hl : acc.length ≤ 100000)
    (e1 : (nm.toList == []) = false) (hno : hasS acc nm = false) :
    Calls Tryz.prog 99 #[.pointer (some ⟨r, i, none⟩), .pointer (some ⟨c, 0, none⟩), .pointer (some ⟨a, 0, none⟩)] W (ClR w W a c vb (acc ++ [nm])) := by
  have HC := Lib.hid (fun y => contains_ret (own_strs (h.own.kp (kp_xt W y)) (by omega)) nm)
  rw [hno] at HC
  have d0 : W.cell? ⟨c, 0, none⟩ = some (.bool vb) := by rw [Lib.cell_of_heap h.hc]; rfl
  have d1 : W.cell? ⟨a, 0, none⟩ = some v := by rw [Lib.cell_of_heap h.ha]; rfl
  have l0 := (Array.getElem?_eq_some_iff.1 h.hc).1
  have l1 := (Array.getElem?_eq_some_iff.1 h.ha).1
  replace h := Lib.hid h
  clear hno
  go_enter Tryz.func99, Tryz.ntmps99
  go_wp2
  refine wp_region_xt (by kernel_rfl) (by kernel_rfl) ?_
  repeat (go_big_quiet_step (first | (with_reducible exact Calls_in (HC.out _))))
  refine wpQuiet_nil ?_
  intro y1
  go_wp2
  have hX := Lib.hid ((h.out.more (kp_xt W y1)).more (Kp.refl _).drew)
  have kX : Hid (Kp W (xt W y1).drew) := (kp_xt W y1).drew
  have x0 : (xt W y1).drew.cell? ⟨r, i, none⟩ = some (.string nm) := by rw [World.cell?_of_block (w := W) (a := ⟨r, i, none⟩) (kX.out.block _ hr)]; exact c0
  have x1 : (xt W y1).drew.cell? ⟨a, 0, none⟩ = some v := by rw [World.cell?_of_block (w := W) (a := ⟨a, 0, none⟩) (kX.out.block _ l1)]; exact d1
  have m0 : r < (xt W y1).drew.heap.size := Nat.lt_of_lt_of_le hr kX.out.size
  have m1 : a < (xt W y1).drew.heap.size := Nat.lt_of_lt_of_le l1 kX.out.size
  refine wp_region_each 8 rfl (by kernel_rfl) ?_
  generalize (xt W y1).drew = X at *
  have hB : a + 1 ≤ X.heap.size := m1
  refine wpAny_take (i := 1) (v := .pointer (some ⟨r, i, none⟩)) rfl (by kernel_rfl) (by kernel_rfl) (by kernel_rfl) (fun _ _ _ h => h) (.inl ⟨by kernel_rfl, fun w => rfl⟩) ?_
  refine wpAny_take (i := 2) (v := .pointer (some ⟨r, i, none⟩)) rfl (by kernel_rfl) (by kernel_rfl) (by kernel_rfl) (fun _ _ _ h => h) (.inl ⟨by kernel_rfl, fun w => rfl⟩) ?_
  refine wpAny_take (i := 3) (v := .pointer (some ⟨r, i, none⟩)) rfl (by kernel_rfl) (by kernel_rfl) (by kernel_rfl) (fun _ _ _ h => h) (.inl ⟨by kernel_rfl, fun w => by kernel_rfl⟩) ?_
  refine wpAny_two (i := 0) (j := 4) (by kernel_rfl) rfl rfl ?_ ?_
  · go_wp2
    refine wpAny_one (i := 4) (by kernel_rfl) rfl ?_
    go_wp2
    refine wpAny_one (i := 5) (by kernel_rfl) rfl ?_
    go_wp2
    refine wpAny_one (i := 6) (by kernel_rfl) rfl ?_
    go_wp2_with (at_builtin; refine app_str rfl _ _ rfl rfl hX.out.own hB nm rfl (by omega) ?_; intro g cap W' hown hg; have HA := Lib.hid (hX.out.add hown hg); have z0 := Lib.cell_of_heap HA.out.1 0; have z1 := Lib.frozen_of_heap HA.out.1 0; have z2 := (Array.getElem?_eq_some_iff.1 HA.out.1).1)
    refine wpAny_one (i := 7) (by kernel_rfl) rfl ?_
    go_wp2
    refine wpAny_end (by kernel_rfl) ?_
    go_wp2
    exact bodyPost_end (results_none rfl _ _ _) rfl ⟨rfl, ⟨_, HA.out.2.1⟩, (KeepS.of_kp kX.out).trans HA.out.2.2⟩
  · go_wp2
    refine wpAny_two (i := 0) (j := 5) (by kernel_rfl) rfl rfl ?_ ?_
    · go_wp2
      refine wpAny_one (i := 5) (by kernel_rfl) rfl ?_
      go_wp2
      refine wpAny_one (i := 6) (by kernel_rfl) rfl ?_
      go_wp2_with (at_builtin; refine app_str rfl _ _ rfl rfl hX.out.own hB nm rfl (by omega) ?_; intro g cap W' hown hg; have HA := Lib.hid (hX.out.add hown hg); have z0 := Lib.cell_of_heap HA.out.1 0; have z1 := Lib.frozen_of_heap HA.out.1 0; have z2 := (Array.getElem?_eq_some_iff.1 HA.out.1).1)
      refine wpAny_one (i := 7) (by kernel_rfl) rfl ?_
      go_wp2
      refine wpAny_end (by kernel_rfl) ?_
      go_wp2
      exact bodyPost_end (results_none rfl _ _ _) rfl ⟨rfl, ⟨_, HA.out.2.1⟩, (KeepS.of_kp kX.out).trans HA.out.2.2⟩
    · go_wp2
      refine wpAny_one (i := 0) (by kernel_rfl) rfl ?_
      go_wp2
      refine wpAny_one (i := 6) (by kernel_rfl) rfl ?_
      go_wp2_with (at_builtin; refine app_str rfl _ _ rfl rfl hX.out.own hB nm rfl (by omega) ?_; intro g cap W' hown hg; have HA := Lib.hid (hX.out.add hown hg); have z0 := Lib.cell_of_heap HA.out.1 0; have z1 := Lib.frozen_of_heap HA.out.1 0; have z2 := (Array.getElem?_eq_some_iff.1 HA.out.1).1)
      refine wpAny_one (i := 7) (by kernel_rfl) rfl ?_
      go_wp2
      refine wpAny_end (by kernel_rfl) ?_
      go_wp2
      exact bodyPost_end (results_none rfl _ _ _) rfl ⟨rfl, ⟨_, HA.out.2.1⟩, (KeepS.of_kp kX.out).trans HA.out.2.2⟩
/-- gathered's closure. -/
theorem cl_ret (w W : World) (a c r i : Nat) (vb b2 : Bool) (v : Value) (acc : List ByteArray) (nm : ByteArray) (h : GS w W a c vb v acc) (hr : r < W.heap.size) (c0 : W.cell? ⟨r, i, none⟩ = some (.string nm)) (c1 : W.cell? ⟨r, i + 1, none⟩ = some (.bool b2)) (hl : acc.length ≤ 100000) :
    Calls Tryz.prog 99 #[.pointer (some ⟨r, i, none⟩), .pointer (some ⟨c, 0, none⟩), .pointer (some ⟨a, 0, none⟩)] W (ClR w W a c vb (gstep vb acc nm b2)) := by
  cases hq : (!(nm.toList == [])) && (b2 == vb) && !(hasS acc nm) with
  | false =>
    have : gstep vb acc nm b2 = acc := by unfold gstep; rw [hq]; rfl
    rw [this]
    exact cl_no w W a c r i vb b2 v acc nm h hr c0 c1 hl hq
  | true =>
    have e : gstep vb acc nm b2 = acc ++ [nm] := by unfold gstep; rw [hq]; rfl
    rw [e]
    simp only [Bool.and_eq_true, Bool.not_eq_true', beq_iff_eq] at hq
    obtain ⟨⟨h1, rfl⟩, h3⟩ := hq
    exact cl_yes w W a c r i b2 v acc nm h hr c0 c1 hl h1 h3
end Go.Proofs.YtpmheafccfnfjaaGreatDoor
namespace Go.Proofs.YtpmheafccfnfjaaGreatDoor
open Go Go.RowKit
abbrev fvG (a c : Nat) : Value := .func (.func 99) #[] #[.pointer (some ⟨c, 0, none⟩), .pointer (some ⟨a, 0, none⟩)]
section
variable (w : World) (a c : Nat) (vb : Bool)
set_option maxHeartbeats 1000000 in
set_option maxRecDepth 100000 in
theorem tm_pair (op : Int) (tl tr : TypeId) (vl vr : Value) (acc acc1 acc2 : List ByteArray) (W : World) (v : Value) (h : GS w W a c vb v acc)
    (HL : Hid (∀ W v, GS w W a c vb v acc → Calls Tryz.prog 98 #[.iface tl vl, fvG a c] W (ClR w W a c vb acc1))) (HR : Hid (∀ W v, GS w W a c vb v acc1 → Calls Tryz.prog 98 #[.iface tr vr, fvG a c] W (ClR w W a c vb acc2))) :
    Calls Tryz.prog 98 #[.iface 134 (.agg #[.int .i64 op, .iface tl vl, .iface tr vr]), fvG a c] W (ClR w W a c vb acc2) := by
  have la := (Array.getElem?_eq_some_iff.1 h.ha).1
  replace h := Lib.hid h
  go_enter Tryz.func98, Tryz.ntmps98
  go_wp2_with (first | (go_at_call 98; (with_reducible refine (HL.out _ _ (h.out.more ((Kp.refl _).alloc _))).mono ?_); rintro e W1 ⟨rfl, ⟨v1, g1⟩, ks1⟩; have hr := ks1.keep W.heap.size _ _ _ (World.alloc_heap_new W (.cells #[.int .i64 op, .iface tl vl, .iface tr vr] 134)) (by omega) (by decide); have c2 : W1.cell? ⟨W.heap.size, 2, none⟩ = some (.iface tr vr) := (by rw [Lib.cell_of_heap hr]; rfl); have lr := (Array.getElem?_eq_some_iff.1 hr).1; replace g1 := Lib.hid g1; replace ks1 := Lib.hid ks1; clear hr) | (go_at_call 98; (with_reducible refine (HR.out _ _ g1.out).mono ?_); rintro e W2 ⟨rfl, hv2, ks2⟩))
  exact bodyPost_end (results_none rfl _ _ _) rfl ⟨rfl, hv2, ((KeepS.of_kp ((Kp.refl _).alloc _)).trans ks1.out).trans ks2⟩
theorem tm_no (t : TypeId) (u : Value) (acc acc1 : List ByteArray) (W : World) (v : Value) (h : GS w W a c vb v acc)
    (HL : Hid (∀ W v, GS w W a c vb v acc → Calls Tryz.prog 98 #[.iface t u, fvG a c] W (ClR w W a c vb acc1))) :
    Calls Tryz.prog 98 #[.iface 88 (.agg #[.iface t u]), fvG a c] W (ClR w W a c vb acc1) := by
  replace h := Lib.hid h
  go_enter Tryz.func98, Tryz.ntmps98
  go_wp2_with (go_at_call 98; (refine (HL.out _ _ (h.out.more ((Kp.refl _).alloc _))).mono ?_); rintro e W1 ⟨rfl, hv1, ks1⟩)
  exact bodyPost_end (results_none rfl _ _ _) rfl ⟨rfl, hv1, (KeepS.of_kp ((Kp.refl _).alloc _)).trans ks1⟩
theorem tm_truth (u : Value) (acc : List ByteArray) (W : World) (v : Value) (h : GS w W a c vb v acc) :
    Calls Tryz.prog 98 #[.iface 140 u, fvG a c] W (ClR w W a c vb acc) := by
  replace h := Lib.hid h
  go_enter Tryz.func98, Tryz.ntmps98
  go_wp2
  exact bodyPost_end (results_none rfl _ _ _) rfl ⟨rfl, ⟨v, h.out⟩, KeepS.refl _ _⟩
set_option maxHeartbeats 1000000 in
set_option maxRecDepth 100000 in
theorem tm_test (op a1 s1 a2 s2 : ByteArray) (b1 b2 : Bool) (k1 n1 k2 n2 : Int) (acc : List ByteArray) (hl : acc.length + 1 ≤ 100000) (W : World) (v : Value) (h : GS w W a c vb v acc) :
    Calls Tryz.prog 98 #[.iface 117 (.agg #[.string op, .string a1, .bool b1, .int .i64 k1, .int .i64 n1, .string s1, .string a2, .bool b2, .int .i64 k2, .int .i64 n2, .string s2]), fvG a c] W (ClR w W a c vb (gstep vb (gstep vb acc a1 b1) a2 b2)) := by
  have la := (Array.getElem?_eq_some_iff.1 h.ha).1
  have hg := gstep_len vb acc a1 b1
  have hnew := World.alloc_heap_new W (.cells #[.string op, .string a1, .bool b1, .int .i64 k1, .int .i64 n1, .string s1, .string a2, .bool b2, .int .i64 k2, .int .i64 n2, .string s2] 117)
  have HT1 := Lib.hid (cl_ret w (W.alloc (.cells #[.string op, .string a1, .bool b1, .int .i64 k1, .int .i64 n1, .string s1, .string a2, .bool b2, .int .i64 k2, .int .i64 n2, .string s2] 117)) a c W.heap.size 1 vb b1 v acc a1 (h.more ((Kp.refl _).alloc _)) (by simp) (by rw [Lib.cell_of_heap hnew]; rfl) (by rw [Lib.cell_of_heap hnew]; rfl) (by omega))
  have HT2 := Lib.hid (fun W1 v1 (g1 : GS w W1 a c vb v1 (gstep vb acc a1 b1)) (hr : W1.heap[W.heap.size]? = some (.cells #[.string op, .string a1, .bool b1, .int .i64 k1, .int .i64 n1, .string s1, .string a2, .bool b2, .int .i64 k2, .int .i64 n2, .string s2] 117)) => cl_ret w W1 a c W.heap.size 6 vb b2 v1 _ a2 g1 (Array.getElem?_eq_some_iff.1 hr).1 (by rw [Lib.cell_of_heap hr]; rfl) (by rw [Lib.cell_of_heap hr]; rfl) (by omega))
  replace hnew := Lib.hid hnew
  go_enter Tryz.func98, Tryz.ntmps98
  go_wp2_with (first | (go_at_call 99; (with_reducible refine HT1.out.mono ?_); rintro e W1 ⟨rfl, ⟨v1, g1⟩, ks1⟩; have hr := ks1.keep W.heap.size _ _ _ hnew.out (by omega) (by decide); replace hr := Lib.hid hr; have lr := (Array.getElem?_eq_some_iff.1 hr.out).1; replace g1 := Lib.hid g1; replace ks1 := Lib.hid ks1) | (go_at_call 99; (with_reducible refine (HT2.out _ _ g1.out hr.out).mono ?_); rintro e W2 ⟨rfl, hv2, ks2⟩))
  exact bodyPost_end (results_none rfl _ _ _) rfl ⟨rfl, hv2, ((KeepS.of_kp ((Kp.refl _).alloc _)).trans ks1.out).trans ks2⟩
/-- cond.terms over gathered's closure. -/
theorem terms_ret : ∀ (n : Nd) (acc : List ByteArray) (W : World) (v : Value), acc.length + 2 * cn n ≤ 100000 → GS w W a c vb v acc → Calls Tryz.prog 98 #[nv n, fvG a c] W (ClR w W a c vb (gath vb acc (termsL n)))
  | .pair op l r, acc, W, v, hb, h => by
    simp only [cn] at hb
    have h1 := gath_len vb (termsL l) acc
    have h2 := terms_cn l
    have hl := fun W v => terms_ret l acc W v (by omega)
    have hr := fun W v => terms_ret r (gath vb acc (termsL l)) W v (by omega)
    rw [nv, termsL, gath_app]
    obtain ⟨tl, vl, el⟩ := nv_iface l
    obtain ⟨tr, vr, er⟩ := nv_iface r
    rw [el] at hl ⊢
    rw [er] at hr ⊢
    exact tm_pair w a c vb op tl tr vl vr acc _ _ W v h (Lib.hid hl) (Lib.hid hr)
  | .no n, acc, W, v, hb, h => by
    simp only [cn] at hb
    have hl := fun W v => terms_ret n acc W v (by omega)
    rw [nv, termsL]
    obtain ⟨tl, vl, el⟩ := nv_iface n
    rw [el] at hl ⊢
    exact tm_no w a c vb tl vl acc _ W v h (Lib.hid hl)
  | .test op x y, acc, W, v, hb, h => by
    simp only [cn] at hb
    exact tm_test w a c vb (st op) _ _ _ _ _ _ _ _ _ _ acc (by omega) W v h
  | .truth b, acc, W, v, hb, h => tm_truth w a c vb _ acc W v h
end
/-- The names, or the variables, that occur. -/
def gathQ (vb : Bool) (s : ByteArray) : List ByteArray × Int := match readQ s with
  | (some n, _) => (gath vb [] (termsL n), 0)
  | (none, e) => ([], e)
abbrev GaR (l : List ByteArray) (z : Int) (w : World) (e : Ending) (w' : World) : Prop := ∃ v, e = .returned (.tuple #[v, .int .i64 z]) ∧ Kp w w' ∧ Strs w' v l
theorem strs_nil (w : World) : Strs w (.slice none 0 0) [] := ⟨none, 0, rfl, by simp, .inl rfl⟩
theorem GS.start (w : World) (vb : Bool) (y : World) : GS w ((xt (w.alloc (.cells #[.bool vb] 4)) y).alloc (.cells #[.slice none 0 0] 27)) (xt (w.alloc (.cells #[.bool vb] 4)) y).heap.size w.heap.size vb (.slice none 0 0) [] := by
  have hs := size_xt (w.alloc (.cells #[.bool vb] 4)) y
  simp at hs
  refine ⟨(((Kp.refl w).alloc _).more y).alloc _, Nat.le_refl _, by omega, ?_, World.alloc_heap_new _ _, rfl, .inl ⟨rfl, rfl⟩⟩
  rw [Lib.alloc_old _ _ _ (by omega), heap_xt _ _ (by simp)]
  exact World.alloc_heap_new _ _
set_option maxHeartbeats 1000000 in
set_option maxRecDepth 100000 in
/-- cond.gathered. -/
theorem gathered_ret (vb : Bool) (s : ByteArray) (w : World) (hs : s.size ≤ 1000000) (hg : Glob w) : Calls Tryz.prog 50 #[.string s, .bool vb] w (GaR (gathQ vb s).1 (gathQ vb s).2 w) := by
  have HR := Lib.hid (fun W (k : Kp w W) => read_ret s W hs (hg.kp k))
  unfold gathQ
  cases hr : readQ s with
  | mk o e =>
    cases o with
    | none =>
      have he := readQ_err hr
      rw [hr] at HR
      show Calls _ _ _ _ (GaR [] e w)
      clear hr
      simp only [onv] at HR
      go_enter Tryz.func50, Tryz.ntmps50
      go_wp2_with (go_at_call 46; refine Calls_ret (HR.out _ ((Kp.refl _).alloc _)) ?_; intro y1)
      go_ret2
      exact ⟨_, rfl, ((Kp.refl _).alloc _).more _, strs_nil _⟩
    | some n =>
      obtain rfl := readQ_fine hr
      obtain ⟨h1, h2, h3⟩ := readQ_ok (s := s) (n := n) (by rw [hr])
      rw [hr] at HR
      show Calls _ _ _ _ (GaR (gath vb [] (termsL n)) 0 w)
      simp only [onv] at HR
      have hlen := gath_len vb (termsL n) []
      have hlen2 := terms_cn n
      have HT := Lib.hid (fun y => terms_ret w _ _ vb n [] _ _ (by simp; omega) (GS.start w vb y))
      obtain ⟨t, v, en⟩ := nv_iface n
      rw [en] at HR HT
      simp only [List.length_nil, Nat.zero_add] at hlen
      generalize gath vb [] (termsL n) = L at *
      have hlen3 : L.length ≤ 1000000 := by omega
      clear hr en h1 h2 hlen2
      go_enter Tryz.func50, Tryz.ntmps50
      go_wp2_with (first | (go_at_call 46; refine Calls_ret (HR.out _ ((Kp.refl _).alloc _)) ?_; intro y1) | (go_at_call 98; (refine (HT.out _).mono ?_); rintro e W1 ⟨rfl, ⟨v1, g1⟩, ks1⟩; have c1 := Lib.cell_of_heap g1.ha 0; have l1 := (Array.getElem?_eq_some_iff.1 g1.ha).1; replace g1 := Lib.hid g1; clear ks1))
      go_ret2
      exact ⟨_, rfl, g1.out.kp, own_strs g1.out.own (by omega)⟩
/-- cond.Names. -/
theorem names_q (s : ByteArray) (w : World) (hs : s.size ≤ 1000000) (hg : Glob w) : Calls Tryz.prog 14 #[.string s] w (GaR (gathQ false s).1 (gathQ false s).2 w) := by
  have H := Lib.hid (gathered_ret false s w hs hg)
  generalize gathQ false s = q at *
  go_enter Tryz.func14, Tryz.ntmps14
  go_wp2_with (go_at_call 50; refine H.out.mono ?_; rintro e W ⟨v, rfl, hk, hv⟩)
  go_ret2
  exact ⟨_, rfl, hk, hv⟩
/-- cond.Vars. -/
theorem vars_q (s : ByteArray) (w : World) (hs : s.size ≤ 1000000) (hg : Glob w) : Calls Tryz.prog 17 #[.string s] w (GaR (gathQ true s).1 (gathQ true s).2 w) := by
  have H := Lib.hid (gathered_ret true s w hs hg)
  generalize gathQ true s = q at *
  go_enter Tryz.func17, Tryz.ntmps17
  go_wp2_with (go_at_call 50; refine H.out.mono ?_; rintro e W ⟨v, rfl, hk, hv⟩)
  go_ret2
  exact ⟨_, rfl, hk, hv⟩
end Go.Proofs.YtpmheafccfnfjaaGreatDoor
