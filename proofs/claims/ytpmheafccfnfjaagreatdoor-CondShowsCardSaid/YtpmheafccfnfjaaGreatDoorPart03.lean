/- item's reader: value. What item's reader reads, and what is written: lists alone. item.Parse's deferred closure. item.Parse. cond's two maps of functions. The words of a condition as a list; the reader's state by what words are still to come. cond's reader: term. -/
import Derived.Defers
import Derived.Recover
import Derived.Deep.RegionLaw
import Derived.Deep.AppendLies
import Derived.WideMake
import Derived.Test.YtpmheafccfnfjaaGreatDoorPart02
set_option linter.unusedSimpArgs false
set_option linter.unusedVariables false
namespace Go.Proofs.YtpmheafccfnfjaaGreatDoor
open Go Go.RowKit
theorem rtext_ok (b : Nat) (s : ByteArray) (n : Nat) (w : World) (h : w.heap[b]? = some (irO s n)) (hn : n < s.size) (hs : s.size ≤ 1000000) (hg : Glob w) (hb8 : 8 ≤ b) {t rest : Bs} (hr : rtx (sfx s (n + 1)) = some (t, rest)) :
    Calls Tryz.prog 202 #[.pointer (some ⟨b, 0, none⟩)] w (RetB w b (irO s (s.size - rest.length : Nat)) (.string (st t))) :=
  text_walk b s n w h hn hs hg hb8 _ (Lib.hid ⟨fun t' r' e w' h1 h2 => (by rw [hr] at h1; cases h1; exact h2), fun e w' h1 => (by rw [hr] at h1; cases h1)⟩)
theorem rtext_pan (b : Nat) (s : ByteArray) (n : Nat) (w : World) (h : w.heap[b]? = some (irO s n)) (hn : n < s.size) (hs : s.size ≤ 1000000) (hg : Glob w) (hb8 : 8 ≤ b) (hr : rtx (sfx s (n + 1)) = none) :
    Calls Tryz.prog 202 #[.pointer (some ⟨b, 0, none⟩)] w (PanB w b wrongI) :=
  text_walk b s n w h hn hs hg hb8 _ (Lib.hid ⟨fun t' r' e w' h1 h2 => (by rw [hr] at h1; cases h1), fun e w' _ h2 => h2⟩)
/-- Where a number's text from n on ends: at a comma. -/
def numE (s : ByteArray) (n : Nat) : Nat := n + ((sfx s n).takeWhile (· != 44)).length
/-- A value from n on, and where it ends; none where the reader panics. -/
def ival (s : ByteArray) (n : Nat) : Option (Vl × Nat) :=
  if bt s n = 34 then (rtx (sfx s (n + 1))).map (fun r => (⟨2, 0, st r.1⟩, s.size - r.2.length))
  else match Lib.atoiAll (s.extract n (numE s n)).data.toList with
    | .ok v => if (itoaS v).toList == (s.extract n (numE s n)).toList then some (⟨1, v, ⟨#[]⟩⟩, numE s n) else none
    | _ => none
theorem numE_of {s : ByteArray} {n k : Nat} (hn : n ≤ k) (hk : k ≤ s.size) (h1 : ∀ j, n ≤ j → j < k → bt s j ≠ 44) (h2 : k < s.size → bt s k = 44) : numE s n = k := by
  have hl := size_data s
  have : ((sfx s n).takeWhile (· != 44)).length = k - n := by
    refine tw_len (by simp only [List.length_drop]; omega) (fun j hj hjk => ?_) (fun h => ?_)
    · have e := h1 (n + j) (by omega) (by omega)
      rw [List.getElem_drop, bne_iff_ne]
      exact fun e' => e ((bt_eq (by omega) 44).2 e')
    · simp only [List.length_drop] at h
      have e := h2 (by omega)
      rw [List.getElem_drop, bne_eq_false_iff_eq]
      have : n + (k - n) = k := by omega
      simp only [this]
      exact (bt_eq (by omega) 44).1 e
  unfold numE
  omega
section
variable {P : Program} {w x : World} {b : Nat} {o : Obj} {f : FuncId} {args : Array Value} {v : Value}
theorem Calls_inS {y : World} (hb : b < w.heap.size) (h : Calls P f args (sb (xt w y) b o) (Ret (sb (xt w y) b o) v)) : Calls P f args (sb (xt w y) b o) fun e w'' => e = .returned v ∧ ∃ z, w'' = sb (xt w z) b o :=
  h.mono fun e w' ⟨he, hk⟩ => ⟨he, by obtain ⟨z, hz, _⟩ := sb_kp (F := fun _ => True) (fun _ _ => trivial) hb trivial hk; exact ⟨z, hz⟩⟩
theorem Calls_retBS {o' : Obj} {R : Ending → World → Prop} (hb : b < w.heap.size) (h : Calls P f args (sb (xt w x) b o) (RetB (sb (xt w x) b o) b o' v)) (k : ∀ y, R (.returned v) (sb (xt w y) b o')) : Calls P f args (sb (xt w x) b o) R :=
  h.mono fun e w' ⟨he, hk, ho⟩ => by
    obtain ⟨y, hy⟩ := ((((Kb.refl b w).more x).setB o).trans hk).out hb ho
    subst he hy
    exact k y
theorem Calls_panBS {R : Ending → World → Prop} (h : Calls P f args (sb (xt w x) b o) (PanB (sb (xt w x) b o) b v)) (k : ∀ w', Kb b w w' → R (.panicked [{ v, recovered := false }]) w') : Calls P f args (sb (xt w x) b o) R :=
  h.mono fun e w' ⟨he, hk⟩ => by
    subst he
    exact k w' ((((Kb.refl b w).more x).setB o).trans hk)
/-- A region that draws: reads, and calls of one value each that make memory. -/
theorem wp_region_sbx {id : Nat} {Q : Exit → Act → World → Prop} {a : Act} {l : List Oper} (hb : b < w.heap.size) (hm : P.follows .mixedOrders = true) (hB : Region.lexB .any l.toArray = true)
    (h : wpQuiet P l.toArray (fun w' => ∃ y, w' = sb (xt w y) b o) (fun a' => ∀ y, Q .normal a' (sb (xt w y) b o)) l a) : (Code.region id l.toArray true).wp P Q a (sb (xt w x) b o) := by
  refine wp_region_quiet (C := fun w' => ∃ y, w' = sb (xt w y) b o) hm hB ?_ ?_
  · obtain ⟨y, hy, _⟩ := sb_kp (F := fun _ => True) (fun _ _ => trivial) hb trivial (Kp.refl (sb (xt w x) b o)).drew
    exact ⟨y, hy⟩
  · simpa using h
theorem Fin.setCell {X : World} (h : Fin w b o X) {p : Addr} (hp : w.heap.size ≤ p.block) (hb : b < w.heap.size) (u : Value) : Fin w b o (X.setCell p u) :=
  ⟨h.1.setCell (.inr hp) u, by rw [Below.heap_setCell _ _ _ _ (by omega)]; exact h.2⟩
theorem Fin.base {W : World} (hk : Kp w W) (hb : b < w.heap.size) : Fin w b o (Go.Proofs.YtpmheafccfnfjaaGreatDoor.sb (Go.Proofs.YtpmheafccfnfjaaGreatDoor.xt W x) b o) := ⟨((Kb.of_kp hk).more x).setB o, heap_sb_same _ _ _ (Nat.lt_of_lt_of_le hb (Nat.le_trans hk.size (size_xt _ _)))⟩
end
abbrev wNew (w : World) : World := w.alloc (.cells #[.int .i64 0, .int .i64 0, .string ⟨#[]⟩] 53)
theorem ir_base (w : World) (b : Nat) (s : ByteArray) (n : Nat) (o2 : Obj) (h : w.heap[b]? = some (irO s n)) : ∃ y, w.alloc o2 = sb (xt (w.alloc o2) y) b (irO s n) := by
  have hb : b < w.heap.size := (Array.getElem?_eq_some_iff.1 h).1
  exact (Kb.refl b (w.alloc o2)).out (by simp; omega) (by rw [Lib.alloc_old _ _ _ hb]; exact h)
theorem store3 {X : World} {r : Nat} {a b c a' b' c' : Value} {T : TypeId} (h : X.heap[r]? = some (.cells #[a', b', c'] T (0, 0))) : ((X.setCell ⟨r, 0, none⟩ a).setCell ⟨r, 1, none⟩ b).setCell ⟨r, 2, none⟩ c = sb X r (.cells #[a, b, c] T (0, 0)) := by
  have hr : r < X.heap.size := (Array.getElem?_eq_some_iff.1 h).1
  have e : X = sb X r (.cells #[a', b', c'] T (0, 0)) := by
    obtain ⟨heap, tape, drawn, os, output⟩ := X
    simp only [sb]
    congr 1
    apply Array.ext_getElem?
    intro k
    rw [Array.getElem?_setIfInBounds]
    split
    · subst_vars
      simp only at h hr
      first | exact h | (rw [if_pos hr]; exact h)
    · rfl
  rw [e, setCell_sb _ _ _ _ _ _ _ hr, setCell_sb _ _ _ _ _ _ _ hr, setCell_sb _ _ _ _ _ _ _ hr, sb_sb]
  rfl
theorem wNew_heap {w : World} {b : Nat} {o : Obj} (hne : w.heap.size ≠ b) (y : World) : (sb (xt (wNew w) y) b o).heap[w.heap.size]? = some (.cells #[.int .i64 0, .int .i64 0, .string ⟨#[]⟩] 53 (0, 0)) := by
  rw [heap_sb_other _ _ _ hne, heap_xt _ _ (by simp)]
  exact World.alloc_heap_new _ _
theorem Fin.setB {w X : World} {b r : Nat} {o : Obj} (h : Fin w b o X) (hr : w.heap.size ≤ r) (hb : b < w.heap.size) (o' : Obj) : Fin w b o (Go.Proofs.YtpmheafccfnfjaaGreatDoor.sb X r o') :=
  ⟨⟨by simpa using h.1.size, h.1.os, h.1.tape, h.1.output, fun k hk hne => by rw [heap_sb_other _ _ _ (by omega)]; exact h.1.block k hk hne⟩, by rw [heap_sb_other _ _ _ (by omega)]; exact h.2⟩
set_option maxHeartbeats 1000000 in
set_option maxRecDepth 100000 in
theorem value_text (b : Nat) (s : ByteArray) (n : Nat) (w : World) (h : w.heap[b]? = some (irO s n)) (hs : s.size ≤ 1000000) (hg : Glob w) (hb8 : 8 ≤ b) (h34 : bt s n = 34) {t rest : Bs} (hr : rtx (sfx s (n + 1)) = some (t, rest)) :
    Calls Tryz.prog 183 #[.pointer (some ⟨b, 0, none⟩)] w (RetB w b (irO s (s.size - rest.length : Nat)) (vv 2 0 (st t))) := by
  have hb : b < w.heap.size := (Array.getElem?_eq_some_iff.1 h).1
  have hn : n < s.size := by
    rcases Nat.lt_or_ge n s.size with h | h
    · exact h
    · unfold bt at h34
      rw [dif_neg (by omega)] at h34
      cases h34
  have e34 : (bt s n == 34) = true := by simpa using h34
  have hbw : b < (wNew w).heap.size := by simp; omega
  obtain ⟨y, hy⟩ := ir_base w b s n (.cells #[.int .i64 0, .int .i64 0, .string ⟨#[]⟩] 53) h
  have HN := Lib.hid (next_ret b s n (sb (xt (wNew w) y) b (irO s n)) (heap_sb_same _ _ _ (Nat.lt_of_lt_of_le hbw (size_xt _ _))) (by omega))
  have HT := Lib.hid (fun y => rtext_ok b s n (sb (xt (wNew w) y) b (irO s n)) (heap_sb_same _ _ _ (Nat.lt_of_lt_of_le hbw (size_xt _ _))) hn hs (((hg.alloc _).xt y).sb hb8 _) hb8 hr)
  have HY := Lib.hid hy
  have hne : w.heap.size ≠ b := by omega
  generalize hm : s.size - rest.length = m at *
  clear h hy h34 hr hm
  go_enter Tryz.func183, Tryz.ntmps183
  go_wp2_with (first | (go_at_call 184; rw [HY.out]; refine Calls_retS (F := fun _ => True) (fun _ _ => trivial) hbw trivial HN.out ?_; intro y1 _) | (go_at_call 202; refine Calls_retBS hbw (HT.out _) ?_; intro y2))
  rw [store3 (wNew_heap hne _)]
  have hsz : w.heap.size < (sb (xt (wNew w) y2) b (irO s m)).heap.size := (Array.getElem?_eq_some_iff.1 (wNew_heap hne y2)).1
  refine bodyPost_ret (v := vv 2 0 (st t)) (by simp [results, Tryz.results183, go_sem, hsz]) rfl ?_
  exact Fin.retB ((Fin.base ((Kp.refl w).alloc _) hb).setB (Nat.le_refl _) hb _) rfl
theorem bt_lt {s : ByteArray} {n : Nat} (h : bt s n = 34) : n < s.size := by
  rcases Nat.lt_or_ge n s.size with h' | h'
  · exact h'
  · unfold bt at h
    rw [dif_neg (by omega)] at h
    cases h
set_option maxHeartbeats 1000000 in
set_option maxRecDepth 100000 in
theorem value_tpan (b : Nat) (s : ByteArray) (n : Nat) (w : World) (h : w.heap[b]? = some (irO s n)) (hs : s.size ≤ 1000000) (hg : Glob w) (hb8 : 8 ≤ b) (h34 : bt s n = 34) (hr : rtx (sfx s (n + 1)) = none) :
    Calls Tryz.prog 183 #[.pointer (some ⟨b, 0, none⟩)] w (PanB w b wrongI) := by
  have hb : b < w.heap.size := (Array.getElem?_eq_some_iff.1 h).1
  have hn := bt_lt h34
  have e34 : (bt s n == 34) = true := by simpa using h34
  have hbw : b < (wNew w).heap.size := by simp; omega
  obtain ⟨y, hy⟩ := ir_base w b s n (.cells #[.int .i64 0, .int .i64 0, .string ⟨#[]⟩] 53) h
  have HN := Lib.hid (next_ret b s n (sb (xt (wNew w) y) b (irO s n)) (heap_sb_same _ _ _ (Nat.lt_of_lt_of_le hbw (size_xt _ _))) (by omega))
  have HT := Lib.hid (fun y => rtext_pan b s n (sb (xt (wNew w) y) b (irO s n)) (heap_sb_same _ _ _ (Nat.lt_of_lt_of_le hbw (size_xt _ _))) hn hs (((hg.alloc _).xt y).sb hb8 _) hb8 hr)
  have HY := Lib.hid hy
  clear h hy h34 hr
  go_enter Tryz.func183, Tryz.ntmps183
  go_wp2_with (first | (go_at_call 184; rw [HY.out]; refine Calls_retS (F := fun _ => True) (fun _ _ => trivial) hbw trivial HN.out ?_; intro y1 _) | (go_at_call 202; refine Calls_panBS (HT.out _) ?_; intro w3 hk3))
  exact ⟨rfl, rfl, (Kb.of_kp ((Kp.refl w).alloc _)).trans hk3⟩
theorem ir_base' (w : World) (b : Nat) (s : ByteArray) (n : Nat) (h : w.heap[b]? = some (irO s n)) : ∃ W1 y, w.alloc (.cells #[.int .i64 0, .int .i64 0, .string ⟨#[]⟩] 53) = sb (xt W1 y) b (irO s n) ∧ Kp w W1 ∧ b < W1.heap.size ∧ W1.heap[w.heap.size]? = some (.cells #[.int .i64 0, .int .i64 0, .string ⟨#[]⟩] 53 (0, 0)) ∧
    ∀ y o, (sb (xt W1 y) b o).heap[w.heap.size]? = some (.cells #[.int .i64 0, .int .i64 0, .string ⟨#[]⟩] 53 (0, 0)) := by
  have hb : b < w.heap.size := (Array.getElem?_eq_some_iff.1 h).1
  obtain ⟨y, hy⟩ := ir_base w b s n (.cells #[.int .i64 0, .int .i64 0, .string ⟨#[]⟩] 53) h
  exact ⟨wNew w, y, hy, (Kp.refl w).alloc _, by simp; omega, World.alloc_heap_new _ _, fun y o => wNew_heap (by omega) y⟩
set_option maxHeartbeats 2000000 in
set_option maxRecDepth 100000 in
theorem value_num (b : Nat) (s : ByteArray) (n : Nat) (w : World) (h : w.heap[b]? = some (irO s n)) (hn : n ≤ s.size) (hs : s.size ≤ 1000000) (hg : Glob w) (hb8 : 8 ≤ b) (h34 : bt s n ≠ 34) (R : Ending → World → Prop)
    (HR : Hid (∀ e w', (match ival s n with | some (x, m) => RetB w b (irO s m) x.v e w' | none => PanB w b wrongI e w') → R e w')) :
    Calls Tryz.prog 183 #[.pointer (some ⟨b, 0, none⟩)] w R := by
  have hb : b < w.heap.size := (Array.getElem?_eq_some_iff.1 h).1
  have e34 : (bt s n == 34) = false := by simpa using h34
  have hne : w.heap.size ≠ b := by omega
  obtain ⟨W1, y, hy, hk1, hb1, hw1, hr1⟩ := ir_base' w b s n h
  have r0 : W1.cell? ⟨w.heap.size, 0, none⟩ = some (.int .i64 0) := by rw [Lib.cell_of_heap hw1]; rfl
  have r1 : W1.cell? ⟨w.heap.size, 1, none⟩ = some (.int .i64 0) := by rw [Lib.cell_of_heap hw1]; rfl
  have r2 : W1.cell? ⟨w.heap.size, 2, none⟩ = some (.string ⟨#[]⟩) := by rw [Lib.cell_of_heap hw1]; rfl
  have rf := Lib.frozen_of_heap hw1
  have rl : w.heap.size < W1.heap.size := (Array.getElem?_eq_some_iff.1 hw1).1
  have HN := Lib.hid (next_ret b s n (sb (xt W1 y) b (irO s n)) (heap_sb_same _ _ _ (Nat.lt_of_lt_of_le hb1 (size_xt _ _))) (by omega))
  have HY := Lib.hid hy
  have HK := Lib.hid hk1
  have HG := Lib.hid (fun (y : World) (o : Obj) => ((hg.kp hk1).xt y).sb hb8 o)
  have HW := Lib.hid hr1
  have H34 := Lib.hid h34
  clear h hy h34 hg hk1 hr1 hw1
  go_enter Tryz.func183, Tryz.ntmps183
  go_wp2_with (go_at_call 184; rw [HY.out]; refine Calls_retS (F := fun _ => True) (fun _ _ => trivial) hb1 trivial HN.out ?_; intro y1 _)
  go_loopw [] (fun wr => ∃ k y, n ≤ k ∧ k ≤ s.size ∧ wr = sb (xt W1 y) b (irO s k) ∧ Hid (∀ j, n ≤ j → j < k → bt s j ≠ 44)) (fun wr => s.size - rdN wr b)
  case atStart => exact ⟨n, y1, Nat.le_refl _, hn, rfl, fun j h1 h2 => absurd h2 (by omega)⟩
  case round =>
    obtain ⟨k, y2, hnk, hk, rfl, HK2⟩ := hrel
    by_cases hlt : k < s.size
    · by_cases h44 : (((s[k]'hlt).toNat : Int) != 44) = true
      · go_wp2
        refine wp_region_sbx hb1 (by kernel_rfl) (by kernel_rfl) ?_
        repeat (go_big_quiet_step (fail))
        refine wpQuiet_nil ?_
        intro y3
        go_wp2
        go_roundw
        case rel =>
          refine ⟨k + 1, y3, by omega, by omega, rfl, fun j h1 h2 => ?_⟩
          rcases Nat.lt_succ_iff_lt_or_eq.1 h2 with h | rfl
          · exact HK2.out j h1 h
          · rw [← bt_of hlt]; simpa using h44
        case measure =>
          rw [rdN_ir (Nat.lt_of_lt_of_le hb1 (size_xt _ _)), rdN_ir (Nat.lt_of_lt_of_le hb1 (size_xt _ _))]
          omega
      · have hE : numE s n = k := numE_of hnk hk HK2.out (fun _ => by rw [← bt_of hlt]; simpa using h44)
        go_wp2
        refine wp_region_sbx hb1 (by kernel_rfl) (by kernel_rfl) ?_
        repeat (go_big_quiet_step (fail))
        refine wpQuiet_nil ?_
        intro y3
        go_wp2
        have hsq : (s.extract n k).size ≤ 1000000 := by rw [ext_size hk]; omega
        have HA1 := Lib.hid (fun v W h => atoi_ok (s.extract n k) v W (by omega) h)
        have HA2 := Lib.hid (fun W hG h => atoi_err (s.extract n k) W (by omega) hG h)
        clear hsq
        rcases hq : Lib.atoiAll (s.extract n k).data.toList with v | _ | _
        ·
          have hbd := Lib.atoiAll_bounds hq
          have HI := Lib.hid (fun W hG => itoa_ret v W hbd.1 hbd.2 hG)
          have HA := Lib.hid (fun W => HA1.out v W hq)
          clear hbd HA1 HA2
          have hiv : ival s n = if (itoaS v).toList == (s.extract n k).toList then some (⟨1, v, ⟨#[]⟩⟩, k) else none := by
            unfold ival
            rw [if_neg H34.out, hE, hq]
          clear hE hq
          by_cases he : ((itoaS v).toList == (s.extract n k).toList) = true
          · rw [if_pos he] at hiv
            rw [hiv] at HR
            clear hiv
            refine wp_region_tail (F := fun _ => True) 10 (fun _ _ => trivial) hb1 trivial (by kernel_rfl) (by kernel_rfl) _ rfl ?_
            intro y4 _
            simp only [List.take_succ_cons, List.take_zero, List.drop_succ_cons, List.drop_zero]
            repeat (go_big_quiet_step (fail))
            refine wpQuiet_nil ?_
            go_wp2_with (go_at_call 155; refine Calls_retS (F := fun _ => True) (fun _ _ => trivial) hb1 trivial (HA.out _) ?_; intro y5 _)
            repeat (go_big_quiet_step (fail))
            refine wpQuiet_nil ?_
            go_wp2
            refine wp_region_sbx hb1 (by kernel_rfl) (by kernel_rfl) ?_
            repeat (go_big_quiet_step (with_reducible exact Calls_inS hb1 (HI.out _ (HG.out _ _))))
            refine wpQuiet_nil ?_
            intro y6
            go_wp2
            rw [store3 (HW.out _ _)]
            have hsz := (Array.getElem?_eq_some_iff.1 (HW.out y6 (irO s k))).1
            refine bodyPost_ret (v := vv 1 v ⟨#[]⟩) (by simp [results, Tryz.results183, go_sem, hsz, rl]) rfl ?_
            exact HR.out _ _ (Fin.retB ((Fin.base HK.out hb).setB (Nat.le_refl _) hb _) rfl)
          · have he' : ((itoaS v).toList == (s.extract n k).toList) = false := by simpa using he
            rw [if_neg he] at hiv
            rw [hiv] at HR
            clear hiv he
            refine wp_region_tail (F := fun _ => True) 10 (fun _ _ => trivial) hb1 trivial (by kernel_rfl) (by kernel_rfl) _ rfl ?_
            intro y4 _
            simp only [List.take_succ_cons, List.take_zero, List.drop_succ_cons, List.drop_zero]
            repeat (go_big_quiet_step (fail))
            refine wpQuiet_nil ?_
            go_wp2_with (go_at_call 155; refine Calls_retS (F := fun _ => True) (fun _ _ => trivial) hb1 trivial (HA.out _) ?_; intro y5 _)
            repeat (go_big_quiet_step (fail))
            refine wpQuiet_nil ?_
            go_wp2
            refine wp_region_sbx hb1 (by kernel_rfl) (by kernel_rfl) ?_
            repeat (go_big_quiet_step (with_reducible exact Calls_inS hb1 (HI.out _ (HG.out _ _))))
            refine wpQuiet_nil ?_
            intro y6
            go_wp2
            exact ⟨rfl, HR.out _ _ ⟨rfl, (Kb.of_kp HK.out).trans (((Kb.refl b W1).more _).setB _)⟩⟩
        ·
          have hiv : ival s n = none := by
            unfold ival
            rw [if_neg H34.out, hE, hq]
          have HA := Lib.hid (fun W hG => HA2.out W hG (fun v h => by rw [hq] at h; cases h))
          rw [hiv] at HR
          clear hiv HA1 HA2 hE hq
          refine wp_region_tail (F := fun _ => True) 10 (fun _ _ => trivial) hb1 trivial (by kernel_rfl) (by kernel_rfl) _ rfl ?_
          intro y4 _
          simp only [List.take_succ_cons, List.take_zero, List.drop_succ_cons, List.drop_zero]
          repeat (go_big_quiet_step (fail))
          refine wpQuiet_nil ?_
          go_wp2_with (go_at_call 155; refine (HA.out _ (HG.out _ _)).mono ?_; rintro e w' ⟨x, N, rfl, hk5⟩; obtain ⟨y5, rfl, _⟩ := sb_kp (F := fun _ => True) (fun _ _ => trivial) hb1 trivial hk5; clear hk5; unfold errN)
          repeat (go_big_quiet_step (fail))
          refine wpQuiet_nil ?_
          go_wp2
          refine wp_region_sbx hb1 (by kernel_rfl) (by kernel_rfl) ?_
          repeat (go_big_quiet_step (fail))
          refine wpQuiet_nil ?_
          intro y6
          go_wp2
          exact ⟨rfl, HR.out _ _ ⟨rfl, (Kb.of_kp HK.out).trans (((Kb.refl b W1).more _).setB _)⟩⟩
        ·
          have hiv : ival s n = none := by
            unfold ival
            rw [if_neg H34.out, hE, hq]
          have HA := Lib.hid (fun W hG => HA2.out W hG (fun v h => by rw [hq] at h; cases h))
          rw [hiv] at HR
          clear hiv HA1 HA2 hE hq
          refine wp_region_tail (F := fun _ => True) 10 (fun _ _ => trivial) hb1 trivial (by kernel_rfl) (by kernel_rfl) _ rfl ?_
          intro y4 _
          simp only [List.take_succ_cons, List.take_zero, List.drop_succ_cons, List.drop_zero]
          repeat (go_big_quiet_step (fail))
          refine wpQuiet_nil ?_
          go_wp2_with (go_at_call 155; refine (HA.out _ (HG.out _ _)).mono ?_; rintro e w' ⟨x, N, rfl, hk5⟩; obtain ⟨y5, rfl, _⟩ := sb_kp (F := fun _ => True) (fun _ _ => trivial) hb1 trivial hk5; clear hk5; unfold errN)
          repeat (go_big_quiet_step (fail))
          refine wpQuiet_nil ?_
          go_wp2
          refine wp_region_sbx hb1 (by kernel_rfl) (by kernel_rfl) ?_
          repeat (go_big_quiet_step (fail))
          refine wpQuiet_nil ?_
          intro y6
          go_wp2
          exact ⟨rfl, HR.out _ _ ⟨rfl, (Kb.of_kp HK.out).trans (((Kb.refl b W1).more _).setB _)⟩⟩
    · have hE : numE s n = k := numE_of hnk hk HK2.out (fun h => absurd h hlt)
      go_wp2
      refine wp_region_sbx hb1 (by kernel_rfl) (by kernel_rfl) ?_
      repeat (go_big_quiet_step (fail))
      refine wpQuiet_nil ?_
      intro y3
      go_wp2
      have hsq : (s.extract n k).size ≤ 1000000 := by rw [ext_size hk]; omega
      have HA1 := Lib.hid (fun v W h => atoi_ok (s.extract n k) v W (by omega) h)
      have HA2 := Lib.hid (fun W hG h => atoi_err (s.extract n k) W (by omega) hG h)
      clear hsq
      rcases hq : Lib.atoiAll (s.extract n k).data.toList with v | _ | _
      ·
        have hbd := Lib.atoiAll_bounds hq
        have HI := Lib.hid (fun W hG => itoa_ret v W hbd.1 hbd.2 hG)
        have HA := Lib.hid (fun W => HA1.out v W hq)
        clear hbd HA1 HA2
        have hiv : ival s n = if (itoaS v).toList == (s.extract n k).toList then some (⟨1, v, ⟨#[]⟩⟩, k) else none := by
          unfold ival
          rw [if_neg H34.out, hE, hq]
        clear hE hq
        by_cases he : ((itoaS v).toList == (s.extract n k).toList) = true
        · rw [if_pos he] at hiv
          rw [hiv] at HR
          clear hiv
          refine wp_region_tail (F := fun _ => True) 10 (fun _ _ => trivial) hb1 trivial (by kernel_rfl) (by kernel_rfl) _ rfl ?_
          intro y4 _
          simp only [List.take_succ_cons, List.take_zero, List.drop_succ_cons, List.drop_zero]
          repeat (go_big_quiet_step (fail))
          refine wpQuiet_nil ?_
          go_wp2_with (go_at_call 155; refine Calls_retS (F := fun _ => True) (fun _ _ => trivial) hb1 trivial (HA.out _) ?_; intro y5 _)
          repeat (go_big_quiet_step (fail))
          refine wpQuiet_nil ?_
          go_wp2
          refine wp_region_sbx hb1 (by kernel_rfl) (by kernel_rfl) ?_
          repeat (go_big_quiet_step (with_reducible exact Calls_inS hb1 (HI.out _ (HG.out _ _))))
          refine wpQuiet_nil ?_
          intro y6
          go_wp2
          rw [store3 (HW.out _ _)]
          have hsz := (Array.getElem?_eq_some_iff.1 (HW.out y6 (irO s k))).1
          refine bodyPost_ret (v := vv 1 v ⟨#[]⟩) (by simp [results, Tryz.results183, go_sem, hsz, rl]) rfl ?_
          exact HR.out _ _ (Fin.retB ((Fin.base HK.out hb).setB (Nat.le_refl _) hb _) rfl)
        · have he' : ((itoaS v).toList == (s.extract n k).toList) = false := by simpa using he
          rw [if_neg he] at hiv
          rw [hiv] at HR
          clear hiv he
          refine wp_region_tail (F := fun _ => True) 10 (fun _ _ => trivial) hb1 trivial (by kernel_rfl) (by kernel_rfl) _ rfl ?_
          intro y4 _
          simp only [List.take_succ_cons, List.take_zero, List.drop_succ_cons, List.drop_zero]
          repeat (go_big_quiet_step (fail))
          refine wpQuiet_nil ?_
          go_wp2_with (go_at_call 155; refine Calls_retS (F := fun _ => True) (fun _ _ => trivial) hb1 trivial (HA.out _) ?_; intro y5 _)
          repeat (go_big_quiet_step (fail))
          refine wpQuiet_nil ?_
          go_wp2
          refine wp_region_sbx hb1 (by kernel_rfl) (by kernel_rfl) ?_
          repeat (go_big_quiet_step (with_reducible exact Calls_inS hb1 (HI.out _ (HG.out _ _))))
          refine wpQuiet_nil ?_
          intro y6
          go_wp2
          exact ⟨rfl, HR.out _ _ ⟨rfl, (Kb.of_kp HK.out).trans (((Kb.refl b W1).more _).setB _)⟩⟩
      ·
        have hiv : ival s n = none := by
          unfold ival
          rw [if_neg H34.out, hE, hq]
        have HA := Lib.hid (fun W hG => HA2.out W hG (fun v h => by rw [hq] at h; cases h))
        rw [hiv] at HR
        clear hiv HA1 HA2 hE hq
        refine wp_region_tail (F := fun _ => True) 10 (fun _ _ => trivial) hb1 trivial (by kernel_rfl) (by kernel_rfl) _ rfl ?_
        intro y4 _
        simp only [List.take_succ_cons, List.take_zero, List.drop_succ_cons, List.drop_zero]
        repeat (go_big_quiet_step (fail))
        refine wpQuiet_nil ?_
        go_wp2_with (go_at_call 155; refine (HA.out _ (HG.out _ _)).mono ?_; rintro e w' ⟨x, N, rfl, hk5⟩; obtain ⟨y5, rfl, _⟩ := sb_kp (F := fun _ => True) (fun _ _ => trivial) hb1 trivial hk5; clear hk5; unfold errN)
        repeat (go_big_quiet_step (fail))
        refine wpQuiet_nil ?_
        go_wp2
        refine wp_region_sbx hb1 (by kernel_rfl) (by kernel_rfl) ?_
        repeat (go_big_quiet_step (fail))
        refine wpQuiet_nil ?_
        intro y6
        go_wp2
        exact ⟨rfl, HR.out _ _ ⟨rfl, (Kb.of_kp HK.out).trans (((Kb.refl b W1).more _).setB _)⟩⟩
      ·
        have hiv : ival s n = none := by
          unfold ival
          rw [if_neg H34.out, hE, hq]
        have HA := Lib.hid (fun W hG => HA2.out W hG (fun v h => by rw [hq] at h; cases h))
        rw [hiv] at HR
        clear hiv HA1 HA2 hE hq
        refine wp_region_tail (F := fun _ => True) 10 (fun _ _ => trivial) hb1 trivial (by kernel_rfl) (by kernel_rfl) _ rfl ?_
        intro y4 _
        simp only [List.take_succ_cons, List.take_zero, List.drop_succ_cons, List.drop_zero]
        repeat (go_big_quiet_step (fail))
        refine wpQuiet_nil ?_
        go_wp2_with (go_at_call 155; refine (HA.out _ (HG.out _ _)).mono ?_; rintro e w' ⟨x, N, rfl, hk5⟩; obtain ⟨y5, rfl, _⟩ := sb_kp (F := fun _ => True) (fun _ _ => trivial) hb1 trivial hk5; clear hk5; unfold errN)
        repeat (go_big_quiet_step (fail))
        refine wpQuiet_nil ?_
        go_wp2
        refine wp_region_sbx hb1 (by kernel_rfl) (by kernel_rfl) ?_
        repeat (go_big_quiet_step (fail))
        refine wpQuiet_nil ?_
        intro y6
        go_wp2
        exact ⟨rfl, HR.out _ _ ⟨rfl, (Kb.of_kp HK.out).trans (((Kb.refl b W1).more _).setB _)⟩⟩
/-- item's reader: one value. -/
theorem value_ret (b : Nat) (s : ByteArray) (n : Nat) (w : World) (h : w.heap[b]? = some (irO s n)) (hn : n ≤ s.size) (hs : s.size ≤ 1000000) (hg : Glob w) (hb8 : 8 ≤ b) {x : Vl} {m : Nat} (hv : ival s n = some (x, m)) :
    Calls Tryz.prog 183 #[.pointer (some ⟨b, 0, none⟩)] w (RetB w b (irO s m) x.v) := by
  by_cases h34 : bt s n = 34
  · unfold ival at hv
    rw [if_pos h34] at hv
    cases hr : rtx (sfx s (n + 1)) with
    | none => rw [hr] at hv; cases hv
    | some r =>
      rw [hr] at hv
      cases hv
      exact value_text b s n w h hs hg hb8 h34 hr
  · exact value_num b s n w h hn hs hg hb8 h34 _ (Lib.hid fun e w' h => by rw [hv] at h; exact h)
theorem value_pan (b : Nat) (s : ByteArray) (n : Nat) (w : World) (h : w.heap[b]? = some (irO s n)) (hn : n ≤ s.size) (hs : s.size ≤ 1000000) (hg : Glob w) (hb8 : 8 ≤ b) (hv : ival s n = none) :
    Calls Tryz.prog 183 #[.pointer (some ⟨b, 0, none⟩)] w (PanB w b wrongI) := by
  by_cases h34 : bt s n = 34
  · unfold ival at hv
    rw [if_pos h34] at hv
    cases hr : rtx (sfx s (n + 1)) with
    | some r => rw [hr] at hv; cases hv
    | none => exact value_tpan b s n w h hs hg hb8 h34 hr
  · exact value_num b s n w h hn hs hg hb8 h34 _ (Lib.hid fun e w' h => by rw [hv] at h; exact h)
end Go.Proofs.YtpmheafccfnfjaaGreatDoor
namespace Go.Proofs.YtpmheafccfnfjaaGreatDoor
open Go Go.RowKit
theorem rtx_eq (c : UInt8) (t : Bs) : rtx (c :: t) = if c = 34 then some ([], t) else if c = 92 then
      (match t with
        | [] => none
        | d :: t1 => if d = 120 then (match t1 with
            | a :: b :: t2 => if hexN a || hexN b then none else (rtx t2).map (fun r => (hexV a b :: r.1, r.2))
            | _ => none)
          else (rtx t1).map (fun r => (d :: r.1, r.2)))
    else (rtx t).map (fun r => (c :: r.1, r.2)) := by
  rw [rtx.eq_def]; rfl
theorem rtx_len (n : Nat) : ∀ {l : Bs}, l.length ≤ n → ∀ {t rest : Bs}, rtx l = some (t, rest) → rest.length < l.length ∧ t.length < l.length := by
  induction n with
  | zero =>
    intro l hl t rest h
    have : l = [] := List.eq_nil_of_length_eq_zero (by omega)
    subst this
    cases h
  | succ n ih =>
    intro l hl t rest h
    cases l with
    | nil => cases h
    | cons c u =>
      have key : ∀ (v : Bs) (d : UInt8), v.length ≤ n → v.length ≤ u.length → (rtx v).map (fun r => (d :: r.1, r.2)) = some (t, rest) → rest.length < (c :: u).length ∧ t.length < (c :: u).length := by
        intro v d hv hvu hm
        cases hr : rtx v with
        | none => rw [hr] at hm; cases hm
        | some r =>
          rw [hr] at hm
          cases hm
          have := ih hv hr
          simp only [List.length_cons]
          omega
      simp only [List.length_cons] at hl
      rw [rtx_eq] at h
      split at h
      · cases h
        simp
      · split at h
        · split at h
          · cases h
          · rename_i d t1
            simp only [List.length_cons] at hl
            split at h
            · split at h
              · rename_i a b t2
                simp only [List.length_cons] at hl
                split at h
                · cases h
                · exact key t2 _ (by omega) (by simp; omega) h
              · cases h
            · exact key t1 _ (by omega) (by simp) h
        · exact key u _ (by omega) (Nat.le_refl _) h
theorem ival_le {s : ByteArray} {n m : Nat} {x : Vl} (hn : n ≤ s.size) (hv : ival s n = some (x, m)) : n ≤ m ∧ m ≤ s.size := by
  have hl := size_data s
  unfold ival at hv
  split at hv
  · rename_i h34
    have := bt_lt h34
    cases hr : rtx (sfx s (n + 1)) with
    | none => rw [hr] at hv; cases hv
    | some r =>
      rw [hr] at hv
      cases hv
      have := rtx_len _ (Nat.le_refl _) hr
      simp only [List.length_drop] at this
      omega
  · have h1 := (List.takeWhile_sublist (l := sfx s n) (· != 44)).length_le
    simp only [List.length_drop] at h1
    split at hv
    · split at hv
      · cases hv
        unfold numE
        omega
      · cases hv
    · cases hv
theorem hex_rt : ∀ c : _root_.Fin 256, hexN (hexB (UInt8.ofNat c.val / 16)) = false ∧ hexN (hexB (UInt8.ofNat c.val % 16)) = false ∧ hexV (hexB (UInt8.ofNat c.val / 16)) (hexB (UInt8.ofNat c.val % 16)) = UInt8.ofNat c.val := by decide +kernel
theorem rtx_escB (c : UInt8) (r : Bs) : rtx (escB c ++ r) = (rtx r).map (fun q => (c :: q.1, q.2)) := by
  unfold escB
  split
  · rename_i h
    have h120 : c ≠ 120 := by rcases h with rfl | rfl <;> decide
    simp only [List.cons_append, List.nil_append]
    rw [rtx_eq, if_neg (by decide), if_pos rfl]
    simp [h120]
  · rename_i h
    split
    · have := hex_rt ⟨c.toNat, UInt8.toNat_lt c⟩
      simp only [UInt8.ofNat_toNat] at this
      simp only [List.cons_append, List.nil_append]
      rw [rtx_eq, if_neg (by decide), if_pos rfl]
      simp only [if_true]
      rw [this.1, this.2.1, this.2.2]
      rfl
    · simp only [List.cons_append, List.nil_append]
      rw [rtx_eq, if_neg (fun e => h (.inl e)), if_neg (fun e => h (.inr e))]
theorem rtx_escL (t r : Bs) : rtx (escL t ++ 34 :: r) = some (t, r) := by
  induction t with
  | nil => simp [escL, rtx_eq]
  | cons c u ih =>
    have e : escL (c :: u) = escB c ++ escL u := by simp [escL]
    rw [e, List.append_assoc, rtx_escB, ih]
    rfl
end Go.Proofs.YtpmheafccfnfjaaGreatDoor
namespace Go.Proofs.YtpmheafccfnfjaaGreatDoor
open Go Go.RowKit
@[go_sem] theorem assertI_wrong (w : World) : (Instr.typeAssert wrongI 20 199 true).run Tryz.prog w = .ok (.tuple #[.agg #[], .bool true]) w := by kernel_rfl
@[go_sem] theorem assertI_nil (w : World) : (Instr.typeAssert .nilIface 20 199 true).run Tryz.prog w = .ok (.tuple #[.agg #[], .bool false]) w := by kernel_rfl
set_option maxHeartbeats 1000000 in
theorem catchI_pan (a c : Nat) (x y : Value) (older : List PanicEntry) (w : World) (hac : c ≠ a) (ha : w.heap[a]? = some (.cells #[x] 32 (0, 0))) (hc : w.heap[c]? = some (.cells #[y] 23 (0, 0))) :
    CallsD Tryz.prog 182 #[.pointer (some ⟨a, 0, none⟩), .pointer (some ⟨c, 0, none⟩)] (.panicking ({ v := wrongI, recovered := false } :: older)) w fun e u' w' =>
      e = .returned (.tuple #[]) ∧ u' = .panicking ({ v := wrongI, recovered := true } :: older) ∧ ∃ o, w' = ((w.setCell ⟨a, 0, none⟩ (.slice none 0 0)).setCell ⟨c, 0, none⟩ (.int .i64 2)).alloc o := by
  have hal : a < w.heap.size := (Array.getElem?_eq_some_iff.1 ha).1
  have hcl : c < w.heap.size := (Array.getElem?_eq_some_iff.1 hc).1
  have c0 : w.cell? ⟨a, 0, none⟩ = some x := by rw [Lib.cell_of_heap ha]; rfl
  have f0 := Lib.frozen_of_heap ha 0
  have c1 : w.cell? ⟨c, 0, none⟩ = some y := by rw [Lib.cell_of_heap hc]; rfl
  have f1 := Lib.frozen_of_heap hc 0
  have c2 : ∀ v, (w.setCell ⟨a, 0, none⟩ v).cell? ⟨c, 0, none⟩ = some y := fun v => by
    rw [World.cell?_of_block (w := w) (a := ⟨c, 0, none⟩) (Below.heap_setCell _ _ _ _ hac)]
    exact c1
  have f2 : ∀ v, (w.setCell ⟨a, 0, none⟩ v).frozen? ⟨c, 0, none⟩ = false := fun v => by rw [World.frozen?_setCell]; exact f1
  refine callsD_of_wpS Tryz.func182 rfl fun c₀ cs hu => ?_
  apply wpS_seq
  apply wpS_region
  simp [wpOpsS, go_sem, recoverD, hu, Tryz.ntmps182, Exit.thenS]
  apply wpS_seq
  apply wpS_region
  simp [wpOpsS, go_sem, Array.replicate, Exit.thenS]
  refine wpS_cond (t := true) (by simp [Act.eval, Array.replicate]) ?_
  simp only [if_true]
  apply wpS_region
  simp [wpOpsS, go_sem, c0, f0, c1, f1, c2, f2, hal, hcl, bodyPostS, results, Tryz.results182]
  exact ⟨_, rfl⟩
theorem catchI_idle (a c : Nat) (w : World) :
    CallsD Tryz.prog 182 #[.pointer (some ⟨a, 0, none⟩), .pointer (some ⟨c, 0, none⟩)] .returning w fun e u' w' =>
      e = .returned (.tuple #[]) ∧ u' = .returning ∧ ∃ o, w' = w.alloc o := by
  refine callsD_of_wpS Tryz.func182 rfl fun c₀ cs hu => ?_
  apply wpS_seq
  apply wpS_region
  simp [wpOpsS, go_sem, recoverD, hu, Tryz.ntmps182, Exit.thenS]
  apply wpS_seq
  apply wpS_region
  simp [wpOpsS, go_sem, Array.replicate, Exit.thenS]
  refine wpS_cond (t := false) (by simp [Act.eval, Array.replicate]) ?_
  simp only [Bool.false_eq_true, if_false]
  refine wpS_of_wp (wp_skip ?_)
  cases c₀
  simp_all [bodyPostS, results, Tryz.results182]
  exact ⟨_, rfl⟩
end Go.Proofs.YtpmheafccfnfjaaGreatDoor
namespace Go.Proofs.YtpmheafccfnfjaaGreatDoor
open Go Go.RowKit
def rowsF : Nat → ByteArray → Nat → Option (List Vl)
  | 0, _, _ => none
  | f + 1, s, n => match ival s n with
    | none => none
    | some (x, m) => if m = s.size then some [x] else if bt s m = 44 then (rowsF f s (m + 1)).map (x :: ·) else none
/-- item.Parse: what it reads. -/
def rowsI (s : ByteArray) : Option (List Vl) := if s.size = 0 then some [] else rowsF (s.size + 1) s 0
def parseI (s : ByteArray) : Option (List Vl) := match rowsI s with
  | none => none
  | some l => if rowOK l && (textR l).toList == s.toList then some l else none
def vcells (l : List Vl) : List Value := l.flatMap fun x => [.int .i64 x.k, .int .i64 x.n, .string x.s]
theorem vInfo : (Tryz.prog.info? 53).map (fun i => (i.zero, i.size, i.bytes)) = some (some (.agg #[.int .i64 0, .int .i64 0, .string ⟨#[]⟩]), 3, 32) := by kernel_rfl
/-- Parse under way: the result so far, the error, the reader. -/
structure PS (w W : World) (s : ByteArray) (v : Value) (l : List Vl) (n : Nat) : Prop where
  kp : Kp w W
  h2 : W.heap[w.heap.size]? = some (.cells #[v] 32 (0, 0))
  h3 : W.heap[w.heap.size + 1]? = some (.cells #[.int .i64 0] 23 (0, 0))
  h4 : W.heap[w.heap.size + 1 + 1]? = some (irO s n)
  own : W.ownsRow (w.heap.size + 1 + 1 + 1) 53 3 v l.length (vcells l)
section
variable {w W : World} {s : ByteArray} {v : Value} {l : List Vl} {n : Nat}
theorem PS.c2 (h : PS w W s v l n) : W.cell? ⟨w.heap.size, 0, none⟩ = some v := by rw [Lib.cell_of_heap h.h2]; rfl
theorem PS.f2 (h : PS w W s v l n) : W.frozen? ⟨w.heap.size, 0, none⟩ = false := Lib.frozen_of_heap h.h2 0
theorem PS.c3 (h : PS w W s v l n) : W.cell? ⟨w.heap.size + 1, 0, none⟩ = some (.int .i64 0) := by rw [Lib.cell_of_heap h.h3]; rfl
theorem PS.f3 (h : PS w W s v l n) : W.frozen? ⟨w.heap.size + 1, 0, none⟩ = false := Lib.frozen_of_heap h.h3 0
theorem PS.c4 (h : PS w W s v l n) : W.cell? ⟨w.heap.size + 1 + 1, 1, none⟩ = some (.int .i64 n) := by rw [Lib.cell_of_heap h.h4]; rfl
theorem PS.f4 (h : PS w W s v l n) : W.frozen? ⟨w.heap.size + 1 + 1, 1, none⟩ = false := Lib.frozen_of_heap h.h4 1
theorem PS.lt (h : PS w W s v l n) : w.heap.size + 1 + 1 < W.heap.size := (Array.getElem?_eq_some_iff.1 h.h4).1
theorem PS.drew (h : PS w W s v l n) : PS w W.drew s v l n := ⟨h.kp.drew, h.h2, h.h3, h.h4, owns_kp h.own (Kp.refl W).drew⟩
theorem PS.more (h : PS w W s v l n) {X : World} (k : Kp W X) : PS w X s v l n :=
  ⟨h.kp.trans k, (k.block _ (by have := h.lt; omega)).trans h.h2, (k.block _ (by have := h.lt; omega)).trans h.h3, (k.block _ h.lt).trans h.h4, owns_kp h.own k⟩
/-- After a call that turned the reader alone. -/
theorem PS.turn (h : PS w W s v l n) {X : World} {m : Nat} (k : Kb (w.heap.size + 1 + 1) W X) (ho : X.heap[w.heap.size + 1 + 1]? = some (irO s m)) : PS w X s v l m := by
  have hlt := h.lt
  refine ⟨⟨Nat.le_trans h.kp.size k.size, k.os.trans h.kp.os, k.tape.trans h.kp.tape, k.output.trans h.kp.output, fun i hi => (k.block i (by omega) (by omega)).trans (h.kp.block i hi)⟩,
    (k.block _ (by omega) (by omega)).trans h.h2, (k.block _ (by omega) (by omega)).trans h.h3, ho, h.own.kept (row := some (w.heap.size + 1 + 1)) ⟨k.os, k.tape, k.output, k.size, fun i hi hne => k.block i hi (fun e => hne (by rw [e]))⟩ ?_⟩
  right
  intro e
  have := (h.own.lt _ e).1
  omega
end
theorem ps_start (w : World) (s : ByteArray) : PS w (((w.alloc (.cells #[.slice none 0 0] 32)).alloc (.cells #[.int .i64 0] 23)).alloc (.cells #[.string s, .int .i64 0] 203)) s (.slice none 0 0) [] 0 := by
  refine ⟨(((Kp.refl w).alloc _).alloc _).alloc _, ?_, ?_, ?_, World.ownsRow_nil _ _ _ _⟩
  · rw [Lib.alloc_old _ _ _ (by simp; omega), Lib.alloc_old _ _ _ (by simp)]
    exact World.alloc_heap_new _ _
  · rw [Lib.alloc_old _ _ _ (by simp)]
    have := World.alloc_heap_new (w.alloc (.cells #[.slice none 0 0] 32)) (.cells #[.int .i64 0] 23)
    simpa using this
  · have := World.alloc_heap_new ((w.alloc (.cells #[.slice none 0 0] 32)).alloc (.cells #[.int .i64 0] 23)) (.cells #[.string s, .int .i64 0] 203)
    simpa using this
/-- What item.Parse hands back. -/
structure PrR (w : World) (s : ByteArray) (R : Ending → World → Prop) : Prop where
  ok : ∀ l v w', parseI s = some l → Kp w w' → RowIs w' v l → R (.returned (.tuple #[v, .int .i64 0])) w'
  bad : ∀ w', parseI s = none → Kp w w' → R (.returned (.tuple #[.slice none 0 0, .int .i64 2])) w'
section
variable {w W : World} {tmps : Array Value} {x y : Value} {R : Ending → World → Prop}
abbrev defI (w : World) : List Deferred := [{ target := Target.fn (Fn.func 182) #[Value.pointer (some ⟨w.heap.size, 0, none⟩), Value.pointer (some ⟨w.heap.size + 1, 0, none⟩)], args := #[] }]
theorem door_bad (hk : Kp w W) (h2 : W.heap[w.heap.size]? = some (.cells #[x] 32 (0, 0))) (h3 : W.heap[w.heap.size + 1]? = some (.cells #[y] 23 (0, 0)))
    (t2 : tmps[2]? = some (.pointer (some ⟨w.heap.size, 0, none⟩))) (t3 : tmps[3]? = some (.pointer (some ⟨w.heap.size + 1, 0, none⟩)))
    (hR : ∀ w', Kp w w' → R (.returned (.tuple #[.slice none 0 0, .int .i64 2])) w') : Leaves Tryz.prog Tryz.f157 tmps R (defI w) (.panicking [{ v := wrongI, recovered := false }]) W := by
  have hl : w.heap.size + 1 < W.heap.size := (Array.getElem?_eq_some_iff.1 h3).1
  refine leaves_cons (f := 182) (args := #[.pointer (some ⟨w.heap.size, 0, none⟩), .pointer (some ⟨w.heap.size + 1, 0, none⟩)]) (by simp) (by simp [go_sem]) ?_
  refine (catchI_pan _ _ _ _ [] W (by omega) h2 h3).mono ?_
  rintro e u' w'' ⟨rfl, rfl, o, rfl⟩
  have hX : ∃ Y, Y = ((W.setCell ⟨w.heap.size, 0, none⟩ (.slice none 0 0)).setCell ⟨w.heap.size + 1, 0, none⟩ (.int .i64 2)).alloc o ∧ Y.cell? ⟨w.heap.size, 0, none⟩ = some (.slice none 0 0) ∧ Y.cell? ⟨w.heap.size + 1, 0, none⟩ = some (.int .i64 2) := by
    have e2 := heap_set_same (i := 0) (v := .slice none 0 0) h2
    have e3 : (W.setCell ⟨w.heap.size, 0, none⟩ (.slice none 0 0)).heap[w.heap.size + 1]? = some (.cells #[y] 23 (0, 0)) := by rw [Below.heap_setCell _ _ _ _ (by simp)]; exact h3
    have e4 := heap_set_same (i := 0) (v := .int .i64 2) e3
    have e5 : ((W.setCell ⟨w.heap.size, 0, none⟩ (.slice none 0 0)).setCell ⟨w.heap.size + 1, 0, none⟩ (.int .i64 2)).heap[w.heap.size]? = some (.cells #[.slice none 0 0] 32 (0, 0)) := by
      rw [Below.heap_setCell _ _ _ _ (by simp), e2]
      rfl
    refine ⟨_, rfl, ?_, ?_⟩
    · rw [Lib.cell_of_heap ((Lib.alloc_old _ _ _ (by simp; omega)).trans e5)]; rfl
    · rw [Lib.cell_of_heap ((Lib.alloc_old _ _ _ (by simp; omega)).trans e4)]; rfl
  obtain ⟨Y, hY, g2, g3⟩ := hX
  rw [← hY]
  have hkY : Kp w Y := by rw [hY]; exact ((hk.setCell (Nat.le_refl _) _).setCell (by simp) _).alloc _
  have := hR Y hkY
  simp [Leaves, settle, results, Tryz.results157, go_sem, t2, t3, g2, g3]
  exact this
theorem door_ok (hk : Kp w W) (h2 : W.heap[w.heap.size]? = some (.cells #[x] 32 (0, 0))) (h3 : W.heap[w.heap.size + 1]? = some (.cells #[y] 23 (0, 0)))
    (t2 : tmps[2]? = some (.pointer (some ⟨w.heap.size, 0, none⟩))) (t3 : tmps[3]? = some (.pointer (some ⟨w.heap.size + 1, 0, none⟩)))
    (hR : ∀ w', Kp W w' → R (.returned (.tuple #[x, y])) w') : Leaves Tryz.prog Tryz.f157 tmps R (defI w) .returning W := by
  have hl : w.heap.size + 1 < W.heap.size := (Array.getElem?_eq_some_iff.1 h3).1
  refine leaves_cons (f := 182) (args := #[.pointer (some ⟨w.heap.size, 0, none⟩), .pointer (some ⟨w.heap.size + 1, 0, none⟩)]) (by simp) (by simp [go_sem]) ?_
  refine (catchI_idle _ _ W).mono ?_
  rintro e u' w'' ⟨rfl, rfl, o, rfl⟩
  have g2 : (W.alloc o).cell? ⟨w.heap.size, 0, none⟩ = some x := by rw [Lib.cell_of_heap ((Lib.alloc_old _ _ _ (by omega)).trans h2)]; rfl
  have g3 : (W.alloc o).cell? ⟨w.heap.size + 1, 0, none⟩ = some y := by rw [Lib.cell_of_heap ((Lib.alloc_old _ _ _ (by omega)).trans h3)]; rfl
  have := hR _ ((Kp.refl W).alloc o)
  generalize W.alloc o = Y at *
  simp [Leaves, settle, results, Tryz.results157, go_sem, t2, t3, g2, g3]
  exact this
end
theorem rowsF_fuel : ∀ (f1 f2 : Nat) (s : ByteArray) (n : Nat), n ≤ s.size → s.size + 1 - n ≤ f1 → s.size + 1 - n ≤ f2 → rowsF f1 s n = rowsF f2 s n
  | 0, _, s, n, hn, h1, _ => by omega
  | _ + 1, 0, s, n, hn, _, h2 => by omega
  | f1 + 1, f2 + 1, s, n, hn, h1, h2 => by
    unfold rowsF
    cases hv : ival s n with
    | none => rfl
    | some r =>
      obtain ⟨x, m⟩ := r
      have hml := ival_le hn hv
      simp only
      split
      · rfl
      · rename_i hm
        split
        · rw [rowsF_fuel f1 f2 s (m + 1) (by omega) (by omega) (by omega)]
        · rfl
theorem PS.broken {w W X : World} {s : ByteArray} {v : Value} {l : List Vl} {n : Nat} (h : PS w W s v l n) (k : Kb (w.heap.size + 1 + 1) W X) : Kp w X ∧ X.heap[w.heap.size]? = some (.cells #[v] 32 (0, 0)) ∧ X.heap[w.heap.size + 1]? = some (.cells #[.int .i64 0] 23 (0, 0)) := by
  have hlt := h.lt
  exact ⟨⟨Nat.le_trans h.kp.size k.size, k.os.trans h.kp.os, k.tape.trans h.kp.tape, k.output.trans h.kp.output, fun i hi => (k.block i (by omega) (by omega)).trans (h.kp.block i hi)⟩,
    (k.block _ (by omega) (by omega)).trans h.h2, (k.block _ (by omega) (by omega)).trans h.h3⟩
/-- The result stored anew, the error too. -/
theorem PS.final {w Y : World} {s : ByteArray} {v : Value} {l : List Vl} {n : Nat} (h : PS w Y s v l n) : PS w ((Y.setCell ⟨w.heap.size, 0, none⟩ v).setCell ⟨w.heap.size + 1, 0, none⟩ (.int .i64 0)) s v l n := by
  have hlt := h.lt
  have own1 : (Y.setCell ⟨w.heap.size, 0, none⟩ v).ownsRow (w.heap.size + 1 + 1 + 1) 53 3 v l.length (vcells l) := by
    refine h.own.kept (row := some w.heap.size) ⟨rfl, rfl, rfl, by simp, fun i _ hne => Below.heap_setCell _ _ _ _ (fun e => hne (by rw [e]))⟩ (.inr fun e => ?_)
    have := (h.own.lt _ e).1
    omega
  refine ⟨(h.kp.setCell (Nat.le_refl _) _).setCell (by simp) _, ?_, ?_, ?_, ?_⟩
  · rw [Below.heap_setCell _ _ _ _ (by simp), heap_set_same h.h2]; rfl
  · have e3 : (Y.setCell ⟨w.heap.size, 0, none⟩ v).heap[w.heap.size + 1]? = some (.cells #[.int .i64 0] 23 (0, 0)) := by rw [Below.heap_setCell _ _ _ _ (by simp)]; exact h.h3
    rw [heap_set_same e3]; rfl
  · rw [Below.heap_setCell _ _ _ _ (by simp), Below.heap_setCell _ _ _ _ (by simp; try omega)]; exact h.h4
  · refine own1.kept (row := some (w.heap.size + 1)) ⟨rfl, rfl, rfl, by simp, fun i _ hne => Below.heap_setCell _ _ _ _ (fun e => hne (by rw [e]))⟩ (.inr fun e => ?_)
    have := (own1.lt _ e).1
    omega
/-- The reader set on. -/
theorem PS.step {w Y : World} {s : ByteArray} {v : Value} {l : List Vl} {n : Nat} (h : PS w Y s v l n) (m : Nat) : PS w (Y.setCell ⟨w.heap.size + 1 + 1, 1, none⟩ (.int .i64 m)) s v l m :=
  h.turn ((Kb.refl (w.heap.size + 1 + 1) Y).setCell (p := ⟨w.heap.size + 1 + 1, 1, none⟩) (.inl rfl) _) (by rw [heap_set_same h.h4]; rfl)
theorem vcells_len (l : List Vl) : (vcells l).length = l.length * 3 := by
  induction l with
  | nil => rfl
  | cons x t ih => simp only [vcells, List.flatMap_cons, List.length_append, List.length_cons, List.length_nil] at ih ⊢; omega
theorem vcells_at : ∀ (l : List Vl) (j : Nat), j < l.length → (vcells l)[j * 3]? = some (.int .i64 (l.getD j vl0).k) ∧ (vcells l)[j * 3 + 1]? = some (.int .i64 (l.getD j vl0).n) ∧ (vcells l)[j * 3 + 2]? = some (.string (l.getD j vl0).s)
  | [], j, h => absurd h (Nat.not_lt_zero _)
  | x :: t, 0, _ => ⟨rfl, rfl, rfl⟩
  | x :: t, j + 1, h => by
    have ih := vcells_at t j (by simpa using h)
    have e : vcells (x :: t) = .int .i64 x.k :: .int .i64 x.n :: .string x.s :: vcells t := rfl
    rw [e, show (j + 1) * 3 = j * 3 + 1 + 1 + 1 by omega, show j * 3 + 1 + 1 + 1 + 1 = (j * 3 + 1) + 1 + 1 + 1 by omega, show j * 3 + 1 + 1 + 1 + 2 = (j * 3 + 2) + 1 + 1 + 1 by omega]
    simp only [List.getElem?_cons_succ, List.getD_cons_succ]
    exact ih
/-- A row of one's own, read. -/
theorem own_row {W : World} {B : Nat} {v : Value} {l : List Vl} (h : W.ownsRow B 53 3 v l.length (vcells l)) (hl : l.length ≤ 1000000) : RowIs W v l := by
  refine ⟨hl, ?_⟩
  rcases h.2 with ⟨rfl, h0⟩ | ⟨g, cap, cur, rfl, _, hg, _, _, _, ht⟩
  · exact ⟨none, 0, by rw [h0], .inl (List.eq_nil_of_length_eq_zero h0)⟩
  · refine ⟨_, cap, rfl, .inr ⟨g, 0, rfl, (Array.getElem?_eq_some_iff.1 hg).1, fun j hj => ?_⟩⟩
    have hv := vcells_at l j hj
    have key : ∀ i u, i < l.length * 3 → (vcells l)[i]? = some u → W.cell? ⟨g, 0 + i, none⟩ = some u := fun i u hi hu => by
      rw [Lib.cell_of_heap hg, Nat.zero_add]
      rw [← ht, List.getElem?_take_of_lt hi] at hu
      simpa using hu
    exact ⟨key _ _ (by omega) hv.1, by rw [Nat.add_assoc]; exact key _ _ (by omega) hv.2.1, by rw [Nat.add_assoc]; exact key _ _ (by omega) hv.2.2⟩
/-- 'out = append(out, x)': the append. -/
theorem app_vl {ops : Array Oper} {rest : List Oper} {o : Oper} {a : Act} {Q : Exit → Act → World → Prop} (hgd : o.guard = none) (so xo : Operand)
    (ho : o.op = .call { callee := .builtin .append, args := #[so, xo], argTypes := #[32, 32] }) {w W : World} {s : ByteArray} {v : Value} {l : List Vl} {n : Nat} (h : PS w W s v l n) (hs : a.eval so = v)
    (x : Vl) (hx : a.eval xo = .slice (some ⟨W.heap.size, 0, none⟩) 1 1) (hl : l.length + 1 ≤ 1000000)
    (k : ∀ g c X, X.cell? ⟨w.heap.size, 0, none⟩ = some v → X.frozen? ⟨w.heap.size, 0, none⟩ = false → Hid (PS w (X.setCell ⟨w.heap.size, 0, none⟩ (.slice (some ⟨g, 0, none⟩) (l.length + 1) c)) s (.slice (some ⟨g, 0, none⟩) (l.length + 1) c) (l ++ [x]) n) →
      wpList Tryz.prog ops Q rest (a.put o.dst (.slice (some ⟨g, 0, none⟩) (l.length + 1) c)) X) :
    wpList Tryz.prog ops Q (o :: rest) a (W.alloc (.cells #[.int .i64 x.k, .int .i64 x.n, .string x.s] 53)) := by
  obtain ⟨i0, hi, hz0, hz1, hz2⟩ := info_parts vInfo
  have hlt := h.lt
  have h' := h.more ((Kp.refl W).alloc (.cells #[.int .i64 x.k, .int .i64 x.n, .string x.s] 53))
  refine wpList_append_own _ hgd so xo 32 ho (w.heap.size + 1 + 1 + 1) 53 i0 (.agg #[.int .i64 0, .int .i64 0, .string ⟨#[]⟩]) 3 32 Tryz.underlying32 hi hz0 hz1 hz2 rfl (by decide) v l.length (vcells l) hs h'.own ⟨W.heap.size, 0, none⟩ 1 1 [.int .i64 x.k, .int .i64 x.n, .string x.s] hx rfl ?c1 ?c2 ?c3 ?c4 ?c5 ?_
  case c1 =>
    intro j u hj
    match j, hj with
    | 0, hj => simp at hj; subst hj; simp [Addr.add]
    | 1, hj => simp at hj; subst hj; simp [Addr.add]
    | 2, hj => simp at hj; subst hj; simp [Addr.add]
  case c2 => intro u hu; simp at hu; rcases hu with rfl | rfl | rfl <;> rfl
  case c3 => unfold maxLen; omega
  case c4 => omega
  case c5 => simp; omega
  intro v' w' hown' hgrow _
  have hr : ∀ k, v.ownBlock = some k → w.heap.size + 1 + 1 + 1 ≤ k := fun k hk => (h'.own.lt k hk).1
  have hsz := hgrow.size
  obtain ⟨g, cap, rfl⟩ : ∃ g cap, v' = .slice (some ⟨g, 0, none⟩) (l.length + 1) cap := by
    rcases hown'.2 with ⟨_, h0⟩ | ⟨g, cap, cur, hv, _⟩
    · omega
    · exact ⟨g, cap, hv⟩
  have keep : ∀ {i : Nat} {ob : Obj}, i ≤ w.heap.size + 1 + 1 → (W.alloc (.cells #[.int .i64 x.k, .int .i64 x.n, .string x.s] 53)).heap[i]? = some ob → w'.heap[i]? = some ob := fun {i ob} hi' hh => by
    rw [hgrow.block i (Array.getElem?_eq_some_iff.1 hh).1 (fun e => by have := hr i e.symm; omega)]
    exact hh
  have e2 := keep (by omega) h'.h2
  have e3 := keep (by omega) h'.h3
  have e4 := keep (by omega) h'.h4
  refine k g cap w' (by rw [Lib.cell_of_heap e2]; rfl) (Lib.frozen_of_heap e2 0) ⟨(kp_grownBy h'.kp hgrow (fun k hk => by have := hr k hk; omega)).setCell (Nat.le_refl _) _, ?_, ?_, ?_, ?_⟩
  · rw [heap_set_same e2]; rfl
  · rw [Below.heap_setCell _ _ _ _ (by simp)]; exact e3
  · rw [Below.heap_setCell _ _ _ _ (by simp; try omega)]; exact e4
  · have ev : vcells (l ++ [x]) = vcells l ++ [.int .i64 x.k, .int .i64 x.n, .string x.s] := by simp [vcells]
    rw [ev, List.length_append]
    refine hown'.kept (row := some w.heap.size) ⟨rfl, rfl, rfl, by simp, fun i hi' hne => Below.heap_setCell _ _ _ _ (fun e => hne (by rw [e]))⟩ (.inr ?_)
    intro e
    have := (hown'.lt _ e).1
    omega
set_option maxHeartbeats 2000000 in
set_option maxRecDepth 100000 in
theorem parse_walk (s : ByteArray) (w : World) (hs : s.size ≤ 20000) (hg : Glob w) (R : Ending → World → Prop) (HR : Hid (PrR w s R)) :
    Calls Tryz.prog 157 #[.string s] w R := by
  have hmf : ∀ (fn : Fn) (first cap : Array Value) (w : World), (Instr.makeFunc fn first cap).run Tryz.prog w = .ok (.func fn first cap) w := fun _ _ _ _ => rfl
  by_cases h0 : s.size = 0
  · have hz : s.toList = [] := by
      rw [toList_data]
      exact List.eq_nil_of_length_eq_zero (by rw [size_data]; omega)
    go_enter_defers Tryz.func157, Tryz.ntmps157
    go_wp2
    go_loopw [] (fun wr => Hid (PS w wr s (.slice none 0 0) [] 0)) (fun _ => 0)
    case atStart => exact ps_start w s
    case round =>
      have HP := hrel
      rename World => Y
      have y2 := HP.out.c2
      have y3 := HP.out.c3
      have yf2 := HP.out.f2
      have yf3 := HP.out.f3
      have yl2 := HP.out.lt
      have yl0 : w.heap.size < Y.heap.size := by omega
      have yl1 : w.heap.size + 1 < Y.heap.size := by omega
      have HRW : Hid (rowsI s = some []) := by
        show _ = _
        rw [rowsI, if_pos h0]
      clear hrel h0
      have HRow := own_row HP.out.own (by simp)
      have HVR := vrow_ret _ _ Y HRow
      rw [show rowOK [] = true from rfl] at HVR
      replace HVR := Lib.hid HVR
      have HTX := fun z => text_ret _ _ (xt Y z) (HRow.kp (kp_xt Y z)) (hg.kp (HP.out.kp.trans (kp_xt Y z)))
      rw [show textR [] = ⟨#[]⟩ from rfl] at HTX
      replace HTX := Lib.hid HTX
      have HB : Hid (parseI s = some []) := by
        show _ = _
        unfold parseI
        rw [HRW.out]
        have e : (textR []).toList = [] := by
          rw [show textR [] = ⟨#[]⟩ from rfl, toList_data]
        simp only [hz, e]
        rfl
      clear HRow HRW
      go_wp2_with (first | (go_at_call 168; refine Calls_ret HVR.out ?_; intro z1) | (go_at_call 133; refine Calls_ret (HTX.out _) ?_; intro z2))
      have HQ := (HP.out.more (kp_xt Y (xx Y z1 z2))).final
      exact door_ok HQ.kp HQ.h2 HQ.h3 rfl rfl (fun w' hk => HR.out.ok _ _ w' HB.out (HQ.kp.trans hk) ((own_row HQ.own (by simp)).kp hk))
  · have hne := str_ne (s := s) (by omega)
    go_enter_defers Tryz.func157, Tryz.ntmps157
    go_wp2
    go_loopw [] (fun wr => ∃ (n : Nat) (v : Value) (l : List Vl), n ≤ s.size ∧ l.length ≤ n ∧ Hid (PS w wr s v l n) ∧ Hid (rowsI s = (rowsF (s.size + 1 - n) s n).map (l ++ ·))) (fun wr => s.size + 1 - rdN wr (w.heap.size + 1 + 1))
    case atStart =>
      refine ⟨0, _, [], by omega, by simp, ps_start w s, ?_⟩
      show _ = _
      rw [rowsI, if_neg h0]
      simp
    case round =>
      obtain ⟨n, v, l, hn, hl, HS, HT⟩ := hrel
      have c2 := HS.out.c2
      have f2 := HS.out.f2
      have wr4 := HS.out.c4
      have hg2 := hg.kp HS.out.drew.kp
      cases hv : ival s n with
      | none =>
        have HV := Lib.hid (value_pan (w.heap.size + 1 + 1) s n wr.drew HS.out.drew.h4 hn (by omega) hg2 (by have := hg.sz; omega) hv)
        have HB : Hid (parseI s = none) := by
          show _ = _
          have e : s.size + 1 - n = (s.size - n) + 1 := by omega
          unfold parseI
          rw [HT.out, e, rowsF, hv]
          rfl
        go_wp2
        refine wp_region_each 6 rfl (by kernel_rfl) ?_
        refine wpAny_two (i := 0) (j := 1) (by kernel_rfl) rfl rfl ?_ ?_
        · go_wp2
          refine wpAny_one (i := 1) (by kernel_rfl) rfl ?_
          go_wp2
          refine wpAny_one (i := 2) (by kernel_rfl) rfl ?_
          go_wp2_with (go_at_call 183; refine Calls_panB HV.out ?_; intro w' hk')
          have hbr := HS.out.drew.broken hk'
          exact door_bad hbr.1 hbr.2.1 hbr.2.2 rfl rfl (fun w' hk => HR.out.bad w' HB.out hk)
        · go_wp2
          refine wpAny_two (i := 0) (j := 2) (by kernel_rfl) rfl rfl ?_ ?_
          · go_wp2
            refine wpAny_one (i := 2) (by kernel_rfl) rfl ?_
            go_wp2_with (go_at_call 183; refine Calls_panB HV.out ?_; intro w' hk')
            have hbr := HS.out.drew.broken hk'
            exact door_bad hbr.1 hbr.2.1 hbr.2.2 rfl rfl (fun w' hk => HR.out.bad w' HB.out hk)
          · go_wp2_with (go_at_call 183; refine Calls_panB HV.out ?_; intro w' hk')
            have hbr := HS.out.drew.broken hk'
            exact door_bad hbr.1 hbr.2.1 hbr.2.2 rfl rfl (fun w' hk => HR.out.bad w' HB.out hk)
      | some r =>
        obtain ⟨x, m⟩ := r
        have hml := ival_le hn hv
        have HV := Lib.hid (value_ret (w.heap.size + 1 + 1) s n wr.drew HS.out.drew.h4 hn (by omega) hg2 (by have := hg.sz; omega) hv)
        go_wp2
        refine wp_region_each 6 rfl (by kernel_rfl) ?_
        refine wpAny_two (i := 0) (j := 1) (by kernel_rfl) rfl rfl ?_ ?_
        · go_wp2
          refine wpAny_one (i := 1) (by kernel_rfl) rfl ?_
          go_wp2
          refine wpAny_one (i := 2) (by kernel_rfl) rfl ?_
          go_wp2_with (go_at_call 183; refine HV.out.mono ?_; rintro e w1 ⟨rfl, hk1, ho1⟩; have HS1 := Lib.hid (HS.out.drew.turn hk1 ho1); have d2 := HS1.out.c2; have d3 := HS1.out.f2; have d4 := HS1.out.lt; have d5 : w.heap.size < w1.heap.size := (by omega); clear hk1 ho1)
          refine wpAny_one (i := 3) (by kernel_rfl) rfl ?_
          go_wp2
          refine wpAny_one (i := 4) (by kernel_rfl) rfl ?_
          go_wp2_with (at_builtin; refine app_vl rfl _ _ rfl HS1.out rfl x rfl (by omega) ?_; intro g c X e2 e3 HP)
          refine wpAny_one (i := 5) (by kernel_rfl) rfl ?_
          go_wp2
          refine wpAny_end (by kernel_rfl) ?_
          generalize X.setCell ⟨w.heap.size, 0, none⟩ (.slice (some ⟨g, 0, none⟩) (l.length + 1) c) = Y at *
          have y2 := HP.out.c2
          have y3 := HP.out.c3
          have y4 := HP.out.c4
          have yf2 := HP.out.f2
          have yf3 := HP.out.f3
          have yf4 := HP.out.f4
          have yl2 := HP.out.lt
          have yl0 : w.heap.size < Y.heap.size := by omega
          have yl1 : w.heap.size + 1 < Y.heap.size := by omega
          clear e2 e3 HV c2 f2 d2 d3 d4 d5 HS1
          by_cases hm : ((m : Int) == (s.size : Int)) = true
          · have HRW : Hid (rowsI s = some (l ++ [x])) := by
              show _ = _
              have e : s.size + 1 - n = (s.size - n) + 1 := by omega
              have hms : m = s.size := by simp at hm; omega
              rw [HT.out, e, rowsF, hv]
              simp [hms]
            clear HT HS hv
            have HRow := own_row HP.out.own (by simp; omega)
            cases hok : rowOK (l ++ [x])
            · have HB : Hid (parseI s = none) := by
                show _ = _
                unfold parseI
                rw [HRW.out]
                simp [hok]
              have HVR := vrow_ret _ _ Y HRow
              rw [hok] at HVR
              replace HVR := Lib.hid HVR
              clear hok HRow HRW
              go_wp2_with (go_at_call 168; refine Calls_ret HVR.out ?_; intro z1)
              have HQ := HP.out.more (kp_xt Y z1)
              exact door_bad HQ.kp HQ.h2 HQ.h3 rfl rfl (fun w' hk => HR.out.bad w' HB.out hk)
            · have HVR := vrow_ret _ _ Y HRow
              rw [hok] at HVR
              replace HVR := Lib.hid HVR
              have HTX := Lib.hid (fun z => text_ret _ _ (xt Y z) (HRow.kp (kp_xt Y z)) (hg.kp (HP.out.kp.trans (kp_xt Y z))))
              by_cases heq : ((textR (l ++ [x])).toList == s.toList) = true
              · have HB : Hid (parseI s = some (l ++ [x])) := by
                  show _ = _
                  unfold parseI
                  rw [HRW.out]
                  simp only [hok, heq, Bool.and_self, if_true]
                clear hok HRow HRW
                generalize textR (l ++ [x]) = T at *
                go_wp2_with (first | (go_at_call 168; refine Calls_ret HVR.out ?_; intro z1) | (go_at_call 133; refine Calls_ret (HTX.out _) ?_; intro z2))
                have HQ := (HP.out.more (kp_xt Y (xx Y z1 z2))).final
                exact door_ok HQ.kp HQ.h2 HQ.h3 rfl rfl (fun w' hk => HR.out.ok _ _ w' HB.out (HQ.kp.trans hk) ((own_row HQ.own (by simp; omega)).kp hk))
              · have heq' : ((textR (l ++ [x])).toList == s.toList) = false := by simpa using heq
                have HB : Hid (parseI s = none) := by
                  show _ = _
                  unfold parseI
                  rw [HRW.out]
                  simp [hok, heq']
                clear hok HRow HRW heq
                generalize textR (l ++ [x]) = T at *
                go_wp2_with (first | (go_at_call 168; refine Calls_ret HVR.out ?_; intro z1) | (go_at_call 133; refine Calls_ret (HTX.out _) ?_; intro z2))
                have HQ := HP.out.more (kp_xt Y (xx Y z1 z2))
                exact door_bad HQ.kp HQ.h2 HQ.h3 rfl rfl (fun w' hk => HR.out.bad w' HB.out hk)
          · have hms : m ≠ s.size := by simp at hm; omega
            have hmf' : ((m : Int) == (s.size : Int)) = false := by simpa using hm
            have HN := Lib.hid (next_ret (w.heap.size + 1 + 1) s m Y HP.out.h4 (by omega))
            by_cases h44 : bt s m = 44
            · have n44 : (bt s m != 44) = false := by simpa using h44
              have HT2 : Hid (rowsI s = (rowsF (s.size + 1 - (m + 1)) s (m + 1)).map (l ++ [x] ++ ·)) := by
                show _ = _
                have e : s.size + 1 - n = (s.size - n) + 1 := by omega
                have hlt : m < s.size := by omega
                rw [HT.out, e, rowsF, hv]
                simp only [hms, h44, if_false, if_true]
                rw [rowsF_fuel (s.size - n) (s.size + 1 - (m + 1)) s (m + 1) (by omega) (by omega) (by omega)]
                cases rowsF (s.size + 1 - (m + 1)) s (m + 1) <;> simp
              clear h44 hm hv HT HS
              go_wp2_with (go_at_call 184; refine HN.out.mono ?_; rintro e w5 ⟨rfl, hk5⟩; have HQ := HP.out.more hk5; have z4 := HQ.c4; have zf4 := HQ.f4; clear hk5)
              have HQ2 := HQ.step (m + 1)
              go_roundw
              case rel => exact ⟨m + 1, _, l ++ [x], by omega, by simp; omega, HQ2, HT2⟩
              case measure =>
                have hq := HQ2.c4
                simp only [Int.natCast_add, Int.natCast_one] at hq
                unfold rdN
                rw [hq, wr4]
                simp only [intOf]
                omega
            · have n44 : (bt s m != 44) = true := by simpa using h44
              have HB : Hid (parseI s = none) := by
                show _ = _
                have e : s.size + 1 - n = (s.size - n) + 1 := by omega
                unfold parseI
                rw [HT.out, e, rowsF, hv]
                simp [hms, h44]
              clear h44 hm hv HT HS
              go_wp2_with (go_at_call 184; refine HN.out.mono ?_; rintro e w5 ⟨rfl, hk5⟩; have HQ := HP.out.more hk5; clear hk5)
              exact door_bad HQ.kp HQ.h2 HQ.h3 rfl rfl (fun w' hk => HR.out.bad w' HB.out hk)
        · go_wp2
          refine wpAny_two (i := 0) (j := 2) (by kernel_rfl) rfl rfl ?_ ?_
          · go_wp2
            refine wpAny_one (i := 2) (by kernel_rfl) rfl ?_
            go_wp2_with (go_at_call 183; refine HV.out.mono ?_; rintro e w1 ⟨rfl, hk1, ho1⟩; have HS1 := Lib.hid (HS.out.drew.turn hk1 ho1); have d2 := HS1.out.c2; have d3 := HS1.out.f2; have d4 := HS1.out.lt; have d5 : w.heap.size < w1.heap.size := (by omega); clear hk1 ho1)
            refine wpAny_one (i := 3) (by kernel_rfl) rfl ?_
            go_wp2
            refine wpAny_one (i := 4) (by kernel_rfl) rfl ?_
            go_wp2_with (at_builtin; refine app_vl rfl _ _ rfl HS1.out rfl x rfl (by omega) ?_; intro g c X e2 e3 HP)
            refine wpAny_one (i := 5) (by kernel_rfl) rfl ?_
            go_wp2
            refine wpAny_end (by kernel_rfl) ?_
            generalize X.setCell ⟨w.heap.size, 0, none⟩ (.slice (some ⟨g, 0, none⟩) (l.length + 1) c) = Y at *
            have y2 := HP.out.c2
            have y3 := HP.out.c3
            have y4 := HP.out.c4
            have yf2 := HP.out.f2
            have yf3 := HP.out.f3
            have yf4 := HP.out.f4
            have yl2 := HP.out.lt
            have yl0 : w.heap.size < Y.heap.size := by omega
            have yl1 : w.heap.size + 1 < Y.heap.size := by omega
            clear e2 e3 HV c2 f2 d2 d3 d4 d5 HS1
            by_cases hm : ((m : Int) == (s.size : Int)) = true
            · have HRW : Hid (rowsI s = some (l ++ [x])) := by
                show _ = _
                have e : s.size + 1 - n = (s.size - n) + 1 := by omega
                have hms : m = s.size := by simp at hm; omega
                rw [HT.out, e, rowsF, hv]
                simp [hms]
              clear HT HS hv
              have HRow := own_row HP.out.own (by simp; omega)
              cases hok : rowOK (l ++ [x])
              · have HB : Hid (parseI s = none) := by
                  show _ = _
                  unfold parseI
                  rw [HRW.out]
                  simp [hok]
                have HVR := vrow_ret _ _ Y HRow
                rw [hok] at HVR
                replace HVR := Lib.hid HVR
                clear hok HRow HRW
                go_wp2_with (go_at_call 168; refine Calls_ret HVR.out ?_; intro z1)
                have HQ := HP.out.more (kp_xt Y z1)
                exact door_bad HQ.kp HQ.h2 HQ.h3 rfl rfl (fun w' hk => HR.out.bad w' HB.out hk)
              · have HVR := vrow_ret _ _ Y HRow
                rw [hok] at HVR
                replace HVR := Lib.hid HVR
                have HTX := Lib.hid (fun z => text_ret _ _ (xt Y z) (HRow.kp (kp_xt Y z)) (hg.kp (HP.out.kp.trans (kp_xt Y z))))
                by_cases heq : ((textR (l ++ [x])).toList == s.toList) = true
                · have HB : Hid (parseI s = some (l ++ [x])) := by
                    show _ = _
                    unfold parseI
                    rw [HRW.out]
                    simp only [hok, heq, Bool.and_self, if_true]
                  clear hok HRow HRW
                  generalize textR (l ++ [x]) = T at *
                  go_wp2_with (first | (go_at_call 168; refine Calls_ret HVR.out ?_; intro z1) | (go_at_call 133; refine Calls_ret (HTX.out _) ?_; intro z2))
                  have HQ := (HP.out.more (kp_xt Y (xx Y z1 z2))).final
                  exact door_ok HQ.kp HQ.h2 HQ.h3 rfl rfl (fun w' hk => HR.out.ok _ _ w' HB.out (HQ.kp.trans hk) ((own_row HQ.own (by simp; omega)).kp hk))
                · have heq' : ((textR (l ++ [x])).toList == s.toList) = false := by simpa using heq
                  have HB : Hid (parseI s = none) := by
                    show _ = _
                    unfold parseI
                    rw [HRW.out]
                    simp [hok, heq']
                  clear hok HRow HRW heq
                  generalize textR (l ++ [x]) = T at *
                  go_wp2_with (first | (go_at_call 168; refine Calls_ret HVR.out ?_; intro z1) | (go_at_call 133; refine Calls_ret (HTX.out _) ?_; intro z2))
                  have HQ := HP.out.more (kp_xt Y (xx Y z1 z2))
                  exact door_bad HQ.kp HQ.h2 HQ.h3 rfl rfl (fun w' hk => HR.out.bad w' HB.out hk)
            · have hms : m ≠ s.size := by simp at hm; omega
              have hmf' : ((m : Int) == (s.size : Int)) = false := by simpa using hm
              have HN := Lib.hid (next_ret (w.heap.size + 1 + 1) s m Y HP.out.h4 (by omega))
              by_cases h44 : bt s m = 44
              · have n44 : (bt s m != 44) = false := by simpa using h44
                have HT2 : Hid (rowsI s = (rowsF (s.size + 1 - (m + 1)) s (m + 1)).map (l ++ [x] ++ ·)) := by
                  show _ = _
                  have e : s.size + 1 - n = (s.size - n) + 1 := by omega
                  have hlt : m < s.size := by omega
                  rw [HT.out, e, rowsF, hv]
                  simp only [hms, h44, if_false, if_true]
                  rw [rowsF_fuel (s.size - n) (s.size + 1 - (m + 1)) s (m + 1) (by omega) (by omega) (by omega)]
                  cases rowsF (s.size + 1 - (m + 1)) s (m + 1) <;> simp
                clear h44 hm hv HT HS
                go_wp2_with (go_at_call 184; refine HN.out.mono ?_; rintro e w5 ⟨rfl, hk5⟩; have HQ := HP.out.more hk5; have z4 := HQ.c4; have zf4 := HQ.f4; clear hk5)
                have HQ2 := HQ.step (m + 1)
                go_roundw
                case rel => exact ⟨m + 1, _, l ++ [x], by omega, by simp; omega, HQ2, HT2⟩
                case measure =>
                  have hq := HQ2.c4
                  simp only [Int.natCast_add, Int.natCast_one] at hq
                  unfold rdN
                  rw [hq, wr4]
                  simp only [intOf]
                  omega
              · have n44 : (bt s m != 44) = true := by simpa using h44
                have HB : Hid (parseI s = none) := by
                  show _ = _
                  have e : s.size + 1 - n = (s.size - n) + 1 := by omega
                  unfold parseI
                  rw [HT.out, e, rowsF, hv]
                  simp [hms, h44]
                clear h44 hm hv HT HS
                go_wp2_with (go_at_call 184; refine HN.out.mono ?_; rintro e w5 ⟨rfl, hk5⟩; have HQ := HP.out.more hk5; clear hk5)
                exact door_bad HQ.kp HQ.h2 HQ.h3 rfl rfl (fun w' hk => HR.out.bad w' HB.out hk)
          · go_wp2_with (go_at_call 183; refine HV.out.mono ?_; rintro e w1 ⟨rfl, hk1, ho1⟩; have HS1 := Lib.hid (HS.out.drew.turn hk1 ho1); have d2 := HS1.out.c2; have d3 := HS1.out.f2; have d4 := HS1.out.lt; have d5 : w.heap.size < w1.heap.size := (by omega); clear hk1 ho1)
            refine wpAny_two (i := 0) (j := 3) (by kernel_rfl) rfl rfl ?_ ?_
            · go_wp2
              refine wpAny_one (i := 3) (by kernel_rfl) rfl ?_
              go_wp2
              refine wpAny_one (i := 4) (by kernel_rfl) rfl ?_
              go_wp2_with (at_builtin; refine app_vl rfl _ _ rfl HS1.out rfl x rfl (by omega) ?_; intro g c X e2 e3 HP)
              refine wpAny_one (i := 5) (by kernel_rfl) rfl ?_
              go_wp2
              refine wpAny_end (by kernel_rfl) ?_
              generalize X.setCell ⟨w.heap.size, 0, none⟩ (.slice (some ⟨g, 0, none⟩) (l.length + 1) c) = Y at *
              have y2 := HP.out.c2
              have y3 := HP.out.c3
              have y4 := HP.out.c4
              have yf2 := HP.out.f2
              have yf3 := HP.out.f3
              have yf4 := HP.out.f4
              have yl2 := HP.out.lt
              have yl0 : w.heap.size < Y.heap.size := by omega
              have yl1 : w.heap.size + 1 < Y.heap.size := by omega
              clear e2 e3 HV c2 f2 d2 d3 d4 d5 HS1
              by_cases hm : ((m : Int) == (s.size : Int)) = true
              · have HRW : Hid (rowsI s = some (l ++ [x])) := by
                  show _ = _
                  have e : s.size + 1 - n = (s.size - n) + 1 := by omega
                  have hms : m = s.size := by simp at hm; omega
                  rw [HT.out, e, rowsF, hv]
                  simp [hms]
                clear HT HS hv
                have HRow := own_row HP.out.own (by simp; omega)
                cases hok : rowOK (l ++ [x])
                · have HB : Hid (parseI s = none) := by
                    show _ = _
                    unfold parseI
                    rw [HRW.out]
                    simp [hok]
                  have HVR := vrow_ret _ _ Y HRow
                  rw [hok] at HVR
                  replace HVR := Lib.hid HVR
                  clear hok HRow HRW
                  go_wp2_with (go_at_call 168; refine Calls_ret HVR.out ?_; intro z1)
                  have HQ := HP.out.more (kp_xt Y z1)
                  exact door_bad HQ.kp HQ.h2 HQ.h3 rfl rfl (fun w' hk => HR.out.bad w' HB.out hk)
                · have HVR := vrow_ret _ _ Y HRow
                  rw [hok] at HVR
                  replace HVR := Lib.hid HVR
                  have HTX := Lib.hid (fun z => text_ret _ _ (xt Y z) (HRow.kp (kp_xt Y z)) (hg.kp (HP.out.kp.trans (kp_xt Y z))))
                  by_cases heq : ((textR (l ++ [x])).toList == s.toList) = true
                  · have HB : Hid (parseI s = some (l ++ [x])) := by
                      show _ = _
                      unfold parseI
                      rw [HRW.out]
                      simp only [hok, heq, Bool.and_self, if_true]
                    clear hok HRow HRW
                    generalize textR (l ++ [x]) = T at *
                    go_wp2_with (first | (go_at_call 168; refine Calls_ret HVR.out ?_; intro z1) | (go_at_call 133; refine Calls_ret (HTX.out _) ?_; intro z2))
                    have HQ := (HP.out.more (kp_xt Y (xx Y z1 z2))).final
                    exact door_ok HQ.kp HQ.h2 HQ.h3 rfl rfl (fun w' hk => HR.out.ok _ _ w' HB.out (HQ.kp.trans hk) ((own_row HQ.own (by simp; omega)).kp hk))
                  · have heq' : ((textR (l ++ [x])).toList == s.toList) = false := by simpa using heq
                    have HB : Hid (parseI s = none) := by
                      show _ = _
                      unfold parseI
                      rw [HRW.out]
                      simp [hok, heq']
                    clear hok HRow HRW heq
                    generalize textR (l ++ [x]) = T at *
                    go_wp2_with (first | (go_at_call 168; refine Calls_ret HVR.out ?_; intro z1) | (go_at_call 133; refine Calls_ret (HTX.out _) ?_; intro z2))
                    have HQ := HP.out.more (kp_xt Y (xx Y z1 z2))
                    exact door_bad HQ.kp HQ.h2 HQ.h3 rfl rfl (fun w' hk => HR.out.bad w' HB.out hk)
              · have hms : m ≠ s.size := by simp at hm; omega
                have hmf' : ((m : Int) == (s.size : Int)) = false := by simpa using hm
                have HN := Lib.hid (next_ret (w.heap.size + 1 + 1) s m Y HP.out.h4 (by omega))
                by_cases h44 : bt s m = 44
                · have n44 : (bt s m != 44) = false := by simpa using h44
                  have HT2 : Hid (rowsI s = (rowsF (s.size + 1 - (m + 1)) s (m + 1)).map (l ++ [x] ++ ·)) := by
                    show _ = _
                    have e : s.size + 1 - n = (s.size - n) + 1 := by omega
                    have hlt : m < s.size := by omega
                    rw [HT.out, e, rowsF, hv]
                    simp only [hms, h44, if_false, if_true]
                    rw [rowsF_fuel (s.size - n) (s.size + 1 - (m + 1)) s (m + 1) (by omega) (by omega) (by omega)]
                    cases rowsF (s.size + 1 - (m + 1)) s (m + 1) <;> simp
                  clear h44 hm hv HT HS
                  go_wp2_with (go_at_call 184; refine HN.out.mono ?_; rintro e w5 ⟨rfl, hk5⟩; have HQ := HP.out.more hk5; have z4 := HQ.c4; have zf4 := HQ.f4; clear hk5)
                  have HQ2 := HQ.step (m + 1)
                  go_roundw
                  case rel => exact ⟨m + 1, _, l ++ [x], by omega, by simp; omega, HQ2, HT2⟩
                  case measure =>
                    have hq := HQ2.c4
                    simp only [Int.natCast_add, Int.natCast_one] at hq
                    unfold rdN
                    rw [hq, wr4]
                    simp only [intOf]
                    omega
                · have n44 : (bt s m != 44) = true := by simpa using h44
                  have HB : Hid (parseI s = none) := by
                    show _ = _
                    have e : s.size + 1 - n = (s.size - n) + 1 := by omega
                    unfold parseI
                    rw [HT.out, e, rowsF, hv]
                    simp [hms, h44]
                  clear h44 hm hv HT HS
                  go_wp2_with (go_at_call 184; refine HN.out.mono ?_; rintro e w5 ⟨rfl, hk5⟩; have HQ := HP.out.more hk5; clear hk5)
                  exact door_bad HQ.kp HQ.h2 HQ.h3 rfl rfl (fun w' hk => HR.out.bad w' HB.out hk)
            · go_wp2
              refine wpAny_one (i := 0) (by kernel_rfl) rfl ?_
              go_wp2
              refine wpAny_one (i := 4) (by kernel_rfl) rfl ?_
              go_wp2_with (at_builtin; refine app_vl rfl _ _ rfl HS1.out rfl x rfl (by omega) ?_; intro g c X e2 e3 HP)
              refine wpAny_one (i := 5) (by kernel_rfl) rfl ?_
              go_wp2
              refine wpAny_end (by kernel_rfl) ?_
              generalize X.setCell ⟨w.heap.size, 0, none⟩ (.slice (some ⟨g, 0, none⟩) (l.length + 1) c) = Y at *
              have y2 := HP.out.c2
              have y3 := HP.out.c3
              have y4 := HP.out.c4
              have yf2 := HP.out.f2
              have yf3 := HP.out.f3
              have yf4 := HP.out.f4
              have yl2 := HP.out.lt
              have yl0 : w.heap.size < Y.heap.size := by omega
              have yl1 : w.heap.size + 1 < Y.heap.size := by omega
              clear e2 e3 HV c2 f2 d2 d3 d4 d5 HS1
              by_cases hm : ((m : Int) == (s.size : Int)) = true
              · have HRW : Hid (rowsI s = some (l ++ [x])) := by
                  show _ = _
                  have e : s.size + 1 - n = (s.size - n) + 1 := by omega
                  have hms : m = s.size := by simp at hm; omega
                  rw [HT.out, e, rowsF, hv]
                  simp [hms]
                clear HT HS hv
                have HRow := own_row HP.out.own (by simp; omega)
                cases hok : rowOK (l ++ [x])
                · have HB : Hid (parseI s = none) := by
                    show _ = _
                    unfold parseI
                    rw [HRW.out]
                    simp [hok]
                  have HVR := vrow_ret _ _ Y HRow
                  rw [hok] at HVR
                  replace HVR := Lib.hid HVR
                  clear hok HRow HRW
                  go_wp2_with (go_at_call 168; refine Calls_ret HVR.out ?_; intro z1)
                  have HQ := HP.out.more (kp_xt Y z1)
                  exact door_bad HQ.kp HQ.h2 HQ.h3 rfl rfl (fun w' hk => HR.out.bad w' HB.out hk)
                · have HVR := vrow_ret _ _ Y HRow
                  rw [hok] at HVR
                  replace HVR := Lib.hid HVR
                  have HTX := Lib.hid (fun z => text_ret _ _ (xt Y z) (HRow.kp (kp_xt Y z)) (hg.kp (HP.out.kp.trans (kp_xt Y z))))
                  by_cases heq : ((textR (l ++ [x])).toList == s.toList) = true
                  · have HB : Hid (parseI s = some (l ++ [x])) := by
                      show _ = _
                      unfold parseI
                      rw [HRW.out]
                      simp only [hok, heq, Bool.and_self, if_true]
                    clear hok HRow HRW
                    generalize textR (l ++ [x]) = T at *
                    go_wp2_with (first | (go_at_call 168; refine Calls_ret HVR.out ?_; intro z1) | (go_at_call 133; refine Calls_ret (HTX.out _) ?_; intro z2))
                    have HQ := (HP.out.more (kp_xt Y (xx Y z1 z2))).final
                    exact door_ok HQ.kp HQ.h2 HQ.h3 rfl rfl (fun w' hk => HR.out.ok _ _ w' HB.out (HQ.kp.trans hk) ((own_row HQ.own (by simp; omega)).kp hk))
                  · have heq' : ((textR (l ++ [x])).toList == s.toList) = false := by simpa using heq
                    have HB : Hid (parseI s = none) := by
                      show _ = _
                      unfold parseI
                      rw [HRW.out]
                      simp [hok, heq']
                    clear hok HRow HRW heq
                    generalize textR (l ++ [x]) = T at *
                    go_wp2_with (first | (go_at_call 168; refine Calls_ret HVR.out ?_; intro z1) | (go_at_call 133; refine Calls_ret (HTX.out _) ?_; intro z2))
                    have HQ := HP.out.more (kp_xt Y (xx Y z1 z2))
                    exact door_bad HQ.kp HQ.h2 HQ.h3 rfl rfl (fun w' hk => HR.out.bad w' HB.out hk)
              · have hms : m ≠ s.size := by simp at hm; omega
                have hmf' : ((m : Int) == (s.size : Int)) = false := by simpa using hm
                have HN := Lib.hid (next_ret (w.heap.size + 1 + 1) s m Y HP.out.h4 (by omega))
                by_cases h44 : bt s m = 44
                · have n44 : (bt s m != 44) = false := by simpa using h44
                  have HT2 : Hid (rowsI s = (rowsF (s.size + 1 - (m + 1)) s (m + 1)).map (l ++ [x] ++ ·)) := by
                    show _ = _
                    have e : s.size + 1 - n = (s.size - n) + 1 := by omega
                    have hlt : m < s.size := by omega
                    rw [HT.out, e, rowsF, hv]
                    simp only [hms, h44, if_false, if_true]
                    rw [rowsF_fuel (s.size - n) (s.size + 1 - (m + 1)) s (m + 1) (by omega) (by omega) (by omega)]
                    cases rowsF (s.size + 1 - (m + 1)) s (m + 1) <;> simp
                  clear h44 hm hv HT HS
                  go_wp2_with (go_at_call 184; refine HN.out.mono ?_; rintro e w5 ⟨rfl, hk5⟩; have HQ := HP.out.more hk5; have z4 := HQ.c4; have zf4 := HQ.f4; clear hk5)
                  have HQ2 := HQ.step (m + 1)
                  go_roundw
                  case rel => exact ⟨m + 1, _, l ++ [x], by omega, by simp; omega, HQ2, HT2⟩
                  case measure =>
                    have hq := HQ2.c4
                    simp only [Int.natCast_add, Int.natCast_one] at hq
                    unfold rdN
                    rw [hq, wr4]
                    simp only [intOf]
                    omega
                · have n44 : (bt s m != 44) = true := by simpa using h44
                  have HB : Hid (parseI s = none) := by
                    show _ = _
                    have e : s.size + 1 - n = (s.size - n) + 1 := by omega
                    unfold parseI
                    rw [HT.out, e, rowsF, hv]
                    simp [hms, h44]
                  clear h44 hm hv HT HS
                  go_wp2_with (go_at_call 184; refine HN.out.mono ?_; rintro e w5 ⟨rfl, hk5⟩; have HQ := HP.out.more hk5; clear hk5)
                  exact door_bad HQ.kp HQ.h2 HQ.h3 rfl rfl (fun w' hk => HR.out.bad w' HB.out hk)
theorem parse_ok (s : ByteArray) (w : World) (hs : s.size ≤ 20000) (hg : Glob w) {l : List Vl} (hl : parseI s = some l) : Calls Tryz.prog 157 #[.string s] w fun e w' => ∃ v, e = .returned (.tuple #[v, .int .i64 0]) ∧ Kp w w' ∧ RowIs w' v l :=
  parse_walk s w hs hg _ (Lib.hid ⟨fun l' v w' h hk hr => (by rw [hl] at h; cases h; exact ⟨v, rfl, hk, hr⟩), fun w' h _ => (by rw [hl] at h; cases h)⟩)
theorem parse_bad (s : ByteArray) (w : World) (hs : s.size ≤ 20000) (hg : Glob w) (hl : parseI s = none) : Calls Tryz.prog 157 #[.string s] w (Ret w (.tuple #[.slice none 0 0, .int .i64 2])) :=
  parse_walk s w hs hg _ (Lib.hid ⟨fun l' v w' h _ _ => (by rw [hl] at h; cases h), fun w' _ hk => ⟨rfl, hk⟩⟩)
end Go.Proofs.YtpmheafccfnfjaaGreatDoor
namespace Go.Proofs.YtpmheafccfnfjaaGreatDoor
open Go Go.RowKit
/-- Entries of a map of functions by texts, as they are laid one after the other. -/
def mkE : List (ByteArray × FuncId) → Nat → List MapEntry
  | [], _ => []
  | (k, f) :: t, i => { key := .string k, val := .func (.func f) #[] #[], born := i } :: mkE t (i + 1)
def ent (l : List (ByteArray × FuncId)) : Array MapEntry := (mkE l 0).toArray
theorem mkE_snoc (k : ByteArray) (f : FuncId) : ∀ (l : List (ByteArray × FuncId)) (i : Nat), mkE (l ++ [(k, f)]) i = mkE l i ++ [{ key := .string k, val := .func (.func f) #[] #[], born := i + l.length }]
  | [], i => rfl
  | (k', f') :: t, i => by
    simp only [List.cons_append, mkE, mkE_snoc k f t (i + 1), List.length_cons]
    congr 3
    simp
    omega
/-- The function at a text. -/
def atE : List (ByteArray × FuncId) → ByteArray → Option FuncId
  | [], _ => none
  | (k, f) :: t, s => if s == k then some f else atE t s
theorem findNow_mkE (s : ByteArray) : ∀ (l : List (ByteArray × FuncId)) (i j : Nat), (atE l s = none → Instr.findNow .string (.string s) (mkE l i) j = some none) ∧ ∀ f, atE l s = some f → ∃ q, Instr.findNow .string (.string s) (mkE l i) j = some (some (q, .func (.func f) #[] #[]))
  | [], i, j => ⟨fun _ => rfl, fun f h => by cases h⟩
  | (k, g) :: t, i, j => by
    have ih := findNow_mkE s t (i + 1) (j + 1)
    simp only [mkE, Instr.findNow, Instr.sameNow, atE]
    cases h : s == k
    · simp only [Bool.false_eq_true, if_false]
      exact ih
    · simp only [if_true]
      exact ⟨fun h => (by cases h), fun f hf => (by cases hf; exact ⟨_, rfl⟩)⟩
theorem ins_run {T kt et : TypeId} (hm : Tryz.prog.underlying T = some (.map kt et)) (hk : Tryz.prog.underlying kt = some .string) (w : World) (l : List (ByteArray × FuncId)) (k : ByteArray) (f : FuncId) (hno : atE l k = none) :
    (Instr.mapUpdate T (.map (some w.heap.size)) (.string k) (.func (.func f) #[] #[])).run Tryz.prog (w.alloc (.map (ent l) l.length)) = .ok () (w.alloc (.map (ent (l ++ [(k, f)])) (l.length + 1))) := by
  have hb : (w.alloc (.map (ent l) l.length)).heap[w.heap.size]? = some (.map (ent l) l.length) := World.alloc_heap_new _ _
  have hf : Instr.findNow .string (.string k) (ent l).toList 0 = some none := by
    have := (findNow_mkE k l 0 0).1 hno
    simpa [ent] using this
  have hc : (Instr.checkKey false 10000 kt (.string k)).run Tryz.prog (w.alloc (.map (ent l) l.length)) = .ok () (w.alloc (.map (ent l) l.length)) := MapKept.run_checkKey (k := .string k) hk (by simp [MapKept.IsKey]) false 9999
  simp [Instr.mapUpdate, run_underlying hm, MapKept.run_getObj_map hb, hc, MapKept.run_findKey hk hf, MapKept.run_setObj_map _ hb, Result.andThen]
  have e : (ent l).push { key := .string k, val := .func (.func f) #[] #[], born := l.length } = ent (l ++ [(k, f)]) := by
    unfold ent
    rw [mkE_snoc]
    simp
  rw [e]
  have e2 : (w.alloc (.map (ent l) l.length)).heap = w.heap.push (.map (ent l) l.length) := rfl
  have e3 : (w.alloc (.map (ent (l ++ [(k, f)])) (l.length + 1))).heap = w.heap.push (.map (ent (l ++ [(k, f)])) (l.length + 1)) := rfl
  have e4 : (w.heap.push (.map (ent l) l.length)).setIfInBounds w.heap.size (.map (ent (l ++ [(k, f)])) (l.length + 1)) = w.heap.push (.map (ent (l ++ [(k, f)])) (l.length + 1)) := by
    apply Array.ext_getElem?
    intro i
    rw [Array.getElem?_setIfInBounds, Array.getElem?_push, Array.getElem?_push]
    by_cases hi : i = w.heap.size
    · subst hi; simp
    · simp [hi, Ne.symm hi]
  rw [e2, e4]
  rfl
theorem look_run {T kt et : TypeId} (hm : Tryz.prog.underlying T = some (.map kt et)) (hk : Tryz.prog.underlying kt = some .string) (hz : ∀ w, (zeroValue et).run Tryz.prog w = .ok .nilFunc w) (w : World) (r c : Nat) (l : List (ByteArray × FuncId)) (hl : l ≠ []) (hb : w.heap[r]? = some (.map (ent l) c)) (s : ByteArray) :
    (Instr.lookup T (.map (some r)) (.string s) true).run Tryz.prog w = .ok (match atE l s with | some f => .tuple #[.func (.func f) #[] #[], .bool true] | none => .tuple #[.nilFunc, .bool false]) w := by
  have hc : ∀ e, (Instr.checkKey e 10000 kt (.string s)).run Tryz.prog w = .ok () w := fun e => MapKept.run_checkKey (k := .string s) hk (by simp [MapKept.IsKey]) e 9999
  cases h : atE l s with
  | none =>
    have hf : Instr.findNow .string (.string s) (ent l).toList 0 = some none := by
      have := (findNow_mkE s l 0 0).1 h
      simpa [ent] using this
    simp [Instr.lookup, run_underlying hm, MapKept.run_getObj_map hb, hc, MapKept.run_findKey hk hf, hz, Result.andThen]
  | some f =>
    obtain ⟨q, hq⟩ := (findNow_mkE s l 0 0).2 f h
    have hf : Instr.findNow .string (.string s) (ent l).toList 0 = some (some (q, .func (.func f) #[] #[])) := by
      simpa [ent] using hq
    simp [Instr.lookup, run_underlying hm, MapKept.run_getObj_map hb, hc, MapKept.run_findKey hk hf, Result.andThen]
abbrev relL : List (ByteArray × FuncId) := [(⟨#[61]⟩, 143), (⟨#[60, 62]⟩, 144), (⟨#[60]⟩, 145), (⟨#[60, 61]⟩, 146), (⟨#[62]⟩, 147), (⟨#[62, 61]⟩, 148)]
abbrev rdsL : List (ByteArray × FuncId) := [(⟨#[116, 114, 117, 101]⟩, 226), (⟨#[102, 97, 108, 115, 101]⟩, 227), (⟨#[40]⟩, 228)]
def relE (n : Nat) : Array MapEntry := ent (relL.take n)
def rdsE (n : Nat) : Array MapEntry := ent (rdsL.take n)
section
variable (w : World)
theorem rel_i (n : Nat) (k : ByteArray) (f : FuncId) (hn : relL[n]? = some (k, f)) (hno : atE (relL.take n) k = none) : (Instr.mapUpdate 136 (.map (some w.heap.size)) (.string k) (.func (.func f) #[] #[])).run Tryz.prog (w.alloc (.map (relE n) n)) = .ok () (w.alloc (.map (relE (n + 1)) (n + 1))) := by
  have hlt : n < relL.length := (List.getElem?_eq_some_iff.1 hn).1
  have hl : (relL.take n).length = n := by rw [List.length_take]; omega
  have := ins_run (T := 136) Tryz.underlying136 Tryz.underlying9 w (relL.take n) k f hno
  rw [hl] at this
  have e : relL.take n ++ [(k, f)] = relL.take (n + 1) := by
    rw [List.take_add_one, hn]
    rfl
  rw [e] at this
  exact this
theorem rds_i (n : Nat) (k : ByteArray) (f : FuncId) (hn : rdsL[n]? = some (k, f)) (hno : atE (rdsL.take n) k = none) : (Instr.mapUpdate 241 (.map (some w.heap.size)) (.string k) (.func (.func f) #[] #[])).run Tryz.prog (w.alloc (.map (rdsE n) n)) = .ok () (w.alloc (.map (rdsE (n + 1)) (n + 1))) := by
  have hlt : n < rdsL.length := (List.getElem?_eq_some_iff.1 hn).1
  have hl : (rdsL.take n).length = n := by rw [List.length_take]; omega
  have := ins_run (T := 241) Tryz.underlying241 Tryz.underlying9 w (rdsL.take n) k f hno
  rw [hl] at this
  have e : rdsL.take n ++ [(k, f)] = rdsL.take (n + 1) := by
    rw [List.take_add_one, hn]
    rfl
  rw [e] at this
  exact this
@[go_sem 3000] theorem mk_rel : (Instr.makeMap 136 none).run Tryz.prog w = .ok (.map (some w.heap.size)) (w.alloc (.map (relE 0) 0)) := run_makeMap_plain w _
@[go_sem 3000] theorem mk_rds : (Instr.makeMap 241 none).run Tryz.prog w = .ok (.map (some w.heap.size)) (w.alloc (.map (rdsE 0) 0)) := run_makeMap_plain w _
@[go_sem 3000] theorem rel_0 : (Instr.mapUpdate 136 (.map (some w.heap.size)) (.string ⟨#[61]⟩) (.func (.func 143) #[] #[])).run Tryz.prog (w.alloc (.map (relE 0) 0)) = .ok () (w.alloc (.map (relE 1) 1)) := rel_i w 0 _ _ rfl rfl
@[go_sem 3000] theorem rel_1 : (Instr.mapUpdate 136 (.map (some w.heap.size)) (.string ⟨#[60, 62]⟩) (.func (.func 144) #[] #[])).run Tryz.prog (w.alloc (.map (relE 1) 1)) = .ok () (w.alloc (.map (relE 2) 2)) := rel_i w 1 _ _ rfl rfl
@[go_sem 3000] theorem rel_2 : (Instr.mapUpdate 136 (.map (some w.heap.size)) (.string ⟨#[60]⟩) (.func (.func 145) #[] #[])).run Tryz.prog (w.alloc (.map (relE 2) 2)) = .ok () (w.alloc (.map (relE 3) 3)) := rel_i w 2 _ _ rfl rfl
@[go_sem 3000] theorem rel_3 : (Instr.mapUpdate 136 (.map (some w.heap.size)) (.string ⟨#[60, 61]⟩) (.func (.func 146) #[] #[])).run Tryz.prog (w.alloc (.map (relE 3) 3)) = .ok () (w.alloc (.map (relE 4) 4)) := rel_i w 3 _ _ rfl rfl
@[go_sem 3000] theorem rel_4 : (Instr.mapUpdate 136 (.map (some w.heap.size)) (.string ⟨#[62]⟩) (.func (.func 147) #[] #[])).run Tryz.prog (w.alloc (.map (relE 4) 4)) = .ok () (w.alloc (.map (relE 5) 5)) := rel_i w 4 _ _ rfl rfl
@[go_sem 3000] theorem rel_5 : (Instr.mapUpdate 136 (.map (some w.heap.size)) (.string ⟨#[62, 61]⟩) (.func (.func 148) #[] #[])).run Tryz.prog (w.alloc (.map (relE 5) 5)) = .ok () (w.alloc (.map (relE 6) 6)) := rel_i w 5 _ _ rfl rfl
@[go_sem 3000] theorem rds_0 : (Instr.mapUpdate 241 (.map (some w.heap.size)) (.string ⟨#[116, 114, 117, 101]⟩) (.func (.func 226) #[] #[])).run Tryz.prog (w.alloc (.map (rdsE 0) 0)) = .ok () (w.alloc (.map (rdsE 1) 1)) := rds_i w 0 _ _ rfl rfl
@[go_sem 3000] theorem rds_1 : (Instr.mapUpdate 241 (.map (some w.heap.size)) (.string ⟨#[102, 97, 108, 115, 101]⟩) (.func (.func 227) #[] #[])).run Tryz.prog (w.alloc (.map (rdsE 1) 1)) = .ok () (w.alloc (.map (rdsE 2) 2)) := rds_i w 1 _ _ rfl rfl
@[go_sem 3000] theorem rds_2 : (Instr.mapUpdate 241 (.map (some w.heap.size)) (.string ⟨#[40]⟩) (.func (.func 228) #[] #[])).run Tryz.prog (w.alloc (.map (rdsE 2) 2)) = .ok () (w.alloc (.map (rdsE 3) 3)) := rds_i w 2 _ _ rfl rfl
end
/-- A map of functions that is handed back. -/
def MapR (w : World) (es : Array MapEntry) (c : Nat) (e : Ending) (w' : World) : Prop := ∃ r, e = .returned (.map (some r)) ∧ Kp w w' ∧ w.heap.size ≤ r ∧ w'.heap[r]? = some (.map es c)
theorem relations_ret (w : World) : Calls Tryz.prog 106 #[] w (MapR w (relE 6) 6) := by
  go_enter Tryz.func106, Tryz.ntmps106
  go_wp2
  go_ret
  exact ⟨_, rfl, (Kp.refl w).alloc _, Nat.le_refl _, World.alloc_heap_new _ _⟩
theorem readers_ret (w : World) : Calls Tryz.prog 218 #[] w (MapR w (rdsE 3) 3) := by
  go_enter Tryz.func218, Tryz.ntmps218
  go_wp2
  go_ret
  exact ⟨_, rfl, (Kp.refl w).alloc _, Nat.le_refl _, World.alloc_heap_new _ _⟩
theorem look_rel (w : World) (r : Nat) (hb : w.heap[r]? = some (.map (relE 6) 6)) (s : ByteArray) :
    (Instr.lookup 136 (.map (some r)) (.string s) true).run Tryz.prog w = .ok (match atE relL s with | some f => .tuple #[.func (.func f) #[] #[], .bool true] | none => .tuple #[.nilFunc, .bool false]) w :=
  look_run Tryz.underlying136 Tryz.underlying9 (fun w => by kernel_rfl) w r 6 relL (by decide) hb s
theorem look_rds (w : World) (r : Nat) (hb : w.heap[r]? = some (.map (rdsE 3) 3)) (s : ByteArray) :
    (Instr.lookup 241 (.map (some r)) (.string s) true).run Tryz.prog w = .ok (match atE rdsL s with | some f => .tuple #[.func (.func f) #[] #[], .bool true] | none => .tuple #[.nilFunc, .bool false]) w :=
  look_run Tryz.underlying241 Tryz.underlying9 (fun w => by kernel_rfl) w r 3 rdsL (by decide) hb s
end Go.Proofs.YtpmheafccfnfjaaGreatDoor
namespace Go.Proofs.YtpmheafccfnfjaaGreatDoor
open Go Go.RowKit
def dropB (r : Bs) : Bs := r.dropWhile (· == 32)
def toksF : Nat → Bs → List Bs
  | 0, _ => []
  | k + 1, r => if dropB r = [] then [] else (dropB r).take (wordLen (dropB r)) :: toksF k ((dropB r).drop (wordLen (dropB r)))
/-- The words of a text. -/
def toks (r : Bs) : List Bs := toksF r.length r
theorem dropB_le (r : Bs) : (dropB r).length ≤ r.length := (List.dropWhile_sublist _).length_le
theorem toksF_fuel : ∀ (f g : Nat) (r : Bs), r.length ≤ f → r.length ≤ g → toksF f r = toksF g r
  | 0, 0, _, _, _ => rfl
  | 0, g + 1, r, hf, _ => by
    have : r = [] := List.eq_nil_of_length_eq_zero (by omega)
    subst this
    simp [toksF, dropB]
  | f + 1, 0, r, _, hg => by
    have : r = [] := List.eq_nil_of_length_eq_zero (by omega)
    subst this
    simp [toksF, dropB]
  | f + 1, g + 1, r, hf, hg => by
    unfold toksF
    split
    · rfl
    · rename_i h
      have h1 := wordLen_pos h
      have h2 := dropB_le r
      have h3 : ((dropB r).drop (wordLen (dropB r))).length ≤ (dropB r).length - 1 := by rw [List.length_drop]; omega
      rw [toksF_fuel f g _ (by omega) (by omega)]
theorem toks_eq (r : Bs) : toks r = if dropB r = [] then [] else (dropB r).take (wordLen (dropB r)) :: toks ((dropB r).drop (wordLen (dropB r))) := by
  have h : toks r = toksF (r.length + 1) r := toksF_fuel _ _ _ (Nat.le_refl _) (Nat.le_succ _)
  rw [h]
  conv => lhs; unfold toksF
  split
  · rfl
  · rename_i h0
    have h1 := wordLen_pos h0
    have h2 := dropB_le r
    rw [toks, toksF_fuel r.length _ _ (by rw [List.length_drop]; omega) (Nat.le_refl _)]
theorem dropWhile_drop (p : UInt8 → Bool) : ∀ l : Bs, l.dropWhile p = l.drop (l.takeWhile p).length
  | [] => rfl
  | c :: t => by
    by_cases h : p c = true
    · simp [h, dropWhile_drop p t]
    · simp [h]
theorem dropB_skip (s : ByteArray) (n : Nat) : dropB (sfx s n) = sfx s (skipN s n) := by
  unfold dropB skipN sfx
  rw [← List.drop_drop]
  exact dropWhile_drop _ _
theorem dropB_idem (r : Bs) : dropB (dropB r) = dropB r := by
  unfold dropB
  cases h : r.dropWhile (· == 32) with
  | nil => rfl
  | cons c t =>
    have := List.head_dropWhile_not (· == 32) (l := r) (by rw [h]; simp)
    simp only [h, List.head_cons] at this
    simp [List.dropWhile_cons, this]
theorem toks_dropB (r : Bs) : toks (dropB r) = toks r := by
  rw [toks_eq (dropB r), toks_eq r, dropB_idem]
theorem toks_skip (s : ByteArray) (n : Nat) : toks (sfx s (skipN s n)) = toks (sfx s n) := by
  rw [← dropB_skip, toks_dropB]
/-- The next word, empty at the end. -/
def hd (T : List Bs) : Bs := T.headD []
theorem wordS_eq (s : ByteArray) (n : Nat) : wordS s (skipN s n) = st (hd (toks (sfx s n))) := by
  have hl := size_data s
  have e : (s.extract (skipN s n) s.size).data.toList = sfx s (skipN s n) := by
    rw [ext_data, ← hl, List.take_length]
  rw [toks_eq, dropB_skip]
  unfold wordS wordQ
  rw [e]
  apply toList_inj
  rw [toList_data, ext_data, e, List.drop_zero, st_list']
  split
  · rename_i h
    rw [h]
    rfl
  · rfl
/-- The place behind the next word. -/
theorem toks_tail {s : ByteArray} {n : Nat} (hn : n ≤ s.size) : skipN s n + (hd (toks (sfx s n))).length ≤ s.size ∧ toks (sfx s (skipN s n + (hd (toks (sfx s n))).length)) = (toks (sfx s n)).tail := by
  have hl := size_data s
  have hm := skipN_le hn
  have ht := toks_eq (sfx s n)
  rw [dropB_skip] at ht
  split at ht
  · rename_i h
    rw [ht]
    refine ⟨by simp [hd]; exact hm, ?_⟩
    simp only [hd, List.headD_nil, List.length_nil, Nat.add_zero, List.tail_nil]
    rw [h]
    rfl
  · rename_i h
    rw [ht]
    have hw := wordLen_le (sfx s (skipN s n))
    have hlen : ((sfx s (skipN s n)).take (wordLen (sfx s (skipN s n)))).length = wordLen (sfx s (skipN s n)) := by rw [List.length_take]; omega
    simp only [hd, List.headD_cons, List.tail_cons, hlen]
    have : (sfx s (skipN s n)).length = s.size - skipN s n := by simp
    refine ⟨by omega, ?_⟩
    unfold sfx
    rw [List.drop_drop]
theorem toks_ne {r : Bs} {t : Bs} (h : t ∈ toks r) : t ≠ [] := by
  have key : ∀ (f : Nat) (r : Bs), t ∈ toksF f r → t ≠ [] := by
    intro f
    induction f with
    | zero => intro r h; cases h
    | succ f ih =>
      intro r h
      unfold toksF at h
      split at h
      · cases h
      · rename_i h0
        rcases List.mem_cons.1 h with rfl | h
        · have h5 := wordLen_pos h0
          intro e
          have := congrArg List.length e
          have h3 : 0 < (dropB r).length := List.length_pos_iff.2 h0
          rw [List.length_take, List.length_nil] at this
          omega
        · exact ih _ h
  exact key _ _ h
/-- A call that hands back v; the reader in block b has the words T still to come, at level d. -/
def RetT (w : World) (b : Nat) (s : ByteArray) (T : List Bs) (d : Int) (v : Value) (e : Ending) (w' : World) : Prop :=
  e = .returned v ∧ Kb b w w' ∧ ∃ n, n ≤ s.size ∧ toks (sfx s n) = T ∧ w'.heap[b]? = some (rdO s n d)
/-- What cond's reader panics with. -/
abbrev wrongC : Value := .iface 150 (.agg #[])
section
variable {P : Program} {w x : World} {b : Nat} {o : Obj} {f : FuncId} {args : Array Value} {v : Value} {s : ByteArray} {T : List Bs} {d : Int} {R : Ending → World → Prop}
theorem Calls_retT (hb : b < w.heap.size) (h : Calls P f args (sb (xt w x) b o) (RetT (sb (xt w x) b o) b s T d v)) (k : ∀ y n, n ≤ s.size → toks (sfx s n) = T → R (.returned v) (sb (xt w y) b (rdO s n d))) : Calls P f args (sb (xt w x) b o) R :=
  h.mono fun e w' ⟨he, hk, n, hn, ht, ho⟩ => by
    obtain ⟨y, hy⟩ := ((((Kb.refl b w).more x).setB o).trans hk).out hb ho
    subst he hy
    exact k y n hn ht
theorem retT_1 {n : Nat} {u : Value} {o' : Obj} (hb : b < w.heap.size) (h : u = v) (hn : n ≤ s.size) (ht : toks (sfx s n) = T) (ho : o' = rdO s n d) : RetT w b s T d v (.returned u) (sb (xt w x) b o') :=
  ⟨by rw [h], ((Kb.refl b w).more x).setB _, n, hn, ht, by rw [ho]; exact heap_sb_same _ _ _ (Nat.lt_of_lt_of_le hb (size_xt _ _))⟩
end
theorem isRd_start {w : World} {b : Nat} {s : ByteArray} {n : Nat} {d : Int} (h : w.heap[b]? = some (rdO s n d)) : ∃ y, w = sb (xt w y) b (rdO s n d) :=
  (Kb.refl b w).out (Array.getElem?_eq_some_iff.1 h).1 h
/-- cond's reader: a word, if it is next. -/
theorem take_ret (b : Nat) (s t : ByteArray) (n : Nat) (d : Int) (w : World) (h : w.heap[b]? = some (rdO s n d)) (hn : n ≤ s.size) (hs : s.size ≤ 1000000) (hts : t.size ≤ 1000000) :
    Calls Tryz.prog 174 #[.pointer (some ⟨b, 0, none⟩), .string t] w
      (RetT w b s (if hd (toks (sfx s n)) = t.data.toList then (toks (sfx s n)).tail else toks (sfx s n)) d (.bool (decide (hd (toks (sfx s n)) = t.data.toList)))) := by
  have hb : b < w.heap.size := (Array.getElem?_eq_some_iff.1 h).1
  have HW := word_ret b s n d w h hn (by omega)
  rw [wordS_eq] at HW
  have h1 := toks_skip s n
  have h2 := toks_tail hn
  have h3 := skipN_le hn
  have h4 := st_list' (hd (toks (sfx s n)))
  replace HW := Lib.hid HW
  generalize toks (sfx s n) = T at *
  generalize skipN s n = m at *
  clear h
  by_cases he : ((st (hd T)).toList == t.toList) = true
  · have he2 : hd T = t.data.toList := by
      have := eq_of_beq he
      rw [h4, toList_data] at this
      exact this
    rw [if_pos he2, decide_eq_true he2]
    have hsz : (hd T).length = t.size := by rw [he2, size_data]
    rw [hsz] at h2
    replace h2 := Lib.hid h2
    clear he2 hsz h1 h4
    go_enter Tryz.func174, Tryz.ntmps174
    go_wp2_with (go_at_call 119; refine Calls_retB HW.out hb ?_; intro x1)
    go_ret
    exact retT_1 hb rfl h2.out.1 h2.out.2 (rdO_eq (by simp) rfl)
  · have he2 : ¬ hd T = t.data.toList := fun e => he (by rw [h4, toList_data, e]; simp)
    have he3 : ((st (hd T)).toList == t.toList) = false := by simpa using he
    rw [if_neg he2, decide_eq_false he2]
    replace h1 := Lib.hid h1
    clear he he2 h2 h4
    go_enter Tryz.func174, Tryz.ntmps174
    go_wp2_with (go_at_call 119; refine Calls_retB HW.out hb ?_; intro x1)
    go_ret
    exact retT_1 hb rfl h3 h1.out rfl
end Go.Proofs.YtpmheafccfnfjaaGreatDoor
namespace Go.Proofs.YtpmheafccfnfjaaGreatDoor
open Go Go.RowKit
/-- A term: an item's name, a variable's, a value. -/
inductive Trm where
  | nm (a : Bs)
  | vr (a : Bs)
  | vl (x : Vl)
abbrev tm5 (a : ByteArray) (v : Bool) (k n : Int) (s : ByteArray) : Value := .agg #[.string a, .bool v, .int .i64 k, .int .i64 n, .string s]
def tv : Trm → Value
  | .nm a => tm5 (st a) false 0 0 ⟨#[]⟩
  | .vr a => tm5 (st a) true 0 0 ⟨#[]⟩
  | .vl x => tm5 ⟨#[]⟩ false x.k x.n x.s
def keptB (t : Bs) : Bool := hasS kwords (st t)
/-- A value as a word. -/
def litP (t : Bs) : Option Vl := match parseI (st t) with
  | some [x] => if t.head? = some 34 then some x else none
  | _ => none
def litI (t : Bs) : Option Vl := match Lib.atoiAll t with
  | .ok v => if (itoaS v).toList == t && validV 1 v ⟨#[]⟩ then some ⟨1, v, ⟨#[]⟩⟩ else litP t
  | _ => litP t
def pTerm : List Bs → Option (Trm × List Bs)
  | [] => none
  | t :: T => if t = [58] then (match pTerm T with | some (.nm a, T') => if a = [] then none else some (.vr a, T') | _ => none)
    else if nameOK t && !keptB t then some (.nm t, T) else (litI t).map fun x => (.vl x, T)
/-- What term hands back. -/
structure TmR (w : World) (b : Nat) (s : ByteArray) (T : List Bs) (d : Int) (R : Ending → World → Prop) : Prop where
  ok : ∀ x T' e w', pTerm T = some (x, T') → RetT w b s T' d (tv x) e w' → R e w'
  pan : ∀ e w', pTerm T = none → PanB w b wrongC e w' → R e w'
abbrev wTm (w : World) : World := w.alloc (.cells #[.string ⟨#[]⟩, .bool false, .int .i64 0, .int .i64 0, .string ⟨#[]⟩] 93)
/-- The ground of a walk of term. -/
theorem tm_base (w : World) (b : Nat) (s : ByteArray) (n : Nat) (d : Int) (h : w.heap[b]? = some (rdO s n d)) : ∃ W1 y, w.alloc (.cells #[.string ⟨#[]⟩, .bool false, .int .i64 0, .int .i64 0, .string ⟨#[]⟩] 93) = sb (xt W1 y) b (rdO s n d) ∧ Kp w W1 ∧ b < W1.heap.size ∧
    W1.heap[w.heap.size]? = some (.cells #[.string ⟨#[]⟩, .bool false, .int .i64 0, .int .i64 0, .string ⟨#[]⟩] 93 (0, 0)) := by
  have hb : b < w.heap.size := (Array.getElem?_eq_some_iff.1 h).1
  obtain ⟨y, hy⟩ := (Kb.refl b (wTm w)).out (by simp; omega) (show (wTm w).heap[b]? = some (rdO s n d) by rw [Lib.alloc_old _ _ _ hb]; exact h)
  exact ⟨wTm w, y, hy, (Kp.refl w).alloc _, by simp; omega, World.alloc_heap_new _ _⟩
theorem store5 {X : World} {r : Nat} {a b c d e a' b' c' d' e' : Value} {T : TypeId} (h : X.heap[r]? = some (.cells #[a', b', c', d', e'] T (0, 0))) :
    ((((X.setCell ⟨r, 0, none⟩ a).setCell ⟨r, 1, none⟩ b).setCell ⟨r, 2, none⟩ c).setCell ⟨r, 3, none⟩ d).setCell ⟨r, 4, none⟩ e = sb X r (.cells #[a, b, c, d, e] T (0, 0)) := by
  have hr : r < X.heap.size := (Array.getElem?_eq_some_iff.1 h).1
  have e : X = sb X r (.cells #[a', b', c', d', e'] T (0, 0)) := by
    obtain ⟨heap, tape, drawn, os, output⟩ := X
    simp only [sb]
    congr 1
    apply Array.ext_getElem?
    intro k
    rw [Array.getElem?_setIfInBounds]
    split
    · subst_vars
      simp only at h hr
      first | exact h | (rw [if_pos hr]; exact h)
    · rfl
  rw [e, setCell_sb _ _ _ _ _ _ _ hr, setCell_sb _ _ _ _ _ _ _ hr, setCell_sb _ _ _ _ _ _ _ hr, setCell_sb _ _ _ _ _ _ _ hr, setCell_sb _ _ _ _ _ _ _ hr, sb_sb]
  rfl
theorem rd_eq' {s : ByteArray} {z d : Int} {k : Nat} (h : z = k) : (.cells #[.string s, .int .i64 z, .int .i64 d] 154 (0, 0) : Obj) = rdO s k d := by rw [h]; rfl
/-- A result in a new block; the reader's words. -/
theorem retT_2 {w W1 y : World} {b r : Nat} {s : ByteArray} {T : List Bs} {d : Int} {n : Nat} {u v : Value} {o : Obj} {ob : Obj} (hb : b < w.heap.size) (hk : Kp w W1) (hr : w.heap.size ≤ r) (h : u = v) (hn : n ≤ s.size) (ht : toks (sfx s n) = T) (ho : ob = rdO s n d) :
    RetT w b s T d v (.returned u) (sb (sb (xt W1 y) b ob) r o) := by
  have F := (Fin.base (w := w) (W := W1) (x := y) (b := b) (o := ob) hk hb).setB hr hb o
  exact ⟨by rw [h], F.1, n, hn, ht, by rw [← ho]; exact F.2⟩
/-- What a walk of term starts from: the next word t, the others T. -/
structure TP (w : World) (b : Nat) (s : ByteArray) (n : Nat) (d : Int) (t : Bs) (T : List Bs) (W1 y : World) (m : Nat) : Prop where
  hy : w.alloc (.cells #[.string ⟨#[]⟩, .bool false, .int .i64 0, .int .i64 0, .string ⟨#[]⟩] 93) = sb (xt W1 y) b (rdO s n d)
  hk : Kp w W1
  hb : b < W1.heap.size
  hw : W1.heap[w.heap.size]? = some (.cells #[.string ⟨#[]⟩, .bool false, .int .i64 0, .int .i64 0, .string ⟨#[]⟩] 93 (0, 0))
  word : Calls Tryz.prog 119 #[.pointer (some ⟨b, 0, none⟩)] (sb (xt W1 y) b (rdO s n d)) (RetB (sb (xt W1 y) b (rdO s n d)) b (rdO s m d) (.string (st t)))
  sz : m + (st t).size ≤ s.size
  tl : toks (sfx s (m + (st t).size)) = T
section
variable {w : World} {b : Nat} {s : ByteArray} {n : Nat} {d : Int} {t : Bs} {T : List Bs} {W1 y : World} {m : Nat}
theorem TP.mk' (h : w.heap[b]? = some (rdO s n d)) (hn : n ≤ s.size) (hs : s.size ≤ 1000) : ∃ W1 y m, TP w b s n d (hd (toks (sfx s n))) (toks (sfx s n)).tail W1 y m := by
  obtain ⟨W1, y, hy, hk1, hb1, hw1⟩ := tm_base w b s n d h
  have HW := word_ret b s n d (sb (xt W1 y) b (rdO s n d)) (heap_sb_same _ _ _ (Nat.lt_of_lt_of_le hb1 (size_xt _ _))) hn (by omega)
  rw [wordS_eq] at HW
  have h2 := toks_tail hn
  rw [← st_size] at h2
  exact ⟨W1, y, skipN s n, hy, hk1, hb1, hw1, HW, h2.1, h2.2⟩
theorem TP.c (h : TP w b s n d t T W1 y m) (i : Nat) : W1.cell? ⟨w.heap.size, i, none⟩ = (#[Value.string ⟨#[]⟩, .bool false, .int .i64 0, .int .i64 0, .string ⟨#[]⟩])[i]? := Lib.cell_of_heap h.hw i
theorem TP.f (h : TP w b s n d t T W1 y m) (i : Nat) : W1.frozen? ⟨w.heap.size, i, none⟩ = false := Lib.frozen_of_heap h.hw i
theorem TP.rl (h : TP w b s n d t T W1 y m) : w.heap.size < W1.heap.size := (Array.getElem?_eq_some_iff.1 h.hw).1
theorem TP.h (h : TP w b s n d t T W1 y m) (hne : w.heap.size ≠ b) (y : World) (o : Obj) : (sb (xt W1 y) b o).heap[w.heap.size]? = some (.cells #[.string ⟨#[]⟩, .bool false, .int .i64 0, .int .i64 0, .string ⟨#[]⟩] 93 (0, 0)) := by
  rw [heap_sb_other _ _ _ hne, heap_xt _ _ h.rl]
  exact h.hw
end
set_option maxHeartbeats 2000000 in
set_option maxRecDepth 100000 in
theorem term_name (b : Nat) (s : ByteArray) (n : Nat) (d : Int) (w : World) (hb : b < w.heap.size) (hs : s.size ≤ 1000) (t : Bs) (T : List Bs) (W1 y : World) (m : Nat) (H : TP w b s n d t T W1 y m)
    (h58 : t ≠ [58]) (hnm : nameOK t = true) (hkp : keptB t = false) :
    Calls Tryz.prog 118 #[.pointer (some ⟨b, 0, none⟩)] w (RetT w b s T d (tv (.nm t))) := by
  have hne : w.heap.size ≠ b := by omega
  have hb1 := H.hb
  have r0 := H.c 0
  have r1 := H.c 1
  have r2 := H.c 2
  have r3 := H.c 3
  have r4 := H.c 4
  have rf := H.f
  have rl := H.rl
  have hsz : (st t).size ≤ s.size := by have := H.sz; omega
  have hmm : m ≤ s.size := by have := H.sz; omega
  have hss : m + (st t).size ≤ s.size := H.sz
  have HW1 := Lib.hid (H.h hne)
  have HH := Lib.hid H
  clear H
  have HN := name_ret (st t)
  rw [st_list, hnm] at HN
  have HN := Lib.hid (fun w => HN w (by omega))
  have HK := kept_ret (st t)
  rw [show hasS kwords (st t) = false from hkp] at HK
  replace HK := Lib.hid HK
  have e58 : ((st t).toList == [58]) = false := by
    rw [st_list']
    simpa using h58
  clear h58 hnm hkp
  go_enter Tryz.func118, Tryz.ntmps118
  go_wp2_with (first | (go_at_call 119; rw [HH.out.hy]; refine Calls_retBS hb1 HH.out.word ?_; intro y1) | (go_at_call 65; refine Calls_retS (F := fun _ => True) (fun _ _ => trivial) hb1 trivial (HN.out _) ?_; intro y2 _) | (go_at_call 66; refine Calls_retS (F := fun _ => True) (fun _ _ => trivial) hb1 trivial (HK.out _) ?_; intro y3 _))
  rw [store5 (HW1.out _ _)]
  refine bodyPost_ret (v := tv (.nm t)) (by simp [results, Tryz.results118, go_sem, tv, rl]) rfl ?_
  exact retT_2 hb HH.out.hk (Nat.le_refl _) rfl HH.out.sz HH.out.tl (rd_eq' (by simp))
end Go.Proofs.YtpmheafccfnfjaaGreatDoor
