/- What is known of the package-level variables, and strconv's Itoa and Atoi by it. strings.Builder at this program: copyCheck, WriteByte, WriteString (turned from the kit's worked walks of the same functions), String. The walks of item's escaped and of the iterator it hands back. The walk of item's written. Rows: slices.IndexFunc, ContainsFunc at []api.Value; item.ValidRow. The walk of item.Text. The walk of strconv.ParseUint at two bytes, base 16. item's reader: next, text. Reading a text between quotes as item's reader does: lists alone. item's reader: text. -/
import Derived.WalkSmall
import Derived.Lib.Strings
import Derived.Lib.Slices
import Derived.Lib.Walk
import Derived.Lib.Builder
import Derived.Lib.AppendStr
import Derived.Lib.UnsafeStr
import Derived.Laws.Externs
import Derived.Shelf.Strings.BuilderK
import Derived.RangeFuncNested
import Derived.RangeFuncBound
import Derived.RangeFuncCalls
import Derived.RangeFuncLeaves
import Derived.Shelf.Abstract
import Derived.OwnWalkIn
import Derived.TacticsInMore
import Derived.LoopNIn
import Derived.LoopIn
import Derived.RangeFuncFrom
import Derived.Laws.Runes
import Derived.RangeFuncBox
import Derived.Lib.ItoaLen
import Derived.Lib.ConvBytes
import Derived.Test.YtpmheafccfnfjaaGreatDoorShelf
import Derived.Test.YtpmheafccfnfjaaGreatDoorPart01
set_option linter.unusedSimpArgs false
set_option linter.unusedVariables false
namespace Go.Proofs.YtpmheafccfnfjaaGreatDoor
open Go Go.RowKit
/-- The variables that are read, as the program lays them. -/
structure Glob (w : World) : Prop where
  sz : 8 ≤ w.heap.size
  es : ∃ tp p, w.var? Tryz.prog "strconv.ErrSyntax" = some #[.iface tp p]
  er : ∃ tp p, w.var? Tryz.prog "strconv.ErrRange" = some #[.iface tp p]
  tab : Lib.TabIs Tryz.prog w "internal/strconv.uint64pow10" .u64 Lib.pow10Tab
theorem gl_es : ∃ g, Tryz.prog.globalNamed "strconv.ErrSyntax" = some g ∧ g < 8 := ⟨0, by kernel_rfl, by decide⟩
theorem gl_er : ∃ g, Tryz.prog.globalNamed "strconv.ErrRange" = some g ∧ g < 8 := ⟨1, by kernel_rfl, by decide⟩
theorem gl_tab : ∃ g, Tryz.prog.globalNamed "internal/strconv.uint64pow10" = some g ∧ g < 8 := ⟨2, by kernel_rfl, by decide⟩
section
variable {w x : World}
theorem Glob.of (h : Glob w) (hs : w.heap.size ≤ x.heap.size) (hb : ∀ k, k < 8 → x.heap[k]? = w.heap[k]?) : Glob x := by
  have hv : ∀ {n : String} {cs : Array Value}, (∃ g, Tryz.prog.globalNamed n = some g ∧ g < 8) → w.var? Tryz.prog n = some cs → x.var? Tryz.prog n = some cs := by
    rintro n cs ⟨g, hg, hg8⟩ hv
    unfold World.var? at hv ⊢
    simp only [hg, Option.bind_some] at hv ⊢
    rw [hb g hg8]
    exact hv
  obtain ⟨t1, p1, h1⟩ := h.es
  obtain ⟨t2, p2, h2⟩ := h.er
  exact ⟨Nat.le_trans h.sz hs, ⟨t1, p1, hv gl_es h1⟩, ⟨t2, p2, hv gl_er h2⟩, hv gl_tab h.tab⟩
theorem Glob.kp (h : Glob w) (k : Kp w x) : Glob x := h.of k.size fun i hi => k.block i (Nat.lt_of_lt_of_le hi h.sz)
theorem Glob.kb (h : Glob w) {b : Nat} (hb : 8 ≤ b) (k : Kb b w x) : Glob x := h.of k.size fun i hi => k.block i (Nat.lt_of_lt_of_le hi h.sz) (by omega)
theorem Glob.xt (h : Glob w) (y : World) : Glob (Go.Proofs.YtpmheafccfnfjaaGreatDoor.xt w y) := h.kp (kp_xt w y)
theorem Glob.alloc (h : Glob w) (o : Obj) : Glob (w.alloc o) := h.kp ((Kp.refl w).alloc o)
theorem Glob.drew (h : Glob w) : Glob w.drew := h.kp (Kp.refl w).drew
theorem Glob.drewN (h : Glob w) (n : Nat) : Glob (w.drewN n) := h.kp ((Kp.refl w).drewN n)
theorem Glob.sb (h : Glob w) {b : Nat} (hb : 8 ≤ b) (o : Obj) : Glob (Go.Proofs.YtpmheafccfnfjaaGreatDoor.sb w b o) := h.kb hb ((Kb.refl b w).setB o)
theorem Glob.setCell (h : Glob w) {p : Addr} (hp : 8 ≤ p.block) (v : Value) : Glob (w.setCell p v) := h.of (by simp) fun k hk => by rw [Below.heap_setCell _ _ _ _ (by omega)]
end
def itoaS (n : Int) : ByteArray := ⟨(Lib.itoa n).toArray⟩
theorem kp_grow (w : World) (os : Array Obj) : Kp w (Go.Sort.grow w os) :=
  ⟨by simp [Go.Sort.grow], rfl, rfl, rfl, fun k hk => by simp [Go.Sort.grow, Array.getElem?_append, hk]⟩
theorem itoa_ret (n : Int) (w : World) (h0 : -9223372036854775808 ≤ n) (h1 : n ≤ 9223372036854775807) (hg : Glob w) : Calls Tryz.prog 156 #[.int .i64 n] w (Ret w (.string (itoaS n))) :=
  (Tryz.strconv_Itoa n h0 h1 w hg.tab).mono fun e w' ⟨he, k, os, hw⟩ => ⟨he, by rw [hw]; exact ((Kp.refl w).drewN k).trans (kp_grow _ os)⟩
theorem kp_freeze (w : World) (x : World) (h : Kp w x) (a : Addr) (n : Nat) (ha : w.heap.size ≤ a.block) : Kp w (x.freeze a n) := by
  unfold World.freeze
  split
  · exact h
  · refine ⟨by simpa using h.size, h.os, h.tape, h.output, fun k hk => ?_⟩
    simp only [Array.getElem?_modify]
    rw [if_neg (by omega)]
    exact h.block k hk
theorem atoi_ok (s : ByteArray) (v : Int) (w : World) (hs : s.size ≤ 4611686018427387904) (h : Lib.atoiAll s.data.toList = .ok v) : Calls Tryz.prog 155 #[.string s] w (Ret w (.tuple #[.int .i64 v, .nilIface])) :=
  (Tryz.strconv_Atoi_ok s (by omega) v h w).mono fun e w' ⟨he, hw⟩ => ⟨he, by
    rcases hw with rfl | ⟨t, rfl⟩
    · exact Kp.refl _
    · unfold Lib.bytesWorld
      exact kp_freeze _ _ ((Kp.refl w).drew.alloc _) _ _ (Nat.le_refl _)⟩
/-- An error that is not nil. -/
def errN (N : Nat) : Value := .iface 218 (.pointer (some ⟨N, 0, none⟩))
@[go_sem] theorem neq_err (N : Nat) (w : World) : (binOp .neq 180 (errN N) .nilIface).run Tryz.prog w = .ok (.bool true) w := by kernel_rfl
@[go_sem] theorem eql_err (N : Nat) (w : World) : (binOp .eql 180 (errN N) .nilIface).run Tryz.prog w = .ok (.bool false) w := by kernel_rfl
theorem atoi_err (s : ByteArray) (w : World) (hs : s.size ≤ 281474976710656) (hg : Glob w) (h : ∀ v, Lib.atoiAll s.data.toList ≠ .ok v) :
    Calls Tryz.prog 155 #[.string s] w fun e w' => ∃ x N, e = .returned (.tuple #[.int .i64 x, errN N]) ∧ Kp w w' := by
  obtain ⟨t1, p1, h1⟩ := hg.es
  obtain ⟨t2, p2, h2⟩ := hg.er
  rcases hr : Lib.atoiAll s.data.toList with v | _ | _
  · exact absurd hr (h v)
  · exact (Tryz.strconv_Atoi_syntax_var s hs hr t1 p1 w h1).mono fun e w' ⟨N, he, _, _, hb⟩ => ⟨0, N, he, .of_below hb⟩
  · exact (Tryz.strconv_Atoi_range_var s hs hr t2 p2 w h2).mono fun e w' ⟨N, he, _, _, hb⟩ => ⟨_, N, he, .of_below hb⟩
end Go.Proofs.YtpmheafccfnfjaaGreatDoor
namespace Go.Proofs.YtpmheafccfnfjaaGreatDoor
open Go Go.RowKit
abbrev TB : TypeId := 209
theorem bInfo : (Tryz.prog.info? 5).map (fun i => (i.zero, i.size, i.bytes)) = some (some (.int .u8 0), 1, 1) := by kernel_rfl
theorem bSize : (Tryz.prog.info? TB).map (·.size) = some 2 := by kernel_rfl
theorem bLies : liesAt Tryz.prog Tryz.prog.depth TB (2 / Tryz.prog.cellsOf TB) 0 TB 1 = true := by kernel_rfl
/-- A builder of the call's own, in block b, from B on. -/
abbrev Bld (B b : Nat) (bs : List Value) (w : World) : Prop := Lib.IsBuilder TB 5 B b bs w
theorem own_cells {w : World} {base : Nat} {e : TypeId} {size : Nat} {v : Value} {n : Nat} {xs : List Value} (h : w.ownsRow base e size v n xs) {j : Nat} {o : Obj} (hj : v.ownBlock = some j) (ho : w.heap[j]? = some o) : o.isCells = true := by
  rcases h.2 with ⟨rfl, _⟩ | ⟨g, cap, cur, rfl, _, hh, _⟩
  · simp [Value.ownBlock] at hj
  · have : g = j := by simpa [Value.ownBlock] using hj
    subst this
    rw [hh] at ho
    cases ho
    rfl
/-- Rows of cells of other types than the builder's two lie as they lay. -/
def KeepsTy (w x : World) : Prop := ∀ (k : Nat) (cs : Array Value) (T : TypeId) (fr : Nat × Nat), w.heap[k]? = some (.cells cs T fr) → T ≠ TB → T ≠ 5 → x.heap[k]? = some (.cells cs T fr)
theorem KeepsTy.refl (w : World) : KeepsTy w w := fun _ _ _ _ h _ _ => h
theorem KeepsTy.trans {a b c : World} (h : KeepsTy a b) (k : KeepsTy b c) : KeepsTy a c := fun i cs T fr hi h1 h2 => k i cs T fr (h i cs T fr hi h1 h2) h1 h2
theorem KeepsTy.alloc (w : World) (o : Obj) : KeepsTy w (w.alloc o) := fun k cs T fr h _ _ => by rw [Lib.alloc_old _ _ _ (Array.getElem?_eq_some_iff.1 h).1]; exact h
theorem KeepsTy.setB {w : World} {b : Nat} {cs : Array Value} {fr : Nat × Nat} (hb : w.heap[b]? = some (.cells cs TB fr)) (i : Nat) (v : Value) : KeepsTy w (w.setCell ⟨b, i, none⟩ v) := fun k cs' T fr' h h1 _ => by
  rw [Below.heap_setCell _ _ _ _ (fun e => by
    have e' : k = b := by simpa using e
    subst e'
    rw [hb] at h
    cases h
    exact h1 rfl)]
  exact h
theorem KeepsTy.grown {w x : World} {base size : Nat} {v : Value} {n : Nat} {xs : List Value} (hown : w.ownsRow base 5 size v n xs) (hg : w.grownBy x v.ownBlock) : KeepsTy w x := fun k cs T fr h _ h2 => by
  rw [hg.block k (Array.getElem?_eq_some_iff.1 h).1 (fun e => by
    rcases hown.2 with ⟨rfl, _⟩ | ⟨g, cap, cur, rfl, _, hh, _⟩
    · simp [Value.ownBlock] at e
    · have e' : k = g := by simpa [Value.ownBlock] using e
      subst e'
      rw [hh] at h
      cases h
      exact h2 rfl)]
  exact h
set_option maxHeartbeats 1000000 in
set_option maxRecDepth 100000 in
theorem bcheck_used (b : Nat) (w : World) (h0 : w.cell? ⟨b, 0, none⟩ = some (.pointer (some ⟨b, 0, none⟩))) :
    Calls Tryz.prog 204 #[.pointer (some ⟨b, 0, none⟩)] w fun e w' => e = .returned (.tuple #[]) ∧ w' = w := by
  obtain ⟨j, hj, _⟩ := Option.map_eq_some_iff.1 bSize
  go_enter Tryz.func204, Tryz.ntmps204
  go_wp2
  rw [Lib.run_neq_ptr_same w _ Tryz.underlying207 hj]
  go_wp2
  go_end0
  exact ⟨rfl, rfl⟩
set_option maxHeartbeats 1000000 in
set_option maxRecDepth 100000 in
theorem bcheck_fresh (b : Nat) (w : World) (h0 : w.cell? ⟨b, 0, none⟩ = some (.pointer none)) (hsh : w.shape? b = some (TB, 2)) (hfz : w.frozen? ⟨b, 0, none⟩ = false) :
    Calls Tryz.prog 204 #[.pointer (some ⟨b, 0, none⟩)] w fun e w' => e = .returned (.tuple #[]) ∧ w' = w.setCell ⟨b, 0, none⟩ (.pointer (some ⟨b, 0, none⟩)) := by
  obtain ⟨j, hj, hjs⟩ := Option.map_eq_some_iff.1 bSize
  go_enter Tryz.func204, Tryz.ntmps204
  go_wp2
  rw [Lib.run_to_unsafe w ⟨b, 0, none⟩ Tryz.underlying207 Tryz.underlying236 hj (by rw [hjs]; decide) hsh (Nat.zero_lt_succ 1)]
  simp only [Result.andThen]
  rw [Oper.upon_value]
  go_wp2
  rw [run_callFunc_extern Tryz.func216 (by kernel_rfl) (by kernel_rfl) (by kernel_rfl) (e := Extern.AbiNoEscape.same) (by kernel_rfl)]
  rw [Lib.run_noEscape]
  simp only [Result.andThen]
  rw [Oper.upon_value]
  go_wp2
  rw [Lib.run_from_unsafe w ⟨b, 0, none⟩ Tryz.underlying236 Tryz.underlying207 hj hsh bLies]
  simp only [Result.andThen]
  rw [Oper.upon_value]
  go_wp2
  go_end0
  exact ⟨rfl, rfl⟩
theorem bcheck (B b : Nat) (bs : List Value) (w : World) (h : Bld B b bs w) :
    Calls Tryz.prog 204 #[.pointer (some ⟨b, 0, none⟩)] w fun e w' => e = .returned (.tuple #[]) ∧ (Lib.BuilderAt TB 5 B b (.pointer (some ⟨b, 0, none⟩)) bs w' ∧ Below B w w' ∧ KeepsOthers w w' ∧ KeepsTy w w') := by
  rcases h with h | h
  · refine (bcheck_fresh b w h.cell0 h.shape h.frozen0).mono ?_
    rintro e w' ⟨rfl, rfl⟩
    exact ⟨rfl, h.used _, (Below.refl B w).setCell (p := ⟨b, 0, none⟩) h.1 _, KeepsOthers.setCell _ _ _, by obtain ⟨_, v, hb, _⟩ := h; exact KeepsTy.setB hb _ _⟩
  · refine (bcheck_used b w h.cell0).mono ?_
    rintro e w' ⟨rfl, rfl⟩
    exact ⟨rfl, h, Below.refl B _, KeepsOthers.refl _, KeepsTy.refl _⟩
set_option maxHeartbeats 2000000 in
set_option maxRecDepth 100000 in
theorem wbyte_ret (B b : Nat) (bs : List Value) (c : Int) (w : World) (h : Bld B b bs w) (hlen : bs.length + 1 ≤ 140737488355328) (hBw : B ≤ w.heap.size) :
    Calls Tryz.prog 188 #[.pointer (some ⟨b, 0, none⟩), .int .u8 c] w fun e w' => e = .returned .nilIface ∧ (Bld B b (bs ++ [.int .u8 c]) w' ∧ Below B w w' ∧ KeepsOthers w w' ∧ KeepsTy w w') := by
  obtain ⟨i0, hi, hz0, hz1, hz2⟩ := info_parts bInfo
  go_enter Tryz.func188, Tryz.ntmps188
  go_wp2_with (go_at_call 204; refine (bcheck B b bs _ h).mono ?_)
  rintro e w1 ⟨rfl, h1, hb1, ho1, ht1⟩
  obtain ⟨hB, v, hbk, hown, hne⟩ := h1
  have c0 : w1.cell? ⟨b, 0, none⟩ = some (.pointer (some ⟨b, 0, none⟩)) := by rw [Lib.cell_of_heap hbk]; rfl
  have c1 : w1.cell? ⟨b, 1, none⟩ = some v := by rw [Lib.cell_of_heap hbk]; rfl
  go_wp2_with (at_builtin; refine wpList_append_own _ rfl _ _ 189 rfl B 5 i0 (.int .u8 0) 1 1 Tryz.underlying189 hi hz0 hz1 hz2 rfl (by decide) _ _ _ rfl (hown.alloc _) ⟨w1.heap.size, 0, none⟩ 1 1 [.int .u8 c] rfl rfl ?c1 ?c2 ?c3 ?c4 ?c5 ?_)
  case c1 =>
    intro j u hj
    match j, hj with
    | 0, hj => simp at hj; subst hj; simp [Addr.add]
  case c2 => intro u hu; simp at hu; subst hu; rfl
  case c3 => unfold maxLen; omega
  case c4 => omega
  case c5 => have := hb1.size; simp; omega
  intro v' w2 hown' hgrow _
  have hlt : b < w1.heap.size := (Array.getElem?_eq_some_iff.1 hbk).1
  have hb2 : w2.heap[b]? = some (.cells #[.pointer (some ⟨b, 0, none⟩), v] TB (0, 0)) := by
    rw [hgrow.block b (by simp; omega) (fun e => hne e.symm), Lib.alloc_old w1 _ b hlt]
    exact hbk
  have d0 : w2.cell? ⟨b, 0, none⟩ = some (.pointer (some ⟨b, 0, none⟩)) := by rw [Lib.cell_of_heap hb2]; rfl
  have d1 : w2.cell? ⟨b, 1, none⟩ = some v := by rw [Lib.cell_of_heap hb2]; rfl
  have f1 : w2.frozen? ⟨b, 1, none⟩ = false := Lib.frozen_of_heap hb2 1
  obtain ⟨g, cap, rfl⟩ : ∃ g cap, v' = .slice (some ⟨g, 0, none⟩) (bs.length + 1) cap := by
    rcases hown'.2 with ⟨_, h0⟩ | ⟨g, cap, cur, hv, _⟩
    · omega
    · exact ⟨g, cap, hv⟩
  go_wp2
  go_ret
  refine ⟨rfl, .inr ?_, ?_, ((ho1.trans (KeepsOthers.alloc _ _)).trans (KeepsOthers.of_grownBy hgrow (fun j o e ho => own_cells (hown.alloc _) e ho))).trans (KeepsOthers.setCell _ _ _), ((ht1.trans (KeepsTy.alloc _ _)).trans (KeepsTy.grown (hown.alloc _) hgrow)).trans (KeepsTy.setB hb2 _ _)⟩
  · exact Lib.BuilderAt.put (T := TB) (e := 5) hB hb2 (bs' := bs ++ [.int .u8 c]) (by simpa using hown') (by decide)
  · exact ((hb1.alloc (by have := hb1.size; omega) _).grown hgrow (by have := hb1.size; simp; omega) (fun k hk => (hown.lt k hk).1)).setCell (p := ⟨b, 1, none⟩) hB _
set_option maxHeartbeats 2000000 in
set_option maxRecDepth 100000 in
theorem wstr_ret (B b : Nat) (bs : List Value) (s : ByteArray) (w : World) (h : Bld B b bs w) (hlen : bs.length + s.size ≤ 140737488355328) (hBw : B ≤ w.heap.size) :
    Calls Tryz.prog 190 #[.pointer (some ⟨b, 0, none⟩), .string s] w fun e w' => e = .returned (.tuple #[.int .i64 s.size, .nilIface]) ∧ (Bld B b (bs ++ Lib.strCells s) w' ∧ Below B w w' ∧ KeepsOthers w w' ∧ KeepsTy w w') := by
  obtain ⟨i0, hi, hz0, hz1, hz2⟩ := info_parts bInfo
  go_enter Tryz.func190, Tryz.ntmps190
  go_wp2_with (go_at_call 204; refine (bcheck B b bs _ h).mono ?_)
  rintro e w1 ⟨rfl, h1, hb1, ho1, ht1⟩
  obtain ⟨hB, v, hbk, hown, hne⟩ := h1
  have c0 : w1.cell? ⟨b, 0, none⟩ = some (.pointer (some ⟨b, 0, none⟩)) := by rw [Lib.cell_of_heap hbk]; rfl
  have c1 : w1.cell? ⟨b, 1, none⟩ = some v := by rw [Lib.cell_of_heap hbk]; rfl
  go_wp2_with (at_builtin; refine Lib.wpList_append_own_string _ rfl _ _ 189 9 rfl B 5 i0 Tryz.underlying189 Tryz.underlying9 hi hz0 hz1 hz2 _ _ _ rfl hown s rfl ?c3 ?c4 ?c5 ?_)
  case c3 => unfold maxLen; omega
  case c4 => omega
  case c5 => have := hb1.size; omega
  intro v' w2 hown' hgrow _
  have hlt : b < w1.heap.size := (Array.getElem?_eq_some_iff.1 hbk).1
  have hb2 : w2.heap[b]? = some (.cells #[.pointer (some ⟨b, 0, none⟩), v] TB (0, 0)) := by
    rw [hgrow.block b hlt (fun e => hne e.symm)]
    exact hbk
  have d0 : w2.cell? ⟨b, 0, none⟩ = some (.pointer (some ⟨b, 0, none⟩)) := by rw [Lib.cell_of_heap hb2]; rfl
  have d1 : w2.cell? ⟨b, 1, none⟩ = some v := by rw [Lib.cell_of_heap hb2]; rfl
  have f1 : w2.frozen? ⟨b, 1, none⟩ = false := Lib.frozen_of_heap hb2 1
  obtain ⟨ag, cap, rfl⟩ : ∃ ag cap, v' = .slice ag (bs.length + s.size) cap := by
    rcases hown'.2 with ⟨hv, h0⟩ | ⟨g, cap, cur, hv, _⟩
    · exact ⟨none, 0, by rw [hv, h0]⟩
    · exact ⟨_, cap, hv⟩
  go_wp2
  go_ret2
  refine ⟨rfl, .inr ?_, ?_, (ho1.trans (KeepsOthers.of_grownBy hgrow (fun j o e ho => own_cells hown e ho))).trans (KeepsOthers.setCell _ _ _), (ht1.trans (KeepsTy.grown hown hgrow)).trans (KeepsTy.setB hb2 _ _)⟩
  · exact Lib.BuilderAt.put (T := TB) (e := 5) hB hb2 (bs' := bs ++ Lib.strCells s) (by simpa [Lib.strCells] using hown') (by decide)
  · exact (hb1.grown hgrow (by have := hb1.size; omega) (fun k hk => (hown.lt k hk).1)).setCell (p := ⟨b, 1, none⟩) hB _
theorem bstr_ret (B b : Nat) (l : List UInt8) (w : World) (h : Bld B b (Lib.byteCells l) w) (hBw : B ≤ w.heap.size) :
    Calls Tryz.prog 191 #[.pointer (some ⟨b, 0, none⟩)] w fun e w' => e = .returned (.string ⟨l.toArray⟩) ∧ Below B w w' ∧ Lib.OthersKept 5 (some b) w w' :=
  (Any.Builder_String_any_k Tryz.lays169 Tryz.Builder_Extra_169 B b l w (h.imp Lib.BuilderAtF.of Lib.BuilderAtF.of) hBw).mono fun e w' h => ⟨h.1, h.2.2⟩
end Go.Proofs.YtpmheafccfnfjaaGreatDoor
namespace Go.Proofs.YtpmheafccfnfjaaGreatDoor
open Go Go.RowKit Go.Shelf
attribute [local go_sem] Oper.semAt_some
def st (l : Bs) : ByteArray := ⟨l.toArray⟩
theorem st_list (l : Bs) : (st l).data.toList = l := by simp [st]
theorem st_list' (l : Bs) : (st l).toList = l := by rw [toList_data, st_list]
theorem st_size (l : Bs) : (st l).size = l.length := by simp [st, ByteArray.size]
theorem st_self (s : ByteArray) : st s.data.toList = s := by cases s; simp [st]
def hexB (n : UInt8) : UInt8 := if n < 10 then 48 + n else 87 + n
/-- A byte of a text as it is written. -/
def escB (c : UInt8) : Bs := if c = 34 ∨ c = 92 then [92, c] else if c < 32 ∨ 126 < c then [92, 120, hexB (c / 16), hexB (c % 16)] else [c]
def hexLit : ByteArray := ⟨#[48, 49, 50, 51, 52, 53, 54, 55, 56, 57, 97, 98, 99, 100, 101, 102]⟩
def hexZ (n : Int) : Int := if n < 10 then 48 + n else 87 + n
@[go_sem 3000] theorem hex_ix (n : Int) (h0 : 0 ≤ n) (h1 : n < 16) (w : World) : (Instr.index 9 (.string ⟨#[48, 49, 50, 51, 52, 53, 54, 55, 56, 57, 97, 98, 99, 100, 101, 102]⟩) (.int .u8 n)).run Tryz.prog w = .ok (.int .u8 (hexZ n)) w := by
  have h : n = 0 ∨ n = 1 ∨ n = 2 ∨ n = 3 ∨ n = 4 ∨ n = 5 ∨ n = 6 ∨ n = 7 ∨ n = 8 ∨ n = 9 ∨ n = 10 ∨ n = 11 ∨ n = 12 ∨ n = 13 ∨ n = 14 ∨ n = 15 := by omega
  rcases h with rfl | rfl | rfl | rfl | rfl | rfl | rfl | rfl | rfl | rfl | rfl | rfl | rfl | rfl | rfl | rfl <;> (clear h0 h1; change _ = _; kernel_rfl)
def hexS (n : Int) : ByteArray := Utf8.encode (hexZ n)
@[go_sem 2000] theorem hex_cv (n : Int) (w : World) : (convert 5 9 (.int .u8 (hexZ n))).run Tryz.prog w = .ok (.string (hexS n)) w :=
  run_convert_int_string w _ _ _ _ (by kernel_rfl) (by kernel_rfl)
theorem hexB_eq (c : UInt8) (n : Int) (hn : n = (c.toNat : Int)) (h : n < 16) : hexS n = st [hexB c] := by
  have h0 : 0 ≤ n := by omega
  have h : n = 0 ∨ n = 1 ∨ n = 2 ∨ n = 3 ∨ n = 4 ∨ n = 5 ∨ n = 6 ∨ n = 7 ∨ n = 8 ∨ n = 9 ∨ n = 10 ∨ n = 11 ∨ n = 12 ∨ n = 13 ∨ n = 14 ∨ n = 15 := by omega
  have hc : c = UInt8.ofNat n.toNat := by
    apply UInt8.toNat_inj.1
    have := UInt8.toNat_lt c
    simp
    omega
  subst hc
  rcases h with rfl | rfl | rfl | rfl | rfl | rfl | rfl | rfl | rfl | rfl | rfl | rfl | rfl | rfl | rfl | rfl <;> (clear hn; change _ = _; kernel_rfl)
@[go_sem] theorem hexS_size (n : Int) (h0 : 0 ≤ n) (h1 : n < 16) : (hexS n).size = 1 := by
  rw [hexB_eq (UInt8.ofNat n.toNat) n (by simp; omega) h1, st_size]
  rfl
theorem cz (c d : UInt8) : ((c.toNat : Int) = (d.toNat : Int)) ↔ c = d := ⟨fun h => UInt8.toNat_inj.1 (by exact_mod_cast h), fun h => by rw [h]⟩
theorem escB_bs (x : ByteArray) (c : UInt8) (e : x = st [c]) (h : (c.toNat : Int) = 34 ∨ (c.toNat : Int) = 92) : (⟨#[92]⟩ : ByteArray) ++ x = st (escB c) := by
  have h' : c = 34 ∨ c = 92 := h.imp (fun h => (cz c 34).1 h) (fun h => (cz c 92).1 h)
  subst e
  rw [escB, if_pos h']
  apply toList_inj
  simp [st_list', toList_data, ByteArray.data_append, st]
theorem escB_plain (x : ByteArray) (c : UInt8) (e : x = st [c]) (h1 : ¬ (c.toNat : Int) = 34) (h2 : ¬ (c.toNat : Int) = 92) (h3 : 32 ≤ (c.toNat : Int)) (h4 : (c.toNat : Int) ≤ 126) : x = st (escB c) := by
  have h' : ¬ (c = 34 ∨ c = 92) := fun h => h.elim (fun h => h1 ((cz c 34).2 h)) (fun h => h2 ((cz c 92).2 h))
  have h'' : ¬ (c < 32 ∨ 126 < c) := by
    rw [UInt8.lt_iff_toNat_lt, UInt8.lt_iff_toNat_lt]
    simp
    omega
  rw [e, escB, if_neg h', if_neg h'']
def hexT (n m : Int) : ByteArray := (⟨#[92, 120]⟩ ++ hexS n) ++ hexS m
def hexU (n : Int) : ByteArray := ⟨#[92, 120]⟩ ++ hexS n
@[go_sem 3000] theorem hex_ad (n : Int) (h0 : 0 ≤ n) (h1 : n < 16) (w : World) : (Op.stringOp .add ⟨#[92, 120]⟩ (hexS n)).run Tryz.prog w = .ok (.string (hexU n)) w :=
  run_string_add_sum w _ _ (by rw [hexS_size n h0 h1]; decide)
@[go_sem 3000] theorem hex_ad2 (n m : Int) (h0 : 0 ≤ n) (h1 : n < 16) (h2 : 0 ≤ m) (h3 : m < 16) (w : World) : (Op.stringOp .add (hexU n) (hexS m)).run Tryz.prog w = .ok (.string (hexT n m)) w :=
  run_string_add_sum w _ _ (by rw [hexU, ByteArray.size_append, hexS_size n h0 h1, hexS_size m h2 h3]; decide)
theorem escB_hex (c : UInt8) (h1 : ¬ (c.toNat : Int) = 34) (h2 : ¬ (c.toNat : Int) = 92) (h3 : (c.toNat : Int) < 32 ∨ 126 < (c.toNat : Int)) : hexT ((c.toNat : Int) / 16) ((c.toNat : Int) % 16) = st (escB c) := by
  have h' : ¬ (c = 34 ∨ c = 92) := fun h => h.elim (fun h => h1 ((cz c 34).2 h)) (fun h => h2 ((cz c 92).2 h))
  have h'' : (c < 32 ∨ 126 < c) := by
    rw [UInt8.lt_iff_toNat_lt, UInt8.lt_iff_toNat_lt]
    simp
    omega
  have := UInt8.toNat_lt c
  rw [escB, if_neg h', if_pos h'', hexT, hexB_eq (c / 16) _ (by rw [UInt8.toNat_div]; simp) (by omega), hexB_eq (c % 16) _ (by rw [UInt8.toNat_mod]; simp) (by omega)]
  apply toList_inj
  simp [st_list', toList_data, ByteArray.data_append, st]
theorem drew_grown (w : World) : w.grownBy w.drew none := ⟨rfl, rfl, rfl, Nat.le_refl _, fun _ _ _ => rfl⟩
theorem wp_region_drew {P : Program} {id : Nat} {Q : Exit → Act → World → Prop} {a : Act} {w : World} {l : List Oper} (hm : P.follows .mixedOrders = true) (hB : Region.lexB .any l.toArray = true)
    (h : wpQuiet P l.toArray (fun w' => w' = w.drew) (fun a' => Q .normal a' w.drew) l a) : (Code.region id l.toArray true).wp P Q a w := by
  refine wp_region_quiet (C := fun w' => w' = w.drew) hm hB rfl ?_
  have e : (fun a' => ∀ w', w' = w.drew → Q .normal a' w') = (fun a' => Q .normal a' w.drew) := by funext a'; simp
  rw [e]
  exact h
set_option maxHeartbeats 1000000 in
set_option maxRecDepth 100000 in
theorem esc_it (b : Nat) (s : ByteArray) (hs : s.size ≤ 4611686018427387904) (w : World) (hb : b < w.heap.size) (hc : w.cell? ⟨b, 0, none⟩ = some (.string s)) :
    SeqStopsK Fence.wide 8 Tryz.prog 205 #[.pointer (some ⟨b, 0, none⟩)] (fun c : UInt8 => #[Value.string (st (escB c))]) (fun W W' => W'.heap[b]? = W.heap[b]?) (fun ys => ys = s.data.toList) (fun pre => pre <+: s.data.toList) s.size w := fun l J Jx W hW hJ hJx hY h0 => by
  have hcW : W.cell? ⟨b, 0, none⟩ = some (.string s) := (hW.cell (p := ⟨b, 0, none⟩) hb).trans hc
  refine callsIn_of_wp Tryz.func205 rfl (by trivial) ?_ rfl
  simp only [Tryz.ntmps205, List.size_toArray, List.length_cons, List.length_nil, Nat.reduceAdd, Nat.reduceSub, Array.replicate_succ, Array.replicate_zero, List.push_toArray, List.append_toArray, List.nil_append, List.cons_append]
  gi_wp2
  gi_loopw [8] (fun i wr => ∃ k : Nat, k ≤ s.size ∧ i = .int .i64 k ∧ J (s.data.toList.take k) wr ∧ wr.cell? ⟨b, 0, none⟩ = some (.string s)) (fun i _ => s.size - (intOf i).toNat)
  case atStart => exact ⟨0, Nat.zero_le _, rfl, h0, hcW⟩
  case round =>
    obtain ⟨k, hk, rfl, hJk, hck⟩ := hrel
    by_cases hlt : k < s.size
    · have e1 : (s.extract k (k+1)) = st [s[k]'hlt] := by
        apply toList_inj
        rw [st_list', toList_data, ext_data, List.drop_take, Nat.add_sub_cancel_left]
        rw [List.drop_eq_getElem_cons (by simpa using hlt)]
        rfl
      have hr : 0 ≤ ((s[k]'hlt).toNat : Int) ∧ ((s[k]'hlt).toNat : Int) < 256 := ⟨by omega, by have := UInt8.toNat_lt (s[k]'hlt); omega⟩
      have hsnoc : s.data.toList.take k ++ [s[k]'hlt] = s.data.toList.take (k + 1) := by
        rw [List.take_succ_eq_append_getElem (by simpa using hlt)]; rfl
      have hY0 := hY
      by_cases h1 : (((s[k]'hlt).toNat : Int) == 34) = true
      · have hx := escB_bs (s.extract k (k+1)) (s[k]'hlt) e1 (.inl (by simpa using h1))
        obtain ⟨fn, tmps, assign, body, hy, hR⟩ := hY _ (s[k]'hlt) wr hJk (by simp; omega)
        rw [← hx] at hy
        clear e1 hx hY hY0
        gi_wp2
        refine hR.mono ?_
        rintro e W' (⟨rfl, hJ', hk'⟩ | ⟨rfl, hJx'⟩)
        · rw [hsnoc] at hJ'
          have hc' := (World.cell?_of_block (a := ⟨b, 0, none⟩) hk').trans hck
          gi_wp2
          go_roundw
          case rel => exact ⟨k + 1, by omega, by go_num, hJ', hc'⟩
          case measure => simp [intOf]; omega
        · gi_wp2
          refine bodyPost_ret (results_none rfl _ _ _) rfl ?_
          rw [hsnoc] at hJx'
          exact ⟨⟨_, rfl⟩, .inr ⟨_, List.take_prefix _ _, hJx'⟩⟩
      · by_cases h2 : (((s[k]'hlt).toNat : Int) == 92) = true
        · have hx := escB_bs (s.extract k (k+1)) (s[k]'hlt) e1 (.inr (by simpa using h2))
          obtain ⟨fn, tmps, assign, body, hy, hR⟩ := hY _ (s[k]'hlt) wr hJk (by simp; omega)
          rw [← hx] at hy
          clear e1 hx hY hY0
          gi_wp2
          refine hR.mono ?_
          rintro e W' (⟨rfl, hJ', hk'⟩ | ⟨rfl, hJx'⟩)
          · rw [hsnoc] at hJ'
            have hc' := (World.cell?_of_block (a := ⟨b, 0, none⟩) hk').trans hck
            gi_wp2
            go_roundw
            case rel => exact ⟨k + 1, by omega, by go_num, hJ', hc'⟩
            case measure => simp [intOf]; omega
          · gi_wp2
            refine bodyPost_ret (results_none rfl _ _ _) rfl ?_
            rw [hsnoc] at hJx'
            exact ⟨⟨_, rfl⟩, .inr ⟨_, List.take_prefix _ _, hJx'⟩⟩
        · by_cases h3 : 32 ≤ ((s[k]'hlt).toNat : Int)
          · by_cases h4 : ((s[k]'hlt).toNat : Int) ≤ 126
            · have hx := escB_plain (s.extract k (k+1)) (s[k]'hlt) e1 (by simpa using h1) (by simpa using h2) (by omega) (by omega)
              obtain ⟨fn, tmps, assign, body, hy, hR⟩ := hY _ (s[k]'hlt) wr hJk (by simp; omega)
              rw [← hx] at hy
              clear e1 hx hY hY0
              gi_wp2
              refine hR.mono ?_
              rintro e W' (⟨rfl, hJ', hk'⟩ | ⟨rfl, hJx'⟩)
              · rw [hsnoc] at hJ'
                have hc' := (World.cell?_of_block (a := ⟨b, 0, none⟩) hk').trans hck
                gi_wp2
                go_roundw
                case rel => exact ⟨k + 1, by omega, by go_num, hJ', hc'⟩
                case measure => simp [intOf]; omega
              · gi_wp2
                refine bodyPost_ret (results_none rfl _ _ _) rfl ?_
                rw [hsnoc] at hJx'
                exact ⟨⟨_, rfl⟩, .inr ⟨_, List.take_prefix _ _, hJx'⟩⟩
            · clear e1 hY
              have d1 : 0 ≤ ((s[k]'hlt).toNat : Int) / 16 := by omega
              have d2 : ((s[k]'hlt).toNat : Int) / 16 < 16 := by omega
              have d3 : 0 ≤ ((s[k]'hlt).toNat : Int) % 16 := by omega
              have d4 : ((s[k]'hlt).toNat : Int) % 16 < 16 := by omega
              have hx := escB_hex (s[k]'hlt) (by simpa using h1) (by simpa using h2) (by omega)
              have hJ2 : J (s.data.toList.take k) wr.drew := hJ _ _ _ none hJk (drew_grown wr) (fun r e => by cases e)
              have hck2 : wr.drew.cell? ⟨b, 0, none⟩ = some (.string s) := hck
              gi_wp2
              refine wpIn_wide.2 (wp_region_drew (by kernel_rfl) (by kernel_rfl) ?_)
              repeat (go_big_quiet_step (fail))
              refine wpQuiet_nil ?_
              obtain ⟨fn, tmps, assign, body, hy, hR⟩ := hY0 _ (s[k]'hlt) wr.drew hJ2 (by simp; omega)
              clear hck hJk hx hY0
              rename wr.drew.cell? ⟨b, 0, none⟩ = some (.string s) => hck
              gi_wp2
              refine hR.mono ?_
              rintro e W' (⟨rfl, hJ', hk'⟩ | ⟨rfl, hJx'⟩)
              · rw [hsnoc] at hJ'
                have hc' := (World.cell?_of_block (a := ⟨b, 0, none⟩) hk').trans hck
                gi_wp2
                go_roundw
                case rel => exact ⟨k + 1, by omega, by go_num, hJ', hc'⟩
                case measure => simp [intOf]; omega
              · gi_wp2
                refine bodyPost_ret (results_none rfl _ _ _) rfl ?_
                rw [hsnoc] at hJx'
                exact ⟨⟨_, rfl⟩, .inr ⟨_, List.take_prefix _ _, hJx'⟩⟩
          · clear e1 hY
            have d1 : 0 ≤ ((s[k]'hlt).toNat : Int) / 16 := by omega
            have d2 : ((s[k]'hlt).toNat : Int) / 16 < 16 := by omega
            have d3 : 0 ≤ ((s[k]'hlt).toNat : Int) % 16 := by omega
            have d4 : ((s[k]'hlt).toNat : Int) % 16 < 16 := by omega
            have hx := escB_hex (s[k]'hlt) (by simpa using h1) (by simpa using h2) (by omega)
            have hJ2 : J (s.data.toList.take k) wr.drew := hJ _ _ _ none hJk (drew_grown wr) (fun r e => by cases e)
            have hck2 : wr.drew.cell? ⟨b, 0, none⟩ = some (.string s) := hck
            gi_wp2
            refine wpIn_wide.2 (wp_region_drew (by kernel_rfl) (by kernel_rfl) ?_)
            repeat (go_big_quiet_step (fail))
            refine wpQuiet_nil ?_
            obtain ⟨fn, tmps, assign, body, hy, hR⟩ := hY0 _ (s[k]'hlt) wr.drew hJ2 (by simp; omega)
            clear hck hJk hx hY0
            rename wr.drew.cell? ⟨b, 0, none⟩ = some (.string s) => hck
            gi_wp2
            refine hR.mono ?_
            rintro e W' (⟨rfl, hJ', hk'⟩ | ⟨rfl, hJx'⟩)
            · rw [hsnoc] at hJ'
              have hc' := (World.cell?_of_block (a := ⟨b, 0, none⟩) hk').trans hck
              gi_wp2
              go_roundw
              case rel => exact ⟨k + 1, by omega, by go_num, hJ', hc'⟩
              case measure => simp [intOf]; omega
            · gi_wp2
              refine bodyPost_ret (results_none rfl _ _ _) rfl ?_
              rw [hsnoc] at hJx'
              exact ⟨⟨_, rfl⟩, .inr ⟨_, List.take_prefix _ _, hJx'⟩⟩
    · gi_wp2
      go_end0
      have : s.data.toList.take k = s.data.toList := List.take_of_length_le (by rw [size_data]; omega)
      rw [this] at hJk
      exact ⟨⟨_, rfl⟩, .inl (by first | exact hJk | exact ⟨_, rfl, hJk⟩)⟩
end Go.Proofs.YtpmheafccfnfjaaGreatDoor
namespace Go.Proofs.YtpmheafccfnfjaaGreatDoor
open Go Go.RowKit Go.Shelf
attribute [local go_sem] Oper.semAt_some
set_option maxHeartbeats 1000000 in
theorem escaped_ret (s : ByteArray) (w : World) : Calls Tryz.prog 189 #[.string s] w fun e w' => e = .returned (.func (.func 205) #[] #[.pointer (some ⟨w.heap.size, 0, none⟩)]) ∧ w' = w.alloc (.cells #[.string s] 9) := by
  go_enter Tryz.func189, Tryz.ntmps189
  go_wp2
  refine bodyPost_ret (v := .func (.func 205) #[] #[.pointer (some ⟨w.heap.size, 0, none⟩)]) (by simp [results, Tryz.results189, go_sem]) rfl ?_
  exact ⟨rfl, rfl⟩
theorem bld_kept {B b : Nat} {bs : List Value} {W W' : World} {row : Option Nat} (h : Bld B b bs W) (hg : W.grownBy W' row) (hr : ∀ r, row = some r → ∃ o : Obj, W.heap[r]? = some o ∧ o.isCells = false) : Bld B b bs W' := by
  have H : ∀ p, Lib.BuilderAt TB 5 B b p bs W → Lib.BuilderAt TB 5 B b p bs W' := by
    rintro p ⟨h1, v, h2, h3, h4⟩
    have hne : ∀ k o, W.heap[k]? = some o → o.isCells = true → some k ≠ row := fun k o ho hc e => by
      obtain ⟨o', ho', hc'⟩ := hr k e.symm
      rw [ho] at ho'
      cases ho'
      rw [hc] at hc'
      cases hc'
    refine ⟨h1, v, ?_, h3.kept hg ?_, h4⟩
    · rw [hg.block b (Array.getElem?_eq_some_iff.1 h2).1 (hne b _ h2 rfl)]; exact h2
    · cases hv : v.ownBlock with
      | none => exact .inl rfl
      | some j =>
        right
        rcases h3.2 with ⟨rfl, _⟩ | ⟨g, cap, cur, rfl, _, hh, _⟩
        · simp [Value.ownBlock] at hv
        · have : g = j := by simpa [Value.ownBlock] using hv
          subst this
          exact hne g _ hh rfl
  exact h.imp (H _) (H _)
theorem obj_kept {W W' : World} {row : Option Nat} {k : Nat} {o : Obj} (h : W.heap[k]? = some o) (ho : o.isCells = true) (hg : W.grownBy W' row) (hr : ∀ r, row = some r → ∃ o : Obj, W.heap[r]? = some o ∧ o.isCells = false) : W'.heap[k]? = some o := by
  rw [hg.block k (Array.getElem?_eq_some_iff.1 h).1 (fun e => by
    obtain ⟨o', ho', hc'⟩ := hr k e.symm
    rw [h] at ho'
    cases ho'
    rw [ho] at hc'
    cases hc')]
  exact h
theorem strCells_st (l : Bs) : Lib.strCells (st l) = Lib.byteCells l := by simp [Lib.strCells, Lib.byteCells, st]
def escL (l : Bs) : Bs := l.flatMap escB
theorem escB_len (c : UInt8) : (escB c).length ≤ 4 := by unfold escB; split <;> (try split) <;> simp
theorem escL_len (l : Bs) : (escL l).length ≤ 4 * l.length := by
  induction l with
  | nil => simp [escL]
  | cons c t ih =>
    have := escB_len c
    simp only [escL, List.flatMap_cons, List.length_append, List.length_cons] at ih ⊢
    omega
/-- A text as it is written. -/
def quoted (l : Bs) : Bs := 34 :: (escL l ++ [34])
theorem written_int (n : Int) (s : ByteArray) (w : World) (h0 : -9223372036854775808 ≤ n) (h1 : n ≤ 9223372036854775807) (hg : Glob w) :
    Calls Tryz.prog 169 #[vv 1 n s] w (Ret w (.string (itoaS n))) := by
  have H := Lib.hid (fun W hW => itoa_ret n W h0 h1 hW)
  clear h0 h1
  have G := Lib.hid (hg.alloc (.cells #[.int .i64 1, .int .i64 n, .string s] 53))
  go_enter Tryz.func169, Tryz.ntmps169
  go_wp2_with (go_at_call 156; refine Calls_ret (H.out _ G.out) ?_; intro x1)
  go_ret
  exact ret_of rfl (((Kp.refl _).alloc _).more _)
abbrev wVal (w : World) (k n : Int) (s : ByteArray) : World := w.alloc (.cells #[.int .i64 k, .int .i64 n, .string s] 53)
theorem wbyte0 (k n : Int) (s : ByteArray) (w : World) : Calls Tryz.prog 188 #[.pointer (some ⟨w.heap.size + 1, 0, none⟩), .int .u8 34] ((wVal w k n s).alloc (.cells #[.pointer none, .slice none 0 0] TB))
    fun e w1 => e = .returned .nilIface ∧ Bld (w.heap.size + 1) (w.heap.size + 1) (Lib.byteCells [34]) w1 ∧ w1.cell? ⟨w.heap.size, 2, none⟩ = some (.string s) ∧ Below w.heap.size w w1 := by
  have hf : Bld (w.heap.size + 1) (w.heap.size + 1) [] ((wVal w k n s).alloc (.cells #[.pointer none, .slice none 0 0] TB)) := by
    have := Lib.fresh_isBuilder TB 5 (wVal w k n s)
    simpa using this
  have hv0 : ((wVal w k n s).alloc (.cells #[.pointer none, .slice none 0 0] TB)).heap[w.heap.size]? = some (.cells #[.int .i64 k, .int .i64 n, .string s] 53 (0, 0)) := by
    rw [Lib.alloc_old _ _ _ (by simp)]
    exact World.alloc_heap_new w _
  refine (wbyte_ret _ _ [] 34 _ hf (by simp) (by simp)).mono ?_
  rintro e w1 ⟨rfl, hf1, hb1, _, ht1⟩
  refine ⟨rfl, hf1, by rw [Lib.cell_of_heap (ht1 _ _ _ _ hv0 (by decide) (by decide))]; rfl, (((Below.refl _ w).alloc (Nat.le_refl _) _).alloc (by simp) _).trans (hb1.mono (by omega))⟩
theorem Below.to_kp {w w' : World} (h : Below w.heap.size w w') : Kp w w' := .of_below h
set_option maxHeartbeats 2000000 in
set_option maxRecDepth 100000 in
theorem written_text (k n : Int) (s : ByteArray) (w : World) (hk : (k == 1) = false) (hs : s.size ≤ 1000000) :
    Calls Tryz.prog 169 #[vv k n s] w (Ret w (.string (st (quoted s.data.toList)))) := by
  refine callsIn_wide (n := 9) |>.1 ?_
  refine callsIn_of_wp_marks Tryz.func169 rfl trivial ?_ rfl
  simp only [Tryz.ntmps169, List.size_toArray, List.length_cons, List.length_nil, Nat.reduceAdd, Nat.reduceSub, Array.replicate_succ, Array.replicate_zero, List.push_toArray, List.append_toArray, List.nil_append, List.cons_append]
  gi_wp2_with (first | (refine ⟨trivial, ?_⟩; gi_at_call 188; refine (callsIn_wide.2 (wbyte0 k n s w)).mono ?_; rintro e w1 ⟨rfl, hf1, c2, hB1⟩) | (refine ⟨trivial, ?_⟩; gi_at_call 189; refine (callsIn_wide.2 (escaped_ret s _)).mono ?_; rintro e w2 ⟨rfl, rfl⟩))
  have hnew : (w1.alloc (.cells #[.string s] 9)).heap[w1.heap.size]? = some (.cells #[.string s] 9 (0, 0)) := World.alloc_heap_new _ _
  have hlt1 : w.heap.size + 1 < w1.heap.size := by
    rcases hf1 with ⟨_, v, h, _⟩ | ⟨_, v, h, _⟩ <;> exact (Array.getElem?_eq_some_iff.1 h).1
  refine wpIn_rangeFunc_ownF rfl (by decide) (gf := 205) (lb := #[.pointer (some ⟨w1.heap.size, 0, none⟩)]) rfl trivial (enters_of Tryz.func205 (by kernel_rfl) rfl)
    (esc_it w1.heap.size s (by omega) _ (by simp) (by rw [Lib.cell_of_heap hnew]; rfl)) (fun h k => k.trans h)
    (fun W l o o' hl h _ _ => (grownBy_putObj' W l o').block _ (by have := (Array.getElem?_eq_some_iff.1 h).1; simp at hl; omega) (fun e => by cases e; simp at hl; omega)) (Below.refl _ _) (fun _ => rfl)
    (fun pre W => (Bld (w.heap.size + 1) (w.heap.size + 1) (Lib.byteCells (34 :: escL pre)) W ∧ W.heap[w1.heap.size]? = some (.cells #[.string s] 9 (0, 0))) ∧ Below w.heap.size w W)
    (fun _ _ _ => False)
    (OwnFrom.and (Own.from (fun s A B row hs hg hr => ⟨bld_kept hs.1 hg hr, obj_kept hs.2 rfl hg hr⟩) _) (ownFrom_below (Nat.le_refl _) (by simp; omega)))
    (fun _ _ _ _ _ hs _ _ => hs)
    ⟨⟨bld_kept hf1 (World.grownBy_alloc _ _ none) (fun r e => by cases e), hnew⟩, hB1.alloc hB1.size _⟩
    (fun x => { tmps := #[vv k n s, .pointer (some ⟨w.heap.size, 0, none⟩), .string ⟨#[]⟩, .pointer (some ⟨w.heap.size + 1, 0, none⟩), .string (st (escB x)), .pointer (some ⟨w.heap.size, 0, none⟩), .int .i64 k, .bool false, undef, undef, undef, .nilIface, .pointer (some ⟨w.heap.size, 2, none⟩), .string s, .func (.func 205) #[] #[.pointer (some ⟨w1.heap.size, 0, none⟩)], .string (st (escB x)), undef, undef, undef, undef], defers := [] }) ?assign ?body ?done ?stop
  case assign =>
    intro l x W K hK
    gi_wp2
    exact hK
  case body =>
    rintro l pre x W ⟨⟨hb, hx⟩, hB⟩ hlen
    have hl1 := escL_len pre
    have hl2 := escB_len x
    gi_wp2_with (refine ⟨trivial, ?_⟩; gi_at_call 190; refine (CallsIn.inRound l (callsIn_wide.2 (wstr_ret _ _ _ (st (escB x)) _ hb (by rw [st_size]; simp [Lib.byteCells]; omega) (by have := hB.size; have := (Array.getElem?_eq_some_iff.1 hx).1; omega)))).mono ?_; rintro e w' ⟨rfl, hb', hB', ho', ht'⟩)
    have hx' := ht' _ _ _ _ hx (by decide) (by decide)
    refine ⟨ho', hx'.trans hx.symm, ⟨?_, hx'⟩, hB.trans (hB'.mono (Nat.le_succ _))⟩
    rw [strCells_st] at hb'
    have e : Lib.byteCells (34 :: escL (pre ++ [x])) = Lib.byteCells (34 :: escL pre) ++ Lib.byteCells (escB x) := by simp [Lib.byteCells, escL]
    rw [e]
    exact hb'
  case done =>
    rintro D ys W hD rfl ⟨⟨hb, hx⟩, hB⟩ hK
    have hl := escL_len s.data.toList
    have hsz := size_data s
    have hWs : w.heap.size + 1 ≤ W.heap.size := by have := (Array.getElem?_eq_some_iff.1 hx).1; omega
    have hlen : (Lib.byteCells (34 :: escL s.data.toList)).length + 1 ≤ 140737488355328 := by simp [Lib.byteCells]; omega
    have e1 : Lib.byteCells (34 :: escL s.data.toList) ++ [.int .u8 34] = Lib.byteCells (quoted s.data.toList) := by simp [Lib.byteCells, quoted]
    have HB := wbyte_ret _ _ _ 34 W hb hlen hWs
    rw [e1] at HB
    have HB2 : Calls Tryz.prog 188 #[.pointer (some ⟨w.heap.size + 1, 0, none⟩), .int .u8 34] W fun e w' => e = .returned .nilIface ∧ Bld (w.heap.size + 1) (w.heap.size + 1) (Lib.byteCells (quoted s.data.toList)) w' ∧ Below w.heap.size w w' ∧ w'.heap[D]? = some (.deferred (some [])) ∧ w.heap.size + 1 ≤ w'.heap.size :=
      HB.mono fun e w' ⟨h1, h2, h3, h4, h5⟩ => ⟨h1, h2, hB.trans (h3.mono (Nat.le_succ _)), h4.same D _ hK rfl, Nat.le_trans hWs h3.size⟩
    have HS : ∀ W2, Bld (w.heap.size + 1) (w.heap.size + 1) (Lib.byteCells (quoted s.data.toList)) W2 → Below w.heap.size w W2 → W2.heap[D]? = some (.deferred (some [])) → w.heap.size + 1 ≤ W2.heap.size →
        Calls Tryz.prog 191 #[.pointer (some ⟨w.heap.size + 1, 0, none⟩)] W2 fun e w' => e = .returned (.string (st (quoted s.data.toList))) ∧ Below w.heap.size w w' ∧ w'.heap[D]? = some (.deferred (some [])) :=
      fun W2 h1 h2 h3 h4 => (bstr_ret _ _ _ W2 h1 h4).mono fun e w' ⟨k1, k2, k3⟩ => ⟨k1, h2.trans (k2.mono (Nat.le_succ _)), k3 D _ h3 (fun e => by cases e; simp at hD; omega) (fun _ _ e => by cases e)⟩
    clear hb hx hK HB hlen hl
    gi_wp2_with (first | (refine ⟨trivial, ?_⟩; gi_at_call 188; refine (callsIn_wide.2 HB2).mono ?_; clear HB2; rintro e w2 ⟨rfl, hb2, hB2, hK2, hz2⟩) | (refine ⟨trivial, ?_⟩; gi_at_call 191; refine (callsIn_wide.2 (HS _ hb2 hB2 hK2 hz2)).mono ?_; clear HS; rintro e w3 ⟨rfl, hB3, hK3⟩))
    refine ⟨by simp, .inl ⟨_, _, rfl, run_takeDeferred hK3, ?_⟩⟩
    exact ⟨_, results_tmp rfl _ _ _, rfl, .of_below (hB3.trans (belowK_b (w := w) (Nat.le_refl _) _ D _ _ (by simp at hD; omega) hK3 rfl rfl))⟩
  case stop =>
    rintro D c pre W _ _ h _
    exact h.elim
/-- A value as it is written. -/
def wrV (k n : Int) (s : ByteArray) : ByteArray := if k = 1 then itoaS n else st (quoted s.data.toList)
theorem written_ret (k n : Int) (s : ByteArray) (w : World) (h : validV k n s = true) (hg : Glob w) : Calls Tryz.prog 169 #[vv k n s] w (Ret w (.string (wrV k n s))) := by
  have h' := of_decide_eq_true h
  unfold wrV
  rcases h' with ⟨rfl, _, h1, h2⟩ | ⟨rfl, rfl, h1⟩
  · rw [if_pos rfl]
    exact written_int n s w (by omega) (by omega) hg
  · rw [if_neg (by decide)]
    exact written_text _ _ s w (by decide) (by omega)
end Go.Proofs.YtpmheafccfnfjaaGreatDoor
namespace Go.Proofs.YtpmheafccfnfjaaGreatDoor
open Go Go.RowKit
/-- A value: kind, number, text. -/
structure Vl where
  k : Int
  n : Int
  s : ByteArray
abbrev Vl.v (x : Vl) : Value := vv x.k x.n x.s
def Vl.ok (x : Vl) : Bool := validV x.k x.n x.s
def vl0 : Vl := ⟨0, 0, ByteArray.empty⟩
/-- Cells of a row at ⟨b, o⟩. -/
def RowC (w : World) (b o : Nat) (l : List Vl) : Prop := ∀ j, j < l.length → w.cell? ⟨b, o + j * 3, none⟩ = some (.int .i64 (l.getD j vl0).k) ∧ w.cell? ⟨b, o + j * 3 + 1, none⟩ = some (.int .i64 (l.getD j vl0).n) ∧ w.cell? ⟨b, o + j * 3 + 2, none⟩ = some (.string (l.getD j vl0).s)
/-- A row that is read. -/
def RowIs (w : World) (v : Value) (l : List Vl) : Prop :=
  l.length ≤ 1000000 ∧ ∃ a c, v = .slice a l.length c ∧ (l = [] ∨ ∃ b o, a = some ⟨b, o, none⟩ ∧ b < w.heap.size ∧ RowC w b o l)
theorem RowC.kp {w x : World} {b o : Nat} {l : List Vl} (h : RowC w b o l) (k : Kp w x) (hb : b < w.heap.size) : RowC x b o l := fun j hj => by
  obtain ⟨h1, h2, h3⟩ := h j hj
  refine ⟨?_, ?_, ?_⟩
  · rw [← h1]; exact World.cell?_of_block (a := ⟨b, _, none⟩) (k.block _ hb)
  · rw [← h2]; exact World.cell?_of_block (a := ⟨b, _, none⟩) (k.block _ hb)
  · rw [← h3]; exact World.cell?_of_block (a := ⟨b, _, none⟩) (k.block _ hb)
theorem RowIs.kp {w x : World} {v : Value} {l : List Vl} (h : RowIs w v l) (k : Kp w x) : RowIs x v l := by
  obtain ⟨hm, a, c, rfl, h | ⟨b, o, rfl, hb, hc⟩⟩ := h
  · exact ⟨hm, a, c, rfl, .inl h⟩
  · exact ⟨hm, _, c, rfl, .inr ⟨b, o, rfl, Nat.lt_of_lt_of_le hb k.size, hc.kp k hb⟩⟩
theorem vrow1_ret (x : Vl) (w : World) : Calls Tryz.prog 187 #[x.v] w (Ret w (.bool (!x.ok))) := by
  have H := Lib.hid (valid_ret x.k x.n x.s)
  unfold Vl.ok
  generalize validV x.k x.n x.s = r at *
  go_enter Tryz.func187, Tryz.ntmps187
  go_wp2_with (go_at_call 83; refine Calls_ret (H.out _) ?_; intro x1)
  go_ret
  exact ret_of rfl (((Kp.refl _).alloc _).more _)
set_option maxHeartbeats 400000 in
set_option maxRecDepth 100000 in
theorem ixf_some (l : List Vl) (b o c : Nat) (w : World) (hl : l.length ≤ 1000000) (hb : b < w.heap.size) (hc : RowC w b o l) :
    Calls Tryz.prog 203 #[.slice (some ⟨b, o, none⟩) l.length c, .func (.func 187) #[] #[]] w (Ret w (.int .i64 (idxP (fun x => !x.ok) l))) := by
  have HC := Lib.hid hc
  clear hc
  go_enter Tryz.func203, Tryz.ntmps203
  go_wp2
  go_loopw [8] (fun i wr => ∃ (k : Nat) (x : World), k ≤ l.length ∧ i = .int .i64 k ∧ wr = xt w x ∧ Hid (∀ j (hj : j < l.length), j < k → (l[j]).ok = true)) (fun i _ => l.length - (intOf i).toNat)
  case atStart => exact ⟨0, w, Nat.zero_le _, rfl, by rw [xt, if_pos (Kp.refl w)], fun j _ h => absurd h (Nat.not_lt_zero _)⟩
  case round =>
    obtain ⟨k, x, hk, rfl, rfl, HN⟩ := hrel
    by_cases hlt : k < l.length
    · obtain ⟨g1, g2, g3⟩ := HC.out k hlt
      have HV := Lib.hid (vrow1_ret (l[k]'hlt))
      cases hv : (l[k]'hlt).ok
      · rw [hv] at HV
        go_wp2_with (go_at_call 187; refine Calls_ret (HV.out _) ?_; intro x1)
        go_ret
        exact ret_of (v_int (idxP_hit hlt (by simp [hv]) (fun j hj => by simp [HN.out j (by omega) hj])).symm) (kp_xt _ _)
      · rw [hv] at HV
        go_wp2_with (go_at_call 187; refine Calls_ret (HV.out _) ?_; intro x1)
        go_roundw
        case rel =>
          refine ⟨k + 1, _, by omega, by go_num, rfl, fun j hj hjk => ?_⟩
          rcases Nat.lt_succ_iff_lt_or_eq.1 hjk with h | rfl
          · exact HN.out j hj h
          · exact hv
        case measure => simp [intOf]; omega
    · go_wp2
      go_ret
      exact ret_of (v_int (idxP_miss fun j hj => by simp [HN.out j hj (by omega)]).symm) (kp_xt _ _)
theorem ixf_nil (a : Option Addr) (c : Nat) (w : World) :
    Calls Tryz.prog 203 #[.slice a 0 c, .func (.func 187) #[] #[]] w (Ret w (.int .i64 (-1))) := by
  go_enter Tryz.func203, Tryz.ntmps203
  go_wp2
  go_loop [8] (fun i => i = .int .i64 0) (fun _ => 0)
  case atStart => rfl
  case round =>
    subst hrel
    go_wp2
    go_ret
    exact ret_of rfl (Kp.refl _)
theorem ixf_ret (l : List Vl) (v : Value) (w : World) (h : RowIs w v l) :
    Calls Tryz.prog 203 #[v, .func (.func 187) #[] #[]] w (Ret w (.int .i64 (idxP (fun x => !x.ok) l))) := by
  obtain ⟨hm, a, c, rfl, rfl | ⟨b, o, rfl, hb, hc⟩⟩ := h
  · exact ixf_nil a c w
  · exact ixf_some l b o c w hm hb hc
theorem idxP_any {α : Type} (p : α → Bool) (l : List α) : decide (0 ≤ idxP p l) = l.any p := by
  unfold idxP
  cases h : l.findIdx? p with
  | none =>
    rw [List.findIdx?_eq_none_iff] at h
    have : l.any p = false := List.any_eq_false.2 (fun x hx => by simpa using h x hx)
    rw [this]
    rfl
  | some i =>
    obtain ⟨hi, hp, _⟩ := List.findIdx?_eq_some_iff_getElem.1 h
    have : l.any p = true := List.any_eq_true.2 ⟨_, List.getElem_mem hi, hp⟩
    rw [this]
    simp
theorem ctf_ret (l : List Vl) (v : Value) (w : World) (h : RowIs w v l) :
    Calls Tryz.prog 186 #[v, .func (.func 187) #[] #[]] w (Ret w (.bool (l.any (fun x => !x.ok)))) := by
  have H := Lib.hid (ixf_ret l v w h)
  have he := idxP_any (fun x : Vl => !x.ok) l
  rw [← he]
  clear he h
  generalize idxP (fun x : Vl => !x.ok) l = k at *
  go_enter Tryz.func186, Tryz.ntmps186
  go_wp2_with (go_at_call 203; refine Calls_ret H.out ?_; intro x1)
  go_ret
  exact ret_of rfl (kp_xt _ _)
def rowOK (l : List Vl) : Bool := decide (l.length ≤ 8) && l.all Vl.ok
theorem vrow_ret (l : List Vl) (v : Value) (w : World) (h : RowIs w v l) : Calls Tryz.prog 168 #[v] w (Ret w (.bool (rowOK l))) := by
  have H := Lib.hid (ctf_ret l v w h)
  have he : (!(l.any fun x => !x.ok)) = l.all Vl.ok := by rw [List.any_eq_not_all_not]; simp
  unfold rowOK
  rw [← he]
  clear he
  generalize (l.any fun x => !x.ok) = r at *
  obtain ⟨hm, a, c, rfl, _⟩ := h
  by_cases h8 : l.length ≤ 8
  all_goals
    go_enter Tryz.func168, Tryz.ntmps168
    go_wp2_with (go_at_call 186; refine Calls_ret H.out ?_; intro x1)
    go_ret
    first | exact ret_of (v_bool (by simp [h8])) (kp_xt _ _) | exact ret_of (v_bool (by simp [h8])) (Kp.refl _)
end Go.Proofs.YtpmheafccfnfjaaGreatDoor
namespace Go.Proofs.YtpmheafccfnfjaaGreatDoor
open Go Go.RowKit
theorem sInfo : (Tryz.prog.info? 9).map (fun i => (i.zero, i.size, i.bytes)) = some (some (.string ⟨#[]⟩), 1, 16) := by kernel_rfl
/-- Texts in a row of the call's own, from B on. -/
def OwnT (B : Nat) (w : World) (v : Value) (l : List ByteArray) : Prop := w.ownsRow B 9 1 v l.length (l.map Value.string)
theorem kp_grown {w x : World} (k : Kp w x) : w.grownBy x none := ⟨k.os, k.tape, k.output, k.size, fun i hi _ => k.block i hi⟩
theorem owns_kp {w x : World} {B size n : Nat} {e : TypeId} {v : Value} {xs : List Value} (h : w.ownsRow B e size v n xs) (k : Kp w x) : x.ownsRow B e size v n xs :=
  h.kept (kp_grown k) (by cases hv : v.ownBlock with | none => exact .inl rfl | some j => exact .inr (by simp))
theorem OwnT.kp {w x : World} {B : Nat} {v : Value} {l : List ByteArray} (h : OwnT B w v l) (k : Kp w x) : OwnT B x v l := owns_kp h k
theorem owns_shape {w : World} {base : Nat} {e : TypeId} {size : Nat} {v : Value} {n : Nat} {xs : List Value} (h : w.ownsRow base e size v n xs) : ∃ a c, v = .slice a n c := by
  rcases h.2 with ⟨rfl, rfl⟩ | ⟨g, cap, cur, rfl, _⟩
  · exact ⟨_, _, rfl⟩
  · exact ⟨_, _, rfl⟩
/-- What is grown of a world's own row lies beyond. -/
theorem kp_grownBy {w W W' : World} {row : Option Nat} (h : Kp w W) (hg : W.grownBy W' row) (hr : ∀ k, row = some k → w.heap.size ≤ k) : Kp w W' :=
  h.below.grown hg h.size hr |> .of_below
/-- Texts in a row of one's own, as a slice that is read. -/
theorem OwnT.cells {B : Nat} {w : World} {a : Option Addr} {c n : Nat} {l : List ByteArray} (h : OwnT B w (.slice a n c) l) : n = l.length ∧ (l = [] ∨ ∃ b, a = some ⟨b, 0, none⟩ ∧ B ≤ b ∧ b < w.heap.size ∧ l.length ≤ c ∧ ∀ (j : Nat) x, l[j]? = some x → w.cell? ⟨b, 0 + j, none⟩ = some (.string x)) := by
  rcases h.2 with ⟨hv, hn⟩ | ⟨g, cap, cur, hv, hB, hg, h1, h2, h3, h4⟩
  · cases hv
    exact ⟨hn.symm, .inl (List.eq_nil_of_length_eq_zero hn)⟩
  · cases hv
    refine ⟨rfl, .inr ⟨g, rfl, hB, (Array.getElem?_eq_some_iff.1 hg).1, h1, fun j x hx => ?_⟩⟩
    have hj : j < l.length := (List.getElem?_eq_some_iff.1 hx).1
    rw [Lib.cell_of_heap hg, Nat.zero_add]
    have : (cur.toList.take (l.length * 1))[j]? = (l.map Value.string)[j]? := by rw [h4]
    rw [List.getElem?_take_of_lt (by omega), List.getElem?_map, hx] at this
    simpa using this
/-- 'append(l, t)' to texts of one's own. -/
theorem app_text {ops : Array Oper} {rest : List Oper} {o : Oper} {a : Act} {Q : Exit → Act → World → Prop} (hgd : o.guard = none) (s x : Operand)
    (ho : o.op = .call { callee := .builtin .append, args := #[s, x], argTypes := #[27, 27] }) {w W : World} (hW : Kp w W) {v : Value} {L : List ByteArray} (hs : a.eval s = v)
    (hown : OwnT w.heap.size W v L) (t : ByteArray) (hx : a.eval x = .slice (some ⟨W.heap.size, 0, none⟩) 1 1) (hl : L.length + 1 ≤ 1000000)
    (h : ∀ g c y, OwnT w.heap.size (xt w y) (.slice (some ⟨g, 0, none⟩) (L.length + 1) c) (L ++ [t]) → wpList Tryz.prog ops Q rest (a.put o.dst (.slice (some ⟨g, 0, none⟩) (L.length + 1) c)) (xt w y)) :
    wpList Tryz.prog ops Q (o :: rest) a (W.alloc (.cells #[.string t] 9)) := by
  obtain ⟨i0, hi, hz0, hz1, hz2⟩ := info_parts sInfo
  refine wpList_append_own _ hgd s x 27 ho w.heap.size 9 i0 (.string ⟨#[]⟩) 1 16 Tryz.underlying27 hi hz0 hz1 hz2 rfl (by decide) v L.length (L.map Value.string) hs (hown.kp ((Kp.refl _).alloc _)) ⟨W.heap.size, 0, none⟩ 1 1 [.string t] hx rfl ?c1 ?c2 ?c3 ?c4 ?c5 ?_
  case c1 =>
    intro j u hj
    match j, hj with
    | 0, hj => simp at hj; subst hj; simp [Addr.add]
  case c2 => intro u hu; simp at hu; subst hu; rfl
  case c3 => unfold maxLen; omega
  case c4 => omega
  case c5 => have := hW.size; simp; omega
  intro v' w' hown' hgrow _
  have hk := kp_grownBy (hW.alloc _) hgrow (fun k hk => (hown.lt k hk).1)
  obtain ⟨y, rfl⟩ := hk.toXt
  obtain ⟨g, cap, rfl⟩ : ∃ g cap, v' = .slice (some ⟨g, 0, none⟩) (L.length + 1) cap := by
    rcases hown'.2 with ⟨_, h0⟩ | ⟨g, cap, cur, hv, _⟩
    · omega
    · exact ⟨g, cap, hv⟩
  exact h g cap y (by unfold OwnT; simpa using hown')
def wrX (x : Vl) : ByteArray := wrV x.k x.n x.s
/-- A row as it is written. -/
def textR (l : List Vl) : ByteArray := if rowOK l then ⟨(Lib.join (l.map (fun x => (wrX x).data.toList)) [44]).toArray⟩ else ⟨#[]⟩
theorem itoa_len (n : Int) (h0 : -1000000000 ≤ n) (h1 : n ≤ 1000000000) : (itoaS n).size ≤ 1000 := by
  have := Lib.itoa_length_le n (by omega) (by omega)
  have e : (itoaS n).size = (Lib.itoa n).length := by simp [itoaS, ByteArray.size]
  omega
theorem wrX_len {x : Vl} (h : x.ok = true) : (wrX x).size ≤ 1000 := by
  have h' := of_decide_eq_true h
  unfold wrX wrV
  rcases h' with ⟨h1, _, h2, h3⟩ | ⟨h1, _, h2⟩
  · rw [if_pos h1]
    exact itoa_len _ h2 h3
  · rw [if_neg (by omega), st_size, quoted]
    have := escL_len x.s.data.toList
    have := size_data x.s
    simp
    omega
theorem join_len {ls : List Bs} {m : Nat} (h : ∀ x ∈ ls, x.length ≤ m) (sep : Bs) : (Lib.join ls sep).length ≤ ls.length * (m + sep.length) := by
  have H : ∀ r : List Bs, (∀ x ∈ r, x.length ≤ m) → (Lib.joinTail sep r).length ≤ r.length * (m + sep.length) := by
    intro r hr
    induction r with
    | nil => simp [Lib.joinTail]
    | cons y r ih =>
      have h1 := hr y (by simp)
      have h2 := ih fun x hx => hr x (List.mem_cons_of_mem _ hx)
      simp only [Lib.joinTail, List.map_cons, List.flatten_cons, List.length_append, List.length_cons] at h2 ⊢
      rw [Nat.add_mul]
      omega
  cases ls with
  | nil => simp [Lib.join_nil]
  | cons y r =>
    rw [Lib.join_cons]
    have h1 := h y (by simp)
    have h2 := H r fun x hx => h x (List.mem_cons_of_mem _ hx)
    simp only [List.length_append, List.length_cons]
    rw [Nat.add_mul]
    omega
set_option maxHeartbeats 1000000 in
set_option maxRecDepth 100000 in
theorem text_ok (l : List Vl) (b o c : Nat) (w : World) (hb : b < w.heap.size) (hc : RowC w b o l) (hok : rowOK l = true) (hg : Glob w) (hl : 0 < l.length) :
    Calls Tryz.prog 133 #[.slice (some ⟨b, o, none⟩) l.length c] w (Ret w (.string (textR l))) := by
  have h8 : l.length ≤ 8 := by
    have := (Bool.and_eq_true _ _ ▸ hok).1
    exact of_decide_eq_true this
  have hall : ∀ (j : Nat) (hj : j < l.length), (l[j]).ok = true := fun j hj => (List.all_eq_true.1 (Bool.and_eq_true _ _ ▸ hok).2) _ (List.getElem_mem hj)
  have HR := vrow_ret l _ w ⟨by omega, _, c, rfl, .inr ⟨b, o, rfl, hb, hc⟩⟩
  rw [hok] at HR
  have HR' := Lib.hid HR
  clear HR
  have HC := Lib.hid hc
  have HG := Lib.hid hg
  have HA := Lib.hid hall
  have HX : Hid (textR l = ⟨(Lib.join (l.map (fun x => (wrX x).data.toList)) [44]).toArray⟩) := by show textR l = _; rw [textR, if_pos hok]
  clear hc hok hg hall
  generalize textR l = T at *
  obtain ⟨i0, hi, hz0, hz1, hz2⟩ := info_parts sInfo
  go_enter Tryz.func133, Tryz.ntmps133
  go_wp2_with (go_at_call 168; refine Calls_ret HR'.out ?_; intro x1)
  go_loopw [3, 11] (fun v i wr => ∃ (k : Nat) (x : World), k ≤ l.length ∧ i = .int .i64 k ∧ wr = xt w x ∧ Hid (OwnT w.heap.size (xt w x) v ((l.take k).map wrX))) (fun _ i _ => l.length - (intOf i).toNat)
  case atStart => exact ⟨0, x1, Nat.zero_le _, rfl, rfl, World.ownsRow_nil _ _ _ _⟩
  case round =>
    obtain ⟨k, x, hk, rfl, rfl, HO⟩ := hrel
    obtain ⟨a, n, cc, rfl⟩ : ∃ a n cc, u3 = Value.slice a n cc := by obtain ⟨a, cc, e⟩ := owns_shape HO.out; exact ⟨a, _, cc, e⟩
    by_cases hlt : k < l.length
    · obtain ⟨g1, g2, g3⟩ := HC.out k hlt
      have HV := Lib.hid (fun W hG => written_ret (l[k]'hlt).k (l[k]'hlt).n (l[k]'hlt).s W (HA.out k hlt) hG)
      go_wp2_with (first | (go_at_call 169; refine Calls_ret (HV.out _ (((HG.out.xt _).alloc _))) ?_; intro x2) | (at_builtin; refine app_text rfl _ _ rfl (((kp_xt w x).alloc _).more x2) rfl ((HO.out.kp ((Kp.refl _).alloc _)).kp (kp_xt _ x2)) (wrV (l[k]'hlt).k (l[k]'hlt).n (l[k]'hlt).s) rfl (by simp; omega) ?_; intro g' c' y HN))
      go_roundw
      case rel =>
        refine ⟨k + 1, y, by omega, by go_num, rfl, ?_⟩
        rw [List.take_succ_eq_append_getElem hlt, List.map_append]
        have e : (List.map wrX (l.take k)).length = k := by simp; omega
        rw [e] at HN
        exact HN
      case measure => simp [intOf]; omega
    · have hkl : k = l.length := by omega
      obtain ⟨hn, hcs⟩ := HO.out.cells
      have HJ : Hid (∀ W : World, Calls Tryz.prog 170 #[.slice a n cc, .string ⟨#[44]⟩] (xt w x) (Ret (xt w x) (.string T))) := by
        intro W
        subst hkl
        rw [List.take_length] at hn hcs
        rcases hcs with h | ⟨b', rfl, _, hb', hc', hcc⟩
        · rw [List.map_eq_nil_iff.1 h] at hl; simp at hl
        · have hj : (Lib.join ((l.map wrX).map (·.data.toList)) [44]).length ≤ 140737488355328 := by
            have := join_len (ls := (l.map wrX).map (·.data.toList)) (m := 1000) (by
              intro y hy
              simp only [List.mem_map] at hy
              obtain ⟨_, ⟨v, hv, rfl⟩, rfl⟩ := hy
              obtain ⟨j, hj, rfl⟩ := List.getElem_of_mem hv
              rw [size_data]
              exact wrX_len (HA.out j hj)) [44]
            simp at this ⊢
            omega
          subst hn
          rw [HX.out]
          have := Tryz.strings_Join b' 0 cc (l.map wrX) ⟨#[44]⟩ (xt w x) hcc hb' (by simp; omega) hc' hj
          refine this.mono fun e w' ⟨h1, h2⟩ => ⟨?_, .of_below h2⟩
          rw [h1, List.map_map]
          rfl
      clear hn hcs HO
      go_wp2_with (go_at_call 170; refine Calls_ret (HJ.out w) ?_; intro x2)
      go_ret
      exact ret_of rfl (kp_xt _ _)
set_option maxRecDepth 100000 in
theorem text_nil (a : Option Addr) (c : Nat) (w : World) : Calls Tryz.prog 133 #[.slice a 0 c] w (Ret w (.string (textR []))) := by
  have HR := vrow_ret [] (.slice a 0 c) w ⟨by simp, _, c, rfl, .inl rfl⟩
  rw [show rowOK [] = true from rfl] at HR
  have HR' := Lib.hid HR
  clear HR
  rw [show textR [] = ⟨#[]⟩ from rfl]
  go_enter Tryz.func133, Tryz.ntmps133
  go_wp2_with (go_at_call 168; refine Calls_ret HR'.out ?_; intro x1)
  go_loopw [3, 11] (fun v i wr => v = .slice none 0 0 ∧ i = .int .i64 0 ∧ wr = xt w x1) (fun _ _ _ => 0)
  case atStart => exact ⟨rfl, rfl, rfl⟩
  case round =>
    obtain ⟨rfl, rfl, rfl⟩ := hrel
    have HJ := Lib.hid (Tryz.strings_Join_none none 0 ⟨#[44]⟩ (xt w x1))
    go_wp2_with (go_at_call 170; refine HJ.out.mono ?_; rintro e w' ⟨rfl, rfl⟩)
    go_ret
    exact ret_of rfl (kp_xt _ _)
theorem text_bad (l : List Vl) (v : Value) (w : World) (h : RowIs w v l) (hok : rowOK l = false) : Calls Tryz.prog 133 #[v] w (Ret w (.string (textR l))) := by
  have HR := vrow_ret l v w h
  rw [hok] at HR
  have HR' := Lib.hid HR
  have hT : textR l = ⟨#[]⟩ := by rw [textR, hok]; rfl
  rw [hT]
  clear HR h hok hT
  go_enter Tryz.func133, Tryz.ntmps133
  go_wp2_with (go_at_call 168; refine Calls_ret HR'.out ?_; intro x1)
  go_ret
  exact ret_of rfl (kp_xt _ _)
theorem text_ret (l : List Vl) (v : Value) (w : World) (h : RowIs w v l) (hg : Glob w) : Calls Tryz.prog 133 #[v] w (Ret w (.string (textR l))) := by
  cases hok : rowOK l
  · exact text_bad l v w h hok
  · obtain ⟨hm, a, c, rfl, rfl | ⟨b, o, rfl, hb, hc⟩⟩ := h
    · exact text_nil a c w
    · by_cases h0 : 0 < l.length
      · exact text_ok l b o c w hb hc hok hg h0
      · have : l = [] := List.eq_nil_of_length_eq_zero (by omega)
        subst this
        exact text_nil _ c w
end Go.Proofs.YtpmheafccfnfjaaGreatDoor
namespace Go.Proofs.YtpmheafccfnfjaaGreatDoor
open Go Go.RowKit
/-- The value of a hexadecimal digit; -1 if it is none. -/
def hexD (c : Int) : Int := if 48 ≤ c ∧ c ≤ 57 then c - 48 else if 97 ≤ c ∧ c ≤ 102 then c - 87 else if 65 ≤ c ∧ c ≤ 70 then c - 55 else -1
def lowZ (c : Int) : Int := bits .or .u8 c 32
theorem lowZ_eq : ∀ k : _root_.Fin 256, lowZ ((k.val : Nat) : Int) = (if (k.val / 32) % 2 = 1 then ((k.val : Nat) : Int) else ((k.val : Nat) : Int) + 32) := by decide +kernel
theorem lower_ret (c : Int) (w : World) : Calls Tryz.prog 219 #[.int .u8 c] w fun e w' => e = .returned (.int .u8 (lowZ c)) ∧ w = w' := (Tryz.internal_strconv_lower c w).mono fun e w' h => ⟨h.1, h.2.symm⟩
theorem lowZ_of {c : Int} (h0 : 0 ≤ c) (h1 : c < 256) : lowZ c = if (c.toNat / 32) % 2 = 1 then c else c + 32 := by
  have := lowZ_eq ⟨c.toNat, by omega⟩
  have e : ((c.toNat : Nat) : Int) = c := by omega
  simp only [e] at this
  exact this
noncomputable def bwx (w : World) (s : ByteArray) : World := Lib.bytesWorld w 5 s
theorem kp_bytes (w : World) (s : ByteArray) : Kp w (bwx w s) := by
  unfold bwx Lib.bytesWorld
  exact kp_freeze _ _ ((Kp.refl w).drew.alloc _) _ _ (Nat.le_refl _)
@[go_sem] theorem cv_bytes (w : World) (s : ByteArray) : (convert 9 189 (.string s)).run Tryz.prog w = .ok (.slice (some ⟨w.heap.size, 0, none⟩) s.size (grownCap w s.size 0 5)) (xt w (bwx w s)) := by
  rw [xt, if_pos (kp_bytes w s)]
  exact Lib.run_convert_string_bytes w _ _ _ s Tryz.underlying9 Tryz.underlying189 Tryz.underlying5
theorem bwx_cell (w : World) (s : ByteArray) (j : Nat) (h : j < s.size) : (xt w (bwx w s)).cell? ⟨w.heap.size, j, none⟩ = some (.int .u8 (bt s j)) := by
  rw [xt, if_pos (kp_bytes w s)]
  rw [bwx, Lib.bytesWorld_cell _ _ _ j h, bt_list h, List.getD_eq_getElem?_getD, List.getElem?_eq_getElem (by simpa using h)]
  rfl
/-- What has been read of two digits. -/
def hexA (s : ByteArray) (k : Nat) : Int := if k = 0 then 0 else if k = 1 then hexD (bt s 0) else 16 * hexD (bt s 0) + hexD (bt s 1)
theorem hexD_range (c : Int) : hexD c = -1 ∨ (0 ≤ hexD c ∧ hexD c < 16) := by
  unfold hexD
  split
  · omega
  · split
    · omega
    · split <;> omega
set_option maxHeartbeats 1000000 in
set_option maxRecDepth 100000 in
theorem ipu_ret (s : ByteArray) (w : World) (h1 : 1 < s.size) (h2 : s.size < 3) (R : Value)
    (hR : Hid (R = if hexD (bt s 0) = -1 ∨ hexD (bt s 1) = -1 then .tuple #[.int .u64 0, .iface 215 (.int .i64 2)] else .tuple #[.int .u64 (16 * hexD (bt s 0) + hexD (bt s 1)), .nilIface])) :
    Calls Tryz.prog 208 #[.string s, .int .i64 16, .int .i64 8] w (Ret w R) := by
  have hne := str_ne (s := s) (by omega)
  have HC := Lib.hid (bwx_cell w s)
  go_enter Tryz.func208, Tryz.ntmps208
  go_wp2
  go_loopw [12, 13, 101] (fun u n i wr => ∃ k : Nat, k ≤ s.size ∧ u = .bool false ∧ n = .int .u64 (hexA s k) ∧ i = .int .i64 k ∧ wr = xt w (bwx w s) ∧ Hid (∀ j, j < k → hexD (bt s j) ≠ -1)) (fun _ _ i _ => s.size - (intOf i).toNat)
  case atStart => exact ⟨0, Nat.zero_le _, rfl, rfl, rfl, rfl, fun j hj => absurd hj (Nat.not_lt_zero _)⟩
  case round =>
    obtain ⟨k, hk, rfl, rfl, rfl, rfl, HN⟩ := hrel
    by_cases hlt : k < s.size
    · have hcl := HC.out k hlt
      have hr := bt_range s k
      have hlow := lowZ_of (c := bt s k) (by omega) (by omega)
      have hA : 0 ≤ hexA s k ∧ hexA s k ≤ 15 := by
        have h0 := hexD_range (bt s 0)
        unfold hexA
        split
        · omega
        · rename_i hk0
          have : k = 1 := by omega
          subst this
          have := HN.out 0 (by omega)
          simp
          omega
      have hA1 : hexD (bt s k) ≠ -1 → hexA s (k + 1) = hexA s k * 16 + hexD (bt s k) := fun hne => by
        unfold hexA
        rcases (by omega : k = 0 ∨ k = 1) with rfl | rfl
        · simp
        · simp; omega
      have hbad : hexD (bt s k) = -1 → R = .tuple #[.int .u64 0, .iface 215 (.int .i64 2)] := fun he => by
        rw [hR.out, if_pos]
        rcases (by omega : k = 0 ∨ k = 1) with rfl | rfl
        · exact .inl he
        · exact .inr he
      have hgood : hexD (bt s k) ≠ -1 → ∀ j, j < k + 1 → hexD (bt s j) ≠ -1 := fun hne j hj => by
        rcases Nat.lt_succ_iff_lt_or_eq.1 hj with h | rfl
        · exact HN.out j h
        · exact hne
      obtain ⟨hn0, hn1⟩ := hA
      clear hR
      by_cases d1 : 48 ≤ bt s k ∧ bt s k ≤ 57
      · clear hlow
        have he : hexD (bt s k) = bt s k - 48 := by unfold hexD; (repeat' split) <;> omega
        have hne' : hexD (bt s k) ≠ -1 := by omega
        have hG := Lib.hid (hgood hne')
        have hN := hA1 hne'
        rw [he] at hN
        have hN := Lib.hid hN
        clear he hne' hgood hA1 hbad
        generalize hexA s k = n at *
        generalize bt s k = c at *
        go_wp2_with (go_at_call 219; refine (lower_ret _ _).mono ?_; rintro e w' ⟨rfl, rfl⟩)
        go_roundw
        case rel => exact ⟨k + 1, by omega, rfl, v_int (by rw [hN.out]; try omega), by go_num, by trivial, hG⟩
        case measure => simp [intOf]; omega
      · by_cases d2 : 97 ≤ bt s k ∧ bt s k ≤ 102
        · rw [if_pos (by omega)] at hlow
          have he : hexD (bt s k) = bt s k - 87 := by unfold hexD; (repeat' split) <;> omega
          have hne' : hexD (bt s k) ≠ -1 := by omega
          have hG := Lib.hid (hgood hne')
          have hN := hA1 hne'
          rw [he] at hN
          have hN := Lib.hid hN
          clear he hne' hgood hA1 hbad
          generalize hexA s k = n at *
          generalize bt s k = c at *
          go_wp2_with (go_at_call 219; refine (lower_ret _ _).mono ?_; rintro e w' ⟨rfl, rfl⟩)
          go_roundw
          case rel => exact ⟨k + 1, by omega, rfl, v_int (by rw [hN.out]; try omega), by go_num, by trivial, hG⟩
          case measure => simp [intOf]; omega
        · by_cases d3 : 65 ≤ bt s k ∧ bt s k ≤ 70
          · rw [if_neg (by omega)] at hlow
            have he : hexD (bt s k) = bt s k - 55 := by unfold hexD; (repeat' split) <;> omega
            have hne' : hexD (bt s k) ≠ -1 := by omega
            have hG := Lib.hid (hgood hne')
            have hN := hA1 hne'
            rw [he] at hN
            have hN := Lib.hid hN
            clear he hne' hgood hA1 hbad
            generalize hexA s k = n at *
            generalize bt s k = c at *
            go_wp2_with (go_at_call 219; refine (lower_ret _ _).mono ?_; rintro e w' ⟨rfl, rfl⟩)
            go_roundw
            case rel => exact ⟨k + 1, by omega, rfl, v_int (by rw [hN.out]; try omega), by go_num, by trivial, hG⟩
            case measure => simp [intOf]; omega
          · by_cases d4 : (bt s k == 95) = true
            · have hl2 : 122 < lowZ (bt s k) := by rw [hlow]; simp at d4; rw [d4]; decide
              have hl1 : 97 ≤ lowZ (bt s k) := by omega
              have d5 : 57 < bt s k := by simp at d4; omega
              clear hlow
              have he : hexD (bt s k) = -1 := by unfold hexD; (repeat' split) <;> omega
              obtain rfl := hbad he
              clear he hgood hA1 hbad
              generalize hexA s k = n at *
              generalize bt s k = c at *
              go_wp2_with (go_at_call 219; refine (lower_ret _ _).mono ?_; rintro e w' ⟨rfl, rfl⟩)
              go_ret2
              exact ⟨rfl, kp_xt _ _⟩
            · have hbig : lowZ (bt s k) < 97 ∨ 102 < lowZ (bt s k) := by rw [hlow]; split <;> omega
              have hl256 : lowZ (bt s k) < 256 := by rw [hlow]; split <;> omega
              have he : hexD (bt s k) = -1 := by unfold hexD; (repeat' split) <;> omega
              obtain rfl := hbad he
              clear he hgood hA1 hbad hlow
              generalize hexA s k = n at *
              generalize bt s k = c at *
              by_cases e1 : lowZ c < 97 <;> by_cases e2 : lowZ c ≤ 122 <;> by_cases e3 : 48 ≤ c
              all_goals
                go_wp2_with (go_at_call 219; refine (lower_ret _ _).mono ?_; rintro e w' ⟨rfl, rfl⟩)
                all_goals go_ret2
                all_goals exact ⟨rfl, kp_xt _ _⟩
    · have hk2 : k = 2 := by omega
      have hv : R = .tuple #[.int .u64 (hexA s k), .nilIface] := by
        rw [hR.out, if_neg]
        · subst hk2; rfl
        · rintro (h | h)
          · exact HN.out 0 (by omega) h
          · exact HN.out 1 (by omega) h
      clear hk2
      obtain rfl := hv
      clear hR
      generalize hexA s k = n at *
      go_wp2
      go_ret2
      exact ⟨rfl, kp_xt _ _⟩
def hexOK (s : ByteArray) : Bool := decide (hexD (bt s 0) ≠ -1 ∧ hexD (bt s 1) ≠ -1)
theorem pu_ok (s : ByteArray) (w : World) (h1 : 1 < s.size) (h2 : s.size < 3) (h : hexOK s = true) : Calls Tryz.prog 215 #[.string s, .int .i64 16, .int .i64 8] w (Ret w (.tuple #[.int .u64 (16 * hexD (bt s 0) + hexD (bt s 1)), .nilIface])) := by
  have hh := of_decide_eq_true h
  have H := Lib.hid (ipu_ret s w h1 h2 _ (if_neg (fun e => e.elim hh.1 hh.2)).symm)
  clear h hh
  generalize 16 * hexD (bt s 0) + hexD (bt s 1) = v at *
  go_enter Tryz.func215, Tryz.ntmps215
  go_wp2_with (go_at_call 208; refine Calls_ret H.out ?_; intro x1)
  go_ret2
  exact ⟨rfl, kp_xt _ _⟩
theorem pu_err (s : ByteArray) (w : World) (hg : Glob w) (h1 : 1 < s.size) (h2 : s.size < 3) (h : hexOK s = false) : Calls Tryz.prog 215 #[.string s, .int .i64 16, .int .i64 8] w fun e w' => ∃ N, e = .returned (.tuple #[.int .u64 0, errN N]) ∧ Kp w w' := by
  have hh := of_decide_eq_false h
  have H := Lib.hid (ipu_ret s w h1 h2 _ (if_pos (by by_cases h0 : hexD (bt s 0) = -1 <;> by_cases h1 : hexD (bt s 1) = -1 <;> simp_all)).symm)
  clear h hh
  have HE : Hid (∀ x : World, Calls Tryz.prog 180 #[.string ⟨#[80, 97, 114, 115, 101, 85, 105, 110, 116]⟩, .string s, .int .i64 16, .int .i64 8, .iface 215 (.int .i64 2)] (xt w x) fun e w' => ∃ N, e = .returned (errN N) ∧ Kp (xt w x) w') := by
    intro x
    obtain ⟨t1, p1, h1⟩ := (hg.xt x).es
    have hc : (xt w x).cell? ⟨0, 0, none⟩ = some (.iface t1 p1) := by
      unfold World.var? at h1
      rw [show Tryz.prog.globalNamed "strconv.ErrSyntax" = some 0 from by kernel_rfl, Option.bind_some] at h1
      unfold World.cell?
      split at h1
      · rename_i cs _ _ hh
        cases h1
        rw [hh]
        rfl
      · cases h1
    exact (Tryz.strconv_toError_syntax _ s 16 8 _ _ (by omega) hc (.inr ⟨_, _, rfl⟩)).mono fun e w' ⟨N, he, _, _, hb⟩ => ⟨N, he, .of_below hb⟩
  go_enter Tryz.func215, Tryz.ntmps215
  go_wp2_with (first | (go_at_call 208; refine Calls_ret H.out ?_; intro x1) | (go_at_call 180; refine (HE.out _).mono ?_; rintro e w' ⟨N, rfl, hk⟩))
  go_ret2
  exact ⟨_, rfl, (kp_xt _ _).trans hk⟩
end Go.Proofs.YtpmheafccfnfjaaGreatDoor
namespace Go.Proofs.YtpmheafccfnfjaaGreatDoor
open Go Go.RowKit
/-- Block b is item's reader over s at n. -/
abbrev irO (s : ByteArray) (n : Int) : Obj := .cells #[.string s, .int .i64 n] 203 (0, 0)
section
variable {F : World → Prop} {w x : World} {b : Nat} {o : Obj} {P : Program} {f : FuncId} {args : Array Value} {v : Value} {R : Ending → World → Prop}
/-- What a call that makes memory leaves of a world with a block of its own, and of a fact that such calls keep. -/
theorem sb_kp (hF : ∀ {W W' : World}, F W → Kp W W' → F W') (hb : b < w.heap.size) (h : F (sb (xt w x) b o)) {W' : World} (hk : Kp (sb (xt w x) b o) W') : ∃ y, W' = sb (xt w y) b o ∧ F W' := by
  have h1 : Kb b w W' := (((Kb.refl b w).more x).setB o).trans (.of_kp hk)
  obtain ⟨y, hy⟩ := h1.out hb ((hk.block b (by simpa using Nat.lt_of_lt_of_le hb (size_xt _ _))).trans (heap_sb_same _ _ _ (Nat.lt_of_lt_of_le hb (size_xt _ _))))
  exact ⟨y, hy, hF h hk⟩
theorem Calls_retS (hF : ∀ {W W' : World}, F W → Kp W W' → F W') (hb : b < w.heap.size) (h : F (sb (xt w x) b o)) (hc : Calls P f args (sb (xt w x) b o) (Ret (sb (xt w x) b o) v)) (k : ∀ y, F (sb (xt w y) b o) → R (.returned v) (sb (xt w y) b o)) : Calls P f args (sb (xt w x) b o) R :=
  hc.mono fun e w' ⟨he, hk⟩ => by
    obtain ⟨y, hy, hf⟩ := sb_kp hF hb h hk
    subst he hy
    exact k y hf
end
theorem bld_kp {B b : Nat} {bs : List Value} {W W' : World} (h : Bld B b bs W) (hk : Kp W W') : Bld B b bs W' := bld_kept h (kp_grown hk) (fun r e => by cases e)
theorem bld_sb {B bb : Nat} {bs : List Value} {W : World} {b : Nat} {o : Obj} (h : Bld B bb bs W) (hb : b < B) (o' : Obj) : Bld B bb bs (sb W b o') := by
  have H : ∀ p, Lib.BuilderAt TB 5 B bb p bs W → Lib.BuilderAt TB 5 B bb p bs (sb W b o') := by
    rintro p ⟨h1, v, h2, h3, h4⟩
    refine ⟨h1, v, ?_, h3.kept (row := some b) ⟨rfl, rfl, rfl, by simp, fun k _ hk => heap_sb_other _ _ _ (fun e => hk (by rw [e]))⟩ ?_, h4⟩
    · rw [heap_sb_other _ _ _ (by omega)]; exact h2
    · right
      intro e
      have := (h3.lt b e).1
      omega
  exact h.imp (H _) (H _)
/-- A world from which nothing below w's end was turned but block b, which stands. -/
theorem sb_below {w x w' : World} {b : Nat} {o : Obj} (hb : b < w.heap.size) (h2 : Below w.heap.size (sb (xt w x) b o) w') : ∃ y, w' = sb (xt w y) b o := by
  have hs : w.heap.size ≤ w'.heap.size := Nat.le_trans (by simpa using size_xt w x) h2.size
  have hk : Kb b w w' := ⟨hs, h2.os.trans (kp_xt w x).os, h2.tape.trans (kp_xt w x).tape, h2.output.trans (kp_xt w x).output, fun i hi hne => (h2.block i hi).trans ((heap_sb_other _ _ _ hne).trans ((kp_xt w x).block i hi))⟩
  exact hk.out hb ((h2.block b hb).trans (heap_sb_same _ _ _ (Nat.lt_of_lt_of_le hb (size_xt _ _))))
theorem wbyte_sb {w x : World} {b bb : Nat} {o : Obj} {bs : List Value} {c : Int} {R : Ending → World → Prop} (hb : b < w.heap.size) (h : Bld w.heap.size bb bs (sb (xt w x) b o)) (hlen : bs.length + 1 ≤ 140737488355328)
    (k : ∀ y, Bld w.heap.size bb (bs ++ [.int .u8 c]) (sb (xt w y) b o) → R (.returned .nilIface) (sb (xt w y) b o)) :
    Calls Tryz.prog 188 #[.pointer (some ⟨bb, 0, none⟩), .int .u8 c] (sb (xt w x) b o) R :=
  (wbyte_ret _ _ _ c _ h hlen (by simpa using size_xt w x)).mono fun e w' ⟨he, h1, h2, _⟩ => by
    obtain ⟨y, hy⟩ := sb_below hb h2
    subst he hy
    exact k y h1
theorem bstr_sb {w x : World} {b bb : Nat} {o : Obj} {l : List UInt8} {R : Ending → World → Prop} (hb : b < w.heap.size) (h : Bld w.heap.size bb (Lib.byteCells l) (sb (xt w x) b o))
    (k : ∀ y, R (.returned (.string (st l))) (sb (xt w y) b o)) :
    Calls Tryz.prog 191 #[.pointer (some ⟨bb, 0, none⟩)] (sb (xt w x) b o) R :=
  (bstr_ret _ _ l _ h (by simpa using size_xt w x)).mono fun e w' ⟨he, h1, _⟩ => by
    obtain ⟨y, hy⟩ := sb_below hb h1
    subst he hy
    exact k y
/-- A region that draws and reads alone. -/
theorem wp_region_rd {P : Program} {id : Nat} {Q : Exit → Act → World → Prop} {a : Act} {l : List Oper} {F : World → Prop} {w x : World} {b : Nat} {o : Obj} (hF : ∀ {W W' : World}, F W → Kp W W' → F W') (hb : b < w.heap.size) (h : F (sb (xt w x) b o))
    (hm : P.follows .mixedOrders = true) (hB : Region.lexB .any l.toArray = true)
    (hq : ∀ y, F (sb (xt w y) b o) → wpQuiet P l.toArray (fun w' => w' = sb (xt w y) b o) (fun a' => Q .normal a' (sb (xt w y) b o)) l a) : (Code.region id l.toArray true).wp P Q a (sb (xt w x) b o) := by
  obtain ⟨y, hy, hf⟩ := sb_kp hF hb h ((Kp.refl _).drew)
  have hq' := hq y (hy ▸ hf)
  refine wp_region_quiet (C := fun w' => w' = sb (xt w y) b o) hm hB hy ?_
  have e : (fun a' => ∀ w', w' = sb (xt w y) b o → Q .normal a' w') = (fun a' => Q .normal a' (sb (xt w y) b o)) := by funext a'; simp
  rw [e]
  exact hq'
theorem still_of_quiet {P : Program} {ops : Array Oper} {w : World} {Q : Act → Prop} : ∀ {l : List Oper} {a : Act}, wpQuiet P ops (fun w' => w' = w) Q l a → wpStill P ops w Q l a
  | [], _, h => h
  | o :: l, a, h => by
    unfold wpQuiet at h
    unfold wpStill
    split
    · rename_i hw
      rw [if_pos hw] at h
      obtain ⟨v, h1, h2⟩ := h
      have h1 := h1 w rfl
      unfold Oper.quietAt at h1
      unfold Oper.still
      generalize (execOp a.eval o).run P w = r at *
      cases r with
      | ok n w' =>
        cases n <;> simp only [Oper.quietUpon] at h1 <;> simp only [Oper.stillUpon]
        case value u =>
          obtain ⟨e1, rfl⟩ := h1
          exact ⟨e1, still_of_quiet h2⟩
        case skip =>
          obtain ⟨e1, rfl⟩ := h1
          exact ⟨e1, still_of_quiet h2⟩
        case enter f args =>
          exact ⟨h1.1, v, h1.2, still_of_quiet h2⟩
      | halt x w' => simp only [Oper.quietUpon] at h1
    · rename_i hw
      rw [if_neg hw] at h
      exact still_of_quiet h
/-- A region that draws: its first n operations read; then one call, whatever it hands back. -/
theorem wp_region_tail {P : Program} {id : Nat} {Q : Exit → Act → World → Prop} {a : Act} {l : List Oper} {F : World → Prop} {w x : World} {b : Nat} {o : Obj} (n : Nat) (hF : ∀ {W W' : World}, F W → Kp W W' → F W') (hb : b < w.heap.size) (h : F (sb (xt w x) b o))
    (hm : P.follows .mixedOrders = true) (hB : callB .any l.toArray n = true) (oc : Oper) (ho : l[n]? = some oc)
    (hq : ∀ y, F (sb (xt w y) b o) → wpQuiet P l.toArray (fun w' => w' = sb (xt w y) b o) (fun a' => wpList P l.toArray (Exit.then (fun a2 w2 => wpQuiet P l.toArray (fun u => u = w2) (fun a3 => Q .normal a3 w2) (l.drop (n + 1)) a2) Q) [oc] a' (sb (xt w y) b o)) (l.take n) a) : (Code.region id l.toArray true).wp P Q a (sb (xt w x) b o) := by
  obtain ⟨y, hy, hf⟩ := sb_kp hF hb h ((Kp.refl _).drew)
  have hq' := hq y (hy ▸ hf)
  refine wp_region_call n oc ho hm hB ?_
  rw [hy]
  exact still_of_quiet hq'
theorem next_ret (b : Nat) (s : ByteArray) (k : Nat) (w : World) (h : w.heap[b]? = some (irO s k)) (hs : s.size ≤ 4611686018427387904) :
    Calls Tryz.prog 184 #[.pointer (some ⟨b, 0, none⟩)] w (Ret w (.int .u8 (bt s k))) := by
  have c0 : w.cell? ⟨b, 0, none⟩ = some (.string s) := by rw [Lib.cell_of_heap h]; rfl
  have c1 : w.cell? ⟨b, 1, none⟩ = some (.int .i64 k) := by rw [Lib.cell_of_heap h]; rfl
  have hb : b < w.heap.size := (Array.getElem?_eq_some_iff.1 h).1
  by_cases hlt : k < s.size
  · go_enter Tryz.func184, Tryz.ntmps184
    go_wp2
    refine wp_region_xt (by kernel_rfl) (by kernel_rfl) ?_
    repeat (go_big_quiet_step (fail))
    refine wpQuiet_nil ?_
    intro x1
    go_wp2
    refine wp_region_xt (by kernel_rfl) (by kernel_rfl) ?_
    repeat (go_big_quiet_step (fail))
    refine wpQuiet_nil ?_
    intro x2
    go_wp2
    go_ret
    exact ret_of (v_int (bt_of hlt)) (Kp.more (kp_xt _ _) _)
  · have hz : bt s k = 0 := by unfold bt; rw [dif_neg hlt]
    go_enter Tryz.func184, Tryz.ntmps184
    go_wp2
    refine wp_region_xt (by kernel_rfl) (by kernel_rfl) ?_
    repeat (go_big_quiet_step (fail))
    refine wpQuiet_nil ?_
    intro x1
    go_wp2
    go_ret
    exact ret_of (v_int hz.symm) (kp_xt _ _)
end Go.Proofs.YtpmheafccfnfjaaGreatDoor
namespace Go.Proofs.YtpmheafccfnfjaaGreatDoor
open Go Go.RowKit
def hexV (a b : UInt8) : UInt8 := UInt8.ofNat (16 * hexD (a.toNat : Int) + hexD (b.toNat : Int)).toNat
def hexN (a : UInt8) : Bool := decide (hexD (a.toNat : Int) = -1)
/-- Behind an opening quote: what is read, and the rest; none where the reader panics. -/
def rtx : Bs → Option (Bs × Bs)
  | [] => none
  | c :: t => if c = 34 then some ([], t) else if c = 92 then
      (match t with
        | [] => none
        | d :: t1 => if d = 120 then (match t1 with
            | a :: b :: t2 => if hexN a || hexN b then none else (rtx t2).map (fun r => (hexV a b :: r.1, r.2))
            | _ => none)
          else (rtx t1).map (fun r => (d :: r.1, r.2)))
    else (rtx t).map (fun r => (c :: r.1, r.2))
abbrev sfx (s : ByteArray) (k : Nat) : Bs := s.data.toList.drop k
abbrev rj (acc : Bs) (r : Option (Bs × Bs)) : Option (Bs × Bs) := r.map (fun r => (acc ++ r.1, r.2))
theorem rj_map (acc : Bs) (c : UInt8) (r : Option (Bs × Bs)) : rj acc (r.map (fun r => (c :: r.1, r.2))) = rj (acc ++ [c]) r := by
  cases r <;> simp [rj]
section
variable {s : ByteArray} {k : Nat}
theorem sfx_c (h : k < s.size) : sfx s k = s[k]'h :: sfx s (k + 1) := by
  unfold sfx
  rw [List.drop_eq_getElem_cons (by simpa using h)]
  rfl
theorem sfx_nil (h : s.size ≤ k) : sfx s k = [] := List.drop_eq_nil_of_le (by rw [size_data]; exact h)
theorem bt_iff (h : k < s.size) (c : UInt8) : bt s k = (c.toNat : Int) ↔ s[k]'h = c := by
  rw [bt_eq h]; rfl
theorem rtx_end (h : s.size ≤ k) : rtx (sfx s k) = none := by rw [sfx_nil h]; rfl
theorem rtx_q (h : k < s.size) (e : bt s k = 34) : rtx (sfx s k) = some ([], sfx s (k + 1)) := by
  have e' := (bt_iff h 34).1 e
  rw [sfx_c h, rtx.eq_def]
  simp [e']
theorem rtx_plain (h : k < s.size) (e1 : bt s k ≠ 34) (e2 : bt s k ≠ 92) : rtx (sfx s k) = (rtx (sfx s (k + 1))).map (fun r => (s[k]'h :: r.1, r.2)) := by
  have h1 : s[k]'h ≠ 34 := fun e => e1 ((bt_iff h 34).2 e)
  have h2 : s[k]'h ≠ 92 := fun e => e2 ((bt_iff h 92).2 e)
  rw [sfx_c h, rtx.eq_def]
  simp [h1, h2]
theorem rtx_bs (h : k < s.size) (e : bt s k = 92) : rtx (sfx s k) = (match sfx s (k + 1) with
        | [] => none
        | d :: t1 => if d = 120 then (match t1 with
            | a :: b :: t2 => if hexN a || hexN b then none else (rtx t2).map (fun r => (hexV a b :: r.1, r.2))
            | _ => none)
          else (rtx t1).map (fun r => (d :: r.1, r.2))) := by
  have e' := (bt_iff h 92).1 e
  rw [sfx_c h, e', rtx.eq_def]
  rfl
theorem rtx_bs_end (h : k < s.size) (e : bt s k = 92) (h1 : s.size ≤ k + 1) : rtx (sfx s k) = none := by
  rw [rtx_bs h e, sfx_nil h1]
theorem rtx_bs_c (h : k < s.size) (e : bt s k = 92) (h1 : k + 1 < s.size) (e1 : bt s (k + 1) ≠ 120) : rtx (sfx s k) = (rtx (sfx s (k + 2))).map (fun r => (s[k + 1]'h1 :: r.1, r.2)) := by
  have h2 : s[k + 1]'h1 ≠ 120 := fun e => e1 ((bt_iff h1 120).2 e)
  rw [rtx_bs h e, sfx_c h1]
  simp [h2]
theorem rtx_x_end (h : k < s.size) (e : bt s k = 92) (h1 : k + 1 < s.size) (e1 : bt s (k + 1) = 120) (h2 : s.size ≤ k + 3) : rtx (sfx s k) = none := by
  have e' := (bt_iff h1 120).1 e1
  rw [rtx_bs h e, sfx_c h1]
  simp only [e', if_true]
  by_cases h3 : k + 2 < s.size
  · rw [sfx_c h3, sfx_nil (by omega : s.size ≤ k + 2 + 1)]
  · rw [sfx_nil (by omega : s.size ≤ k + 1 + 1)]
theorem rtx_x (h : k < s.size) (e : bt s k = 92) (h1 : k + 1 < s.size) (e1 : bt s (k + 1) = 120) (h2 : k + 3 < s.size) :
    rtx (sfx s k) = if hexN (s[k + 2]'(by omega)) || hexN (s[k + 3]'h2) then none else (rtx (sfx s (k + 4))).map (fun r => (hexV (s[k + 2]'(by omega)) (s[k + 3]'h2) :: r.1, r.2)) := by
  have e' := (bt_iff h1 120).1 e1
  rw [rtx_bs h e, sfx_c h1]
  simp only [e', if_true]
  rw [sfx_c (by omega : k + 1 + 1 < s.size), sfx_c (by omega : k + 1 + 1 + 1 < s.size)]
theorem bt_ext {i j m : Nat} (hj : j ≤ s.size) (hm : i + m < j) : bt (s.extract i j) m = bt s (i + m) := by
  have h1 : m < (s.extract i j).size := by simp; omega
  rw [bt_list h1, bt_list (by omega)]
  congr 2
  simp only [ext_data, List.getElem_drop, List.getElem_take]
theorem ext_size {i j : Nat} (hj : j ≤ s.size) : (s.extract i j).size = j - i := by simp; omega
end
end Go.Proofs.YtpmheafccfnfjaaGreatDoor
namespace Go.Proofs.YtpmheafccfnfjaaGreatDoor
open Go Go.RowKit
/-- What item's reader panics with. -/
abbrev wrongI : Value := .iface 199 (.agg #[])
theorem bld_sb2 {B bb : Nat} {bs : List Value} {X : World} {b : Nat} {o : Obj} (h : Bld B bb bs (sb X b o)) (hb : b < B) (o' : Obj) : Bld B bb bs (sb X b o') := by
  have := bld_sb (o := o) h hb o'
  rwa [sb_sb] at this
theorem rdN_ir {W : World} {b : Nat} {x : Value} {n : Int} {t : TypeId} (hb : b < W.heap.size) : rdN (sb W b (.cells #[x, .int .i64 n] t (0, 0))) b = n.toNat := by
  unfold rdN
  rw [cell_sb_same _ _ _ _ _ _ hb]
  rfl
theorem ir_start (w : World) (b : Nat) (s : ByteArray) (n : Nat) (m : Int) (o : Obj) (h : w.heap[b]? = some (irO s n)) : ∃ y, (w.setCell ⟨b, 1, none⟩ (.int .i64 m)).alloc o = sb (xt w y) b (irO s m) := by
  have hb : b < w.heap.size := (Array.getElem?_eq_some_iff.1 h).1
  refine Kb.out (((Kb.refl b w).setCell (.inl rfl) _).alloc o) hb ?_
  rw [Lib.alloc_old _ _ _ (by simpa using hb)]
  have := heap_set_same (i := 1) (v := .int .i64 m) h
  rw [this]
  rfl
/-- What the reader's text hands back. -/
structure TxR (w : World) (b : Nat) (s : ByteArray) (n : Nat) (R : Ending → World → Prop) : Prop where
  ok : ∀ t rest e w', rtx (sfx s n) = some (t, rest) → RetB w b (irO s (s.size - rest.length : Nat)) (.string (st t)) e w' → R e w'
  pan : ∀ e w', rtx (sfx s n) = none → PanB w b wrongI e w' → R e w'
set_option maxHeartbeats 2000000 in
set_option maxRecDepth 100000 in
theorem text_walk (b : Nat) (s : ByteArray) (n : Nat) (w : World) (h : w.heap[b]? = some (irO s n)) (hn : n < s.size) (hs : s.size ≤ 1000000) (hg : Glob w) (hb8 : 8 ≤ b) (R : Ending → World → Prop) (HR : Hid (TxR w b s (n + 1) R)) :
    Calls Tryz.prog 202 #[.pointer (some ⟨b, 0, none⟩)] w R := by
  have c1 : w.cell? ⟨b, 1, none⟩ = some (.int .i64 n) := by rw [Lib.cell_of_heap h]; rfl
  have f1 : w.frozen? ⟨b, 1, none⟩ = false := Lib.frozen_of_heap h 1
  have hb : b < w.heap.size := (Array.getElem?_eq_some_iff.1 h).1
  obtain ⟨y0, hy0⟩ := ir_start w b s n (n + 1 : Nat) (.cells #[.pointer none, .slice none 0 0] TB) h
  have hB0 : Bld w.heap.size w.heap.size (Lib.byteCells []) (sb (xt w y0) b (irO s (n + 1 : Nat))) := by
    rw [← hy0]
    have := Lib.fresh_isBuilder TB 5 (w.setCell ⟨b, 1, none⟩ (.int .i64 (n + 1 : Nat)))
    rw [World.size_setCell] at this
    exact this
  replace hy0 := Lib.hid hy0
  replace hB0 := Lib.hid hB0
  clear h
  go_enter Tryz.func202, Tryz.ntmps202
  go_wp2
  go_loopw [] (fun wr => ∃ (k : Nat) (y : World) (acc : Bs), n < k ∧ k ≤ s.size + 1 ∧ acc.length ≤ k ∧ wr = sb (xt w y) b (irO s k) ∧ Hid (Bld w.heap.size w.heap.size (Lib.byteCells acc) (sb (xt w y) b (irO s k))) ∧ Hid (rtx (sfx s (n + 1)) = rj acc (rtx (sfx s k)))) (fun wr => s.size + 2 - rdN wr b)
  case atStart =>
    refine ⟨n + 1, y0, [], by omega, by omega, by simp, ?_, hB0, ?_⟩
    · rw [← hy0.out]
      first | rfl | simp
    · show _ = _
      simp [rj]
  case round =>
    obtain ⟨k, y, acc, hk1, hk2, hacc, rfl, HB, HT⟩ := hrel
    have HN := Lib.hid (fun (y : World) (k : Nat) => next_ret b s k (sb (xt w y) b (irO s k)) (heap_sb_same _ _ _ (Nat.lt_of_lt_of_le hb (size_xt _ _))) (by omega))
    have hle : k ≤ s.size ∨ k = s.size + 1 := by omega
    have hz : ¬ k < s.size → bt s k = 0 := fun h => by unfold bt; rw [dif_neg h]
    by_cases h34 : bt s k = 34
    · have hlt : k < s.size := by
        rcases Nat.lt_or_ge k s.size with h | h
        · exact h
        · have := hz (by omega); omega
      have n34 : (bt s k != 34) = false := by simpa using h34
      have HT2 := HT.out
      rw [rtx_q hlt h34] at HT2
      have hrest : (s.size - (sfx s (k + 1)).length : Nat) = k + 1 := by simp; omega
      have HX := Lib.hid (fun e w' => HR.out.ok acc (sfx s (k + 1)) e w' (by rw [HT2]; simp [rj]))
      rw [hrest] at HX
      clear HT HT2 hrest h34 hz
      go_wp2_with (first | (go_at_call 184; refine Calls_retS (F := Bld w.heap.size w.heap.size (Lib.byteCells acc)) bld_kp hb HB.out (HN.out _ _) ?_; clear HB; intro y1 HB; replace HB := Lib.hid HB) | (go_at_call 191; refine bstr_sb hb (bld_sb2 HB.out hb _) ?_; intro y4))
      all_goals skip
      exact HX.out _ _ (retB_1 hb rfl rfl)
    · have n34 : (bt s k != 34) = true := by simpa using h34
      by_cases hlt : k < s.size
      · by_cases h92 : bt s k = 92
        · have n92 : (bt s k != 92) = false := by simpa using h92
          by_cases hlt1 : k + 1 < s.size
          · by_cases h120 : bt s (k + 1) = 120
            · have n120 : (bt s (k + 1) != 120) = false := by simpa using h120
              by_cases hlt3 : k + 3 < s.size
              · have HT2 := HT.out
                rw [rtx_x hlt h92 hlt1 h120 hlt3] at HT2
                have hq0 : bt (s.extract (k + 1 + 1) (k + 1 + 3)) 0 = bt s (k + 2) := bt_ext (by omega) (by omega)
                have hq1 : bt (s.extract (k + 1 + 1) (k + 1 + 3)) 1 = bt s (k + 3) := bt_ext (by omega) (by omega)
                have hqs : (s.extract (k + 1 + 1) (k + 1 + 3)).size = 2 := by rw [ext_size (by omega)]; omega
                have r0 := hexD_range (bt s (k + 2))
                have r1 := hexD_range (bt s (k + 3))
                clear h92 h34 h120 hz
                cases hx : hexOK (s.extract (k + 1 + 1) (k + 1 + 3))
                · have HP := Lib.hid (fun W (hG : Glob W) => pu_err _ W hG (by omega) (by omega) hx)
                  have hx' : (hexN (s[k + 2]'(by omega)) || hexN (s[k + 3]'hlt3)) = true := by
                    have := of_decide_eq_false hx
                    rw [hq0, hq1, ← bt_of (by omega : k + 2 < s.size), ← bt_of hlt3] at this
                    unfold hexN
                    by_cases g0 : hexD ((s[k + 2]'(by omega)).toNat : Int) = -1 <;> by_cases g1 : hexD ((s[k + 3]'hlt3).toNat : Int) = -1 <;> simp_all
                  rw [if_pos hx'] at HT2
                  replace HT := Lib.hid HT2
                  clear HT2 hx hx' hq0 hq1 hqs r0 r1
                  have HG := Lib.hid (fun (y : World) (o : Obj) => (hg.xt y).sb hb8 o)
                  go_wp2_with ((go_at_call 184; refine Calls_retS (F := Bld w.heap.size w.heap.size (Lib.byteCells acc)) bld_kp hb HB.out (HN.out _ _) ?_; clear HB; intro y1 HB; replace HB := Lib.hid HB))
                  refine wp_region_rd (F := Bld w.heap.size w.heap.size (Lib.byteCells acc)) bld_kp hb HB.out (by kernel_rfl) (by kernel_rfl) ?_
                  clear HB
                  intro y2 HB
                  replace HB := Lib.hid HB
                  repeat (go_big_quiet_step (fail))
                  refine wpQuiet_nil ?_
                  go_wp2_with (first | (go_at_call 184; refine Calls_retS (F := Bld w.heap.size w.heap.size (Lib.byteCells acc)) bld_kp hb HB.out (HN.out _ _) ?_; clear HB; intro y1 HB; replace HB := Lib.hid HB) | (go_at_call 184; refine Calls_retS (F := Bld w.heap.size w.heap.size (Lib.byteCells acc)) bld_kp hb (bld_sb2 HB.out hb _) (HN.out _ (k + 1)) ?_; clear HB; intro y1 HB; replace HB := Lib.hid HB))
                  refine wp_region_rd (F := Bld w.heap.size w.heap.size (Lib.byteCells acc)) bld_kp hb (bld_sb2 HB.out hb _) (by kernel_rfl) (by kernel_rfl) ?_
                  clear HB
                  intro y2 HB
                  replace HB := Lib.hid HB
                  repeat (go_big_quiet_step (fail))
                  refine wpQuiet_nil ?_
                  go_wp2
                  refine wp_region_tail (F := Bld w.heap.size w.heap.size (Lib.byteCells acc)) 15 bld_kp hb HB.out (by kernel_rfl) (by kernel_rfl) _ rfl ?_
                  clear HB
                  intro y2 HB
                  replace HB := Lib.hid HB
                  simp only [List.take_succ_cons, List.take_zero, List.drop_succ_cons, List.drop_zero]
                  repeat (go_big_quiet_step (fail))
                  refine wpQuiet_nil ?_
                  go_wp2_with (go_at_call 215; refine (HP.out _ (HG.out _ _)).mono ?_; rintro e w' ⟨N, rfl, hk⟩; obtain ⟨y3, rfl, _⟩ := sb_kp (F := fun _ => True) (fun _ _ => trivial) hb trivial hk; clear hk; unfold errN)
                  repeat (go_big_quiet_step (fail))
                  refine wpQuiet_nil ?_
                  go_wp2
                  refine ⟨rfl, HR.out.pan _ _ HT.out ⟨rfl, ((Kb.refl b w).more _).setB _⟩⟩
                · have HP := fun W => pu_ok _ W (by omega) (by omega) hx
                  rw [hq0, hq1] at HP
                  have hx2 := of_decide_eq_true hx
                  rw [hq0, hq1] at hx2
                  have hx' : (hexN (s[k + 2]'(by omega)) || hexN (s[k + 3]'hlt3)) = false := by
                    unfold hexN
                    rw [bt_of (by omega : k + 2 < s.size), bt_of hlt3]
                    simp [hx2.1, hx2.2]
                  rw [hx'] at HT2
                  simp only [Bool.false_eq_true, if_false] at HT2
                  rw [rj_map] at HT2
                  replace HT := Lib.hid HT2
                  have hv0 : 0 ≤ 16 * hexD (bt s (k + 2)) + hexD (bt s (k + 3)) := by omega
                  have hv1 : 16 * hexD (bt s (k + 2)) + hexD (bt s (k + 3)) < 256 := by omega
                  have hbc : Lib.byteCells acc ++ [.int .u8 (16 * hexD (bt s (k + 2)) + hexD (bt s (k + 3)))] = Lib.byteCells (acc ++ [hexV (s[k + 2]'(by omega)) (s[k + 3]'hlt3)]) := by
                    have e : ((hexV (s[k + 2]'(by omega)) (s[k + 3]'hlt3)).toNat : Int) = 16 * hexD (bt s (k + 2)) + hexD (bt s (k + 3)) := by
                      unfold hexV
                      rw [bt_of (by omega : k + 2 < s.size), bt_of hlt3]
                      simp
                      omega
                    simp [Lib.byteCells, e]
                  replace hbc := Lib.hid hbc
                  replace HP := Lib.hid HP
                  clear HT2 hx hx' hq0 hq1 hqs r0 r1 hx2
                  generalize 16 * hexD (bt s (k + 2)) + hexD (bt s (k + 3)) = v at *
                  go_wp2_with ((go_at_call 184; refine Calls_retS (F := Bld w.heap.size w.heap.size (Lib.byteCells acc)) bld_kp hb HB.out (HN.out _ _) ?_; clear HB; intro y1 HB; replace HB := Lib.hid HB))
                  refine wp_region_rd (F := Bld w.heap.size w.heap.size (Lib.byteCells acc)) bld_kp hb HB.out (by kernel_rfl) (by kernel_rfl) ?_
                  clear HB
                  intro y2 HB
                  replace HB := Lib.hid HB
                  repeat (go_big_quiet_step (fail))
                  refine wpQuiet_nil ?_
                  go_wp2_with (first | (go_at_call 184; refine Calls_retS (F := Bld w.heap.size w.heap.size (Lib.byteCells acc)) bld_kp hb HB.out (HN.out _ _) ?_; clear HB; intro y1 HB; replace HB := Lib.hid HB) | (go_at_call 184; refine Calls_retS (F := Bld w.heap.size w.heap.size (Lib.byteCells acc)) bld_kp hb (bld_sb2 HB.out hb _) (HN.out _ (k + 1)) ?_; clear HB; intro y1 HB; replace HB := Lib.hid HB))
                  refine wp_region_rd (F := Bld w.heap.size w.heap.size (Lib.byteCells acc)) bld_kp hb (bld_sb2 HB.out hb _) (by kernel_rfl) (by kernel_rfl) ?_
                  clear HB
                  intro y2 HB
                  replace HB := Lib.hid HB
                  repeat (go_big_quiet_step (fail))
                  refine wpQuiet_nil ?_
                  go_wp2
                  refine wp_region_tail (F := Bld w.heap.size w.heap.size (Lib.byteCells acc)) 15 bld_kp hb HB.out (by kernel_rfl) (by kernel_rfl) _ rfl ?_
                  clear HB
                  intro y2 HB
                  replace HB := Lib.hid HB
                  simp only [List.take_succ_cons, List.take_zero, List.drop_succ_cons, List.drop_zero]
                  repeat (go_big_quiet_step (fail))
                  refine wpQuiet_nil ?_
                  go_wp2_with (go_at_call 215; refine Calls_retS (F := Bld w.heap.size w.heap.size (Lib.byteCells acc)) bld_kp hb HB.out (HP.out _) ?_; clear HB; intro y1 HB; replace HB := Lib.hid HB)
                  repeat (go_big_quiet_step (fail))
                  refine wpQuiet_nil ?_
                  go_wp2_with ((go_at_call 188; refine wbyte_sb hb HB.out (by simp [Lib.byteCells]; omega) ?_; clear HB; intro y3 HB; replace HB := Lib.hid HB))
                  go_roundw
                  case rel =>
                    rw [hbc.out] at HB
                    refine ⟨k + 4, y3, _, by omega, by omega, by simp; omega, rfl, bld_sb2 HB.out hb _, HT⟩
                  case measure =>
                    rw [rdN_ir (Nat.lt_of_lt_of_le hb (size_xt _ _)), rdN_ir (Nat.lt_of_lt_of_le hb (size_xt _ _))]
                    omega
              · have HT2 := HT.out
                rw [rtx_x_end hlt h92 hlt1 h120 (by omega)] at HT2
                replace HT := Lib.hid HT2
                clear HT2 h92 h34 h120 hz
                go_wp2_with ((go_at_call 184; refine Calls_retS (F := Bld w.heap.size w.heap.size (Lib.byteCells acc)) bld_kp hb HB.out (HN.out _ _) ?_; clear HB; intro y1 HB; replace HB := Lib.hid HB))
                refine wp_region_rd (F := Bld w.heap.size w.heap.size (Lib.byteCells acc)) bld_kp hb HB.out (by kernel_rfl) (by kernel_rfl) ?_
                clear HB
                intro y2 HB
                replace HB := Lib.hid HB
                repeat (go_big_quiet_step (fail))
                refine wpQuiet_nil ?_
                go_wp2_with (first | (go_at_call 184; refine Calls_retS (F := Bld w.heap.size w.heap.size (Lib.byteCells acc)) bld_kp hb HB.out (HN.out _ _) ?_; clear HB; intro y1 HB; replace HB := Lib.hid HB) | (go_at_call 184; refine Calls_retS (F := Bld w.heap.size w.heap.size (Lib.byteCells acc)) bld_kp hb (bld_sb2 HB.out hb _) (HN.out _ (k + 1)) ?_; clear HB; intro y1 HB; replace HB := Lib.hid HB))
                refine wp_region_rd (F := Bld w.heap.size w.heap.size (Lib.byteCells acc)) bld_kp hb (bld_sb2 HB.out hb _) (by kernel_rfl) (by kernel_rfl) ?_
                clear HB
                intro y2 HB
                replace HB := Lib.hid HB
                repeat (go_big_quiet_step (fail))
                refine wpQuiet_nil ?_
                go_wp2
                refine ⟨rfl, HR.out.pan _ _ HT.out ⟨rfl, ((Kb.refl b w).more _).setB _⟩⟩
            · have n120 : (bt s (k + 1) != 120) = true := by simpa using h120
              have HT2 := HT.out
              rw [rtx_bs_c hlt h92 hlt1 h120, rj_map] at HT2
              replace HT := Lib.hid HT2
              have hbc : Lib.byteCells acc ++ [.int .u8 (bt s (k + 1))] = Lib.byteCells (acc ++ [s[k + 1]'hlt1]) := by simp [Lib.byteCells, bt_of hlt1]
              replace hbc := Lib.hid hbc
              clear HT2 h92 h34 h120 hz
              go_wp2_with ((go_at_call 184; refine Calls_retS (F := Bld w.heap.size w.heap.size (Lib.byteCells acc)) bld_kp hb HB.out (HN.out _ _) ?_; clear HB; intro y1 HB; replace HB := Lib.hid HB))
              refine wp_region_rd (F := Bld w.heap.size w.heap.size (Lib.byteCells acc)) bld_kp hb HB.out (by kernel_rfl) (by kernel_rfl) ?_
              clear HB
              intro y2 HB
              replace HB := Lib.hid HB
              repeat (go_big_quiet_step (fail))
              refine wpQuiet_nil ?_
              go_wp2_with (first | (go_at_call 184; refine Calls_retS (F := Bld w.heap.size w.heap.size (Lib.byteCells acc)) bld_kp hb HB.out (HN.out _ _) ?_; clear HB; intro y1 HB; replace HB := Lib.hid HB) | (go_at_call 184; refine Calls_retS (F := Bld w.heap.size w.heap.size (Lib.byteCells acc)) bld_kp hb (bld_sb2 HB.out hb _) (HN.out _ (k + 1)) ?_; clear HB; intro y1 HB; replace HB := Lib.hid HB) | (go_at_call 188; refine wbyte_sb hb HB.out (by simp [Lib.byteCells]; omega) ?_; clear HB; intro y3 HB; replace HB := Lib.hid HB))
              go_roundw
              case rel =>
                rw [hbc.out] at HB
                refine ⟨k + 2, y3, _, by omega, by omega, by simp; omega, rfl, bld_sb2 HB.out hb _, HT⟩
              case measure =>
                rw [rdN_ir (Nat.lt_of_lt_of_le hb (size_xt _ _)), rdN_ir (Nat.lt_of_lt_of_le hb (size_xt _ _))]
                omega
          · have n120 : (bt s (k + 1) != 120) = true := by
              unfold bt
              rw [dif_neg hlt1]
              decide
            have HT2 := HT.out
            rw [rtx_bs_end hlt h92 (by omega), ← rtx_end (s := s) (k := k + 2) (by omega)] at HT2
            have hnil : rj acc (rtx (sfx s (k + 2))) = rj (acc ++ [0]) (rtx (sfx s (k + 2))) := by rw [rtx_end (by omega)]; rfl
            rw [hnil] at HT2
            replace HT := Lib.hid HT2
            have hbc : Lib.byteCells acc ++ [.int .u8 (bt s (k + 1))] = Lib.byteCells (acc ++ [0]) := by
              have : bt s (k + 1) = 0 := by unfold bt; rw [dif_neg hlt1]
              simp [Lib.byteCells, this]
            replace hbc := Lib.hid hbc
            clear HT2 h92 h34 hz hnil
            go_wp2_with ((go_at_call 184; refine Calls_retS (F := Bld w.heap.size w.heap.size (Lib.byteCells acc)) bld_kp hb HB.out (HN.out _ _) ?_; clear HB; intro y1 HB; replace HB := Lib.hid HB))
            refine wp_region_rd (F := Bld w.heap.size w.heap.size (Lib.byteCells acc)) bld_kp hb HB.out (by kernel_rfl) (by kernel_rfl) ?_
            clear HB
            intro y2 HB
            replace HB := Lib.hid HB
            repeat (go_big_quiet_step (fail))
            refine wpQuiet_nil ?_
            go_wp2_with (first | (go_at_call 184; refine Calls_retS (F := Bld w.heap.size w.heap.size (Lib.byteCells acc)) bld_kp hb HB.out (HN.out _ _) ?_; clear HB; intro y1 HB; replace HB := Lib.hid HB) | (go_at_call 184; refine Calls_retS (F := Bld w.heap.size w.heap.size (Lib.byteCells acc)) bld_kp hb (bld_sb2 HB.out hb _) (HN.out _ (k + 1)) ?_; clear HB; intro y1 HB; replace HB := Lib.hid HB) | (go_at_call 188; refine wbyte_sb hb HB.out (by simp [Lib.byteCells]; omega) ?_; clear HB; intro y3 HB; replace HB := Lib.hid HB))
            go_roundw
            case rel =>
              rw [hbc.out] at HB
              refine ⟨k + 2, y3, _, by omega, by omega, by simp; omega, rfl, bld_sb2 HB.out hb _, HT⟩
            case measure =>
              rw [rdN_ir (Nat.lt_of_lt_of_le hb (size_xt _ _)), rdN_ir (Nat.lt_of_lt_of_le hb (size_xt _ _))]
              omega
        · have n92 : (bt s k != 92) = true := by simpa using h92
          have HT2 := HT.out
          rw [rtx_plain hlt h34 h92, rj_map] at HT2
          replace HT := Lib.hid HT2
          have hbc : Lib.byteCells acc ++ [.int .u8 (bt s k)] = Lib.byteCells (acc ++ [s[k]'hlt]) := by simp [Lib.byteCells, bt_of hlt]
          replace hbc := Lib.hid hbc
          clear HT2 h92 h34 hz
          go_wp2_with ((go_at_call 184; refine Calls_retS (F := Bld w.heap.size w.heap.size (Lib.byteCells acc)) bld_kp hb HB.out (HN.out _ _) ?_; clear HB; intro y1 HB; replace HB := Lib.hid HB))
          refine wp_region_rd (F := Bld w.heap.size w.heap.size (Lib.byteCells acc)) bld_kp hb HB.out (by kernel_rfl) (by kernel_rfl) ?_
          clear HB
          intro y2 HB
          replace HB := Lib.hid HB
          repeat (go_big_quiet_step (fail))
          refine wpQuiet_nil ?_
          go_wp2_with (first | (go_at_call 184; refine Calls_retS (F := Bld w.heap.size w.heap.size (Lib.byteCells acc)) bld_kp hb HB.out (HN.out _ _) ?_; clear HB; intro y1 HB; replace HB := Lib.hid HB) | (go_at_call 188; refine wbyte_sb hb HB.out (by simp [Lib.byteCells]; omega) ?_; clear HB; intro y3 HB; replace HB := Lib.hid HB))
          go_roundw
          case rel =>
            rw [hbc.out] at HB
            refine ⟨k + 1, y3, _, by omega, by omega, by simp; omega, rfl, bld_sb2 HB.out hb _, HT⟩
          case measure =>
            rw [rdN_ir (Nat.lt_of_lt_of_le hb (size_xt _ _)), rdN_ir (Nat.lt_of_lt_of_le hb (size_xt _ _))]
            omega
      · have HT2 := HT.out
        rw [rtx_end (s := s) (k := k) (by omega)] at HT2
        replace HT := Lib.hid HT2
        clear HT2 h34 hz
        go_wp2_with ((go_at_call 184; refine Calls_retS (F := Bld w.heap.size w.heap.size (Lib.byteCells acc)) bld_kp hb HB.out (HN.out _ _) ?_; clear HB; intro y1 HB; replace HB := Lib.hid HB))
        refine wp_region_rd (F := Bld w.heap.size w.heap.size (Lib.byteCells acc)) bld_kp hb HB.out (by kernel_rfl) (by kernel_rfl) ?_
        clear HB
        intro y2 HB
        replace HB := Lib.hid HB
        repeat (go_big_quiet_step (fail))
        refine wpQuiet_nil ?_
        go_wp2
        refine ⟨rfl, HR.out.pan _ _ HT.out ⟨rfl, ((Kb.refl b w).more _).setB _⟩⟩
end Go.Proofs.YtpmheafccfnfjaaGreatDoor
