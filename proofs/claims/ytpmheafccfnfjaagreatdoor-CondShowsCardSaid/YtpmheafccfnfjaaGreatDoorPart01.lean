/- Words of my own on worlds, for the walks of this seat: nothing here speaks of the program. A region that draws its order: n reading operations, then one call whatever it hands back, then operations that only move what it has handed back. Nothing here speaks of the program. The plain functions of layers 1 and 2: lists and numbers alone. The walks of package item's and cond's small functions on bytes and names. The walks of slices.Index, Contains at []string; of item.Name; of cond's kept, inner, digit. The walk of item.Name. The walks of item.ValidValue and what it calls. The walks of cond's reader: blanks, word, take. The words of conditions: lists alone. The walks of strings.HasPrefix and of the reader's word. The walk of the reader's word. -/
import Derived.WalkKit
import Derived.WalkSpells
import Derived.WalkLawsBesides
import Derived.Deep.QuietTactic
import Derived.BigQuiet
import Derived.KernelRfl
import Derived.Lib.Hide
import Derived.StillTail
import Derived.Test.YtpmheafccfnfjaaGreatDoorProg
import Derived.Outline
import Derived.Laws.EntriesVeiled
set_option linter.unusedSimpArgs false
set_option linter.unusedVariables false
namespace Go.Proofs.YtpmheafccfnfjaaGreatDoor
open Go Go.RowKit
/-! ### 1. The world after a call that makes memory and turns none: 'xt w x' -/
/-- 'x' holds all that 'w' held. -/
structure Kp (w x : World) : Prop where
  size : w.heap.size ≤ x.heap.size
  os : x.os = w.os
  tape : x.tape = w.tape
  output : x.output = w.output
  block : ∀ k, k < w.heap.size → x.heap[k]? = w.heap[k]?
open Classical in
/-- 'w' with more behind it: 'x' if it is that. -/
noncomputable def xt (w x : World) : World := if Kp w x then x else w
theorem Kp.refl (w : World) : Kp w w := ⟨Nat.le_refl _, rfl, rfl, rfl, fun _ _ => rfl⟩
theorem Kp.trans {a b c : World} (h : Kp a b) (k : Kp b c) : Kp a c :=
  ⟨Nat.le_trans h.size k.size, k.os.trans h.os, k.tape.trans h.tape, k.output.trans h.output, fun i hi => (k.block i (Nat.lt_of_lt_of_le hi h.size)).trans (h.block i hi)⟩
theorem Kp.toXt {w x : World} (h : Kp w x) : ∃ y, x = xt w y := ⟨x, by rw [xt, if_pos h]⟩
theorem Kp.below {w x : World} (h : Kp w x) : Below w.heap.size w x := ⟨h.os, h.tape, h.output, h.size, h.block⟩
theorem Kp.of_below {w x : World} (h : Below w.heap.size w x) : Kp w x := ⟨h.size, h.os, h.tape, h.output, h.block⟩
theorem kp_xt (w x : World) : Kp w (xt w x) := by
  unfold xt
  split
  · assumption
  · exact Kp.refl w
section
variable (w x : World) (a : Addr)
@[go_sem] theorem heap_xt {k : Nat} (h : k < w.heap.size) : (xt w x).heap[k]? = w.heap[k]? := (kp_xt w x).block k h
@[go_sem] theorem cell_xt (b o : Nat) (s : Option Nat) (h : b < w.heap.size) : (xt w x).cell? ⟨b, o, s⟩ = w.cell? ⟨b, o, s⟩ := World.cell?_of_block (w := w) ((kp_xt w x).block _ h)
@[go_sem] theorem cell_xt' (h : a.block < w.heap.size) : (xt w x).cell? a = w.cell? a := World.cell?_of_block (w := w) ((kp_xt w x).block _ h)
@[go_sem] theorem frozen_xt (b o : Nat) (s : Option Nat) (h : b < w.heap.size) : (xt w x).frozen? ⟨b, o, s⟩ = w.frozen? ⟨b, o, s⟩ := World.frozen?_of_block (w := w) ((kp_xt w x).block _ h)
@[go_sem] theorem tape_xt : (xt w x).tape = w.tape := (kp_xt w x).tape
theorem size_xt : w.heap.size ≤ (xt w x).heap.size := (kp_xt w x).size
@[go_sem] theorem lt_xt {n : Nat} (h : n < w.heap.size) : (n < (xt w x).heap.size) = True := eq_true (Nat.lt_of_lt_of_le h (kp_xt w x).size)
@[go_sem] theorem ne_xt {n : Nat} (h : n < w.heap.size) : (n = (xt w x).heap.size) = False := eq_false (Nat.ne_of_lt (Nat.lt_of_lt_of_le h (kp_xt w x).size))
end
@[go_sem] theorem lt_succ_true {n m : Nat} (h : n < m) : (n < m + 1) = True := eq_true (Nat.lt_succ_of_lt h)
@[go_sem] theorem lt_self_succ {n : Nat} : (n < n + 1) = True := eq_true (Nat.lt_succ_self n)
theorem Kp.alloc {w x : World} (h : Kp w x) (o : Obj) : Kp w (x.alloc o) := .of_below (h.below.alloc h.size o)
theorem Kp.drew {w x : World} (h : Kp w x) : Kp w x.drew := ⟨h.size, h.os, h.tape, h.output, h.block⟩
theorem Kp.drewN {w x : World} (h : Kp w x) (n : Nat) : Kp w (x.drewN n) := ⟨h.size, h.os, h.tape, h.output, h.block⟩
theorem Kp.more {w x : World} (h : Kp w x) (y : World) : Kp w (xt x y) := h.trans (kp_xt x y)
theorem Kp.setCell {w x : World} (h : Kp w x) {p : Addr} (hp : w.heap.size ≤ p.block) (u : Value) : Kp w (x.setCell p u) := .of_below (h.below.setCell hp u)

theorem xt_xt (w x y : World) : ∃ z, xt (xt w x) y = xt w z := ((kp_xt w x).trans (kp_xt _ y)).toXt
theorem xt_kp (w x : World) {y : World} (h : Kp (xt w x) y) : ∃ z, y = xt w z := ((kp_xt w x).trans h).toXt
theorem toList_data (s : ByteArray) : s.toList = s.data.toList := ByteArray.toList_eq s
theorem size_data (s : ByteArray) : s.data.toList.length = s.size := by simp
theorem toList_inj {s t : ByteArray} (h : s.toList = t.toList) : s = t := by
  rw [toList_data, toList_data] at h
  obtain ⟨⟨a⟩⟩ := s
  obtain ⟨⟨b⟩⟩ := t
  simp at h
  rw [h]
theorem str_ne {s : ByteArray} (h : 0 < s.size) : s.toList.isEmpty = false := by
  have := size_data s
  rw [toList_data]
  cases hs : s.data.toList with
  | nil => rw [hs] at this; simp at this; omega
  | cons => rfl
/-! ### 2. A block whose content is another: 'sb w b o'; the world but for block b: 'Kb' -/
/-- 'w' with another object as its block b. -/
def sb (w : World) (b : Nat) (o : Obj) : World := { w with heap := w.heap.setIfInBounds b o }
section
variable (w : World) (b : Nat) (o : Obj)
@[go_sem, simp] theorem size_sb : (sb w b o).heap.size = w.heap.size := by simp [sb]
@[go_sem] theorem tape_sb : (sb w b o).tape = w.tape := rfl
theorem heap_sb_same (h : b < w.heap.size) : (sb w b o).heap[b]? = some o := by simp [sb, h]
theorem heap_sb_other {k : Nat} (h : k ≠ b) : (sb w b o).heap[k]? = w.heap[k]? := by
  simp only [sb]
  rw [Array.getElem?_setIfInBounds, if_neg (by omega)]
@[go_sem] theorem cell_sb_same (c : Array Value) (t : TypeId) (fr : Nat × Nat) (i : Nat) (h : b < w.heap.size) : (sb w b (.cells c t fr)).cell? ⟨b, i, none⟩ = c[i]? := by
  simp [World.cell?, heap_sb_same w b _ h]
@[go_sem] theorem cell_sb_other {k : Nat} (i : Nat) (s : Option Nat) (h : k ≠ b) : (sb w b o).cell? ⟨k, i, s⟩ = w.cell? ⟨k, i, s⟩ :=
  World.cell?_of_block (w := w) (heap_sb_other w b o h)
@[go_sem] theorem frozen_sb_same (c : Array Value) (t : TypeId) (i : Nat) (h : b < w.heap.size) : (sb w b (.cells c t (0, 0))).frozen? ⟨b, i, none⟩ = false := by
  simp [World.frozen?, heap_sb_same w b _ h]
@[go_sem] theorem frozen_sb_other {k : Nat} (i : Nat) (s : Option Nat) (h : k ≠ b) : (sb w b o).frozen? ⟨k, i, s⟩ = w.frozen? ⟨k, i, s⟩ :=
  World.frozen?_of_block (w := w) (heap_sb_other w b o h)
@[go_sem] theorem setCell_sb (c : Array Value) (t : TypeId) (fr : Nat × Nat) (i : Nat) (v : Value) (h : b < w.heap.size) : (sb w b (.cells c t fr)).setCell ⟨b, i, none⟩ v = sb w b (.cells (c.setIfInBounds i v) t fr) := by
  simp only [sb, World.setCell]
  congr 1
  apply Array.ext_getElem?
  intro k
  rw [Array.getElem?_modify]
  by_cases hk : b = k
  · subst hk
    simp [h]
  · simp [hk]
@[go_sem] theorem sb_sb (o' : Obj) : sb (sb w b o) b o' = sb w b o' := by simp [sb]
end
/-- All blocks but b are as they were. -/
structure Kb (b : Nat) (w x : World) : Prop where
  size : w.heap.size ≤ x.heap.size
  os : x.os = w.os
  tape : x.tape = w.tape
  output : x.output = w.output
  block : ∀ k, k < w.heap.size → k ≠ b → x.heap[k]? = w.heap[k]?
theorem Kb.refl (b : Nat) (w : World) : Kb b w w := ⟨Nat.le_refl _, rfl, rfl, rfl, fun _ _ _ => rfl⟩
theorem Kb.of_kp {b : Nat} {w x : World} (h : Kp w x) : Kb b w x := ⟨h.size, h.os, h.tape, h.output, fun k hk _ => h.block k hk⟩
theorem Kb.trans {b : Nat} {a c d : World} (h : Kb b a c) (k : Kb b c d) : Kb b a d :=
  ⟨Nat.le_trans h.size k.size, k.os.trans h.os, k.tape.trans h.tape, k.output.trans h.output, fun i hi hb => (k.block i (Nat.lt_of_lt_of_le hi h.size) hb).trans (h.block i hi hb)⟩
theorem Kb.alloc {b : Nat} {w x : World} (h : Kb b w x) (o : Obj) : Kb b w (x.alloc o) := h.trans (.of_kp ((Kp.refl x).alloc o))
theorem Kb.drew {b : Nat} {w x : World} (h : Kb b w x) : Kb b w x.drew := ⟨h.size, h.os, h.tape, h.output, h.block⟩
theorem Kb.drewN {b : Nat} {w x : World} (h : Kb b w x) (n : Nat) : Kb b w (x.drewN n) := ⟨h.size, h.os, h.tape, h.output, h.block⟩
theorem Kb.more {b : Nat} {w x : World} (h : Kb b w x) (y : World) : Kb b w (xt x y) := h.trans (.of_kp (kp_xt x y))
theorem Kb.setB {b : Nat} {w x : World} (h : Kb b w x) (o : Obj) : Kb b w (sb x b o) :=
  ⟨by rw [size_sb]; exact h.size, h.os, h.tape, h.output, fun k hk hb => (heap_sb_other x b o hb).trans (h.block k hk hb)⟩
theorem Kb.setCell {b : Nat} {w x : World} (h : Kb b w x) {p : Addr} (hp : p.block = b ∨ w.heap.size ≤ p.block) (u : Value) : Kb b w (x.setCell p u) :=
  ⟨by simpa using h.size, h.os, h.tape, h.output, fun k hk hb => by rw [Below.heap_setCell _ _ _ _ (by omega)]; exact h.block k hk hb⟩
/-- A world that is another but for block b, which holds o. -/
theorem Kb.out {b : Nat} {w x : World} {o : Obj} (h : Kb b w x) (hb : b < w.heap.size) (ho : x.heap[b]? = some o) : ∃ y, x = sb (xt w y) b o := by
  have hbx : b < x.heap.size := Nat.lt_of_lt_of_le hb h.size
  have hk : Kp w (sb x b (w.heap[b]'hb)) := by
    refine ⟨by rw [size_sb]; exact h.size, h.os, h.tape, h.output, fun k hk => ?_⟩
    by_cases e : k = b
    · subst e
      rw [heap_sb_same x k _ hbx]
      exact (Array.getElem?_eq_getElem hk).symm
    · rw [heap_sb_other x b _ e]
      exact h.block k hk e
  refine ⟨sb x b (w.heap[b]'hb), ?_⟩
  rw [xt, if_pos hk, sb_sb]
  obtain ⟨heap, tape, drawn, os, output⟩ := x
  simp only [sb]
  congr 1
  apply Array.ext_getElem?
  intro k
  rw [Array.getElem?_setIfInBounds]
  split
  · subst_vars
    simp only at ho hbx
    simp [hbx] at ho ⊢
    exact ho
  · rfl

/-! the walk's normal form: 'sb (xt w _) b o' -/
noncomputable def xx (w x y : World) : World := xt (xt w x) y
@[go_sem] theorem xt_norm (w x y : World) : xt (xt w x) y = xt w (xx w x y) := by
  obtain ⟨z, hz⟩ := xt_xt w x y
  have h : Kp w (xx w x y) := by unfold xx; rw [hz]; exact kp_xt w z
  rw [show xt w (xx w x y) = xx w x y from by rw [xt, if_pos h]]
  rfl
open Classical in
noncomputable def xs (w : World) (b : Nat) (o : Obj) (x : World) : World := if h : ∃ y, xt (sb w b o) x = sb (xt w y) b o then h.choose else w
@[go_sem] theorem xt_sb_norm (w : World) (b : Nat) (o : Obj) (x : World) (hb : b < w.heap.size) : xt (sb w b o) x = sb (xt w (xs w b o x)) b o := by
  have h : ∃ y, xt (sb w b o) x = sb (xt w y) b o := by
    refine Kb.out ?_ hb ?_
    · exact ((Kb.refl b w).setB o).more x
    · rw [heap_xt _ _ (by simpa using hb), heap_sb_same w b o hb]
  rw [xs, dif_pos h]
  exact h.choose_spec
@[go_sem] theorem drew_sb (w : World) (b : Nat) (o : Obj) : (sb w b o).drew = sb w.drew b o := rfl
theorem heap_set_same {w : World} {b i : Nat} {cs : Array Value} {t : TypeId} {v : Value} (h : w.heap[b]? = some (.cells cs t (0, 0))) : (w.setCell ⟨b, i, none⟩ v).heap[b]? = some (.cells (cs.setIfInBounds i v) t (0, 0)) := heap_setCell_same w b i cs t v h
/-! ### 3. Contracts -/
/-- A call that returns v and makes memory. -/
def Ret (w : World) (v : Value) (e : Ending) (w' : World) : Prop := e = .returned v ∧ Kp w w'
/-- A call that panics with v and makes memory. -/
def Pan (w : World) (v : Value) (e : Ending) (w' : World) : Prop := e = .panicked [{ v, recovered := false }] ∧ Kp w w'
/-- A call that returns v, makes memory, and leaves o in block b. -/
def RetB (w : World) (b : Nat) (o : Obj) (v : Value) (e : Ending) (w' : World) : Prop := e = .returned v ∧ Kb b w w' ∧ w'.heap[b]? = some o
/-- A call that panics with v, having turned but block b. -/
def PanB (w : World) (b : Nat) (v : Value) (e : Ending) (w' : World) : Prop := e = .panicked [{ v, recovered := false }] ∧ Kb b w w'
theorem ret_of {w w' : World} {u v : Value} (h : u = v) (hk : Kp w w') : Ret w v (.returned u) w' := ⟨by rw [h], hk⟩
theorem retB_of {w w' : World} {b : Nat} {o : Obj} {u v : Value} (h : u = v) (hk : Kb b w w') (ho : w'.heap[b]? = some o) : RetB w b o v (.returned u) w' := ⟨by rw [h], hk, ho⟩
theorem v_bool {a b : Bool} (h : a = b) : Value.bool a = .bool b := by rw [h]
theorem v_int {k : IntKind} {a b : Int} (h : a = b) : Value.int k a = .int k b := by rw [h]
theorem v_str {a b : ByteArray} (h : a = b) : Value.string a = .string b := by rw [h]
section
variable {P : Program} {f : FuncId} {args : Array Value} {w : World} {v : Value} {R : Ending → World → Prop}
theorem Calls_ret (h : Calls P f args w (Ret w v)) (k : ∀ x, R (.returned v) (xt w x)) : Calls P f args w R :=
  h.mono fun e w' ⟨he, hk⟩ => by obtain ⟨y, rfl⟩ := hk.toXt; subst he; exact k y
theorem Calls_retB {b : Nat} {o : Obj} (h : Calls P f args w (RetB w b o v)) (hb : b < w.heap.size) (k : ∀ x, R (.returned v) (sb (xt w x) b o)) : Calls P f args w R :=
  h.mono fun e w' ⟨he, hk, ho⟩ => by obtain ⟨y, rfl⟩ := hk.out hb ho; subst he; exact k y
theorem Calls_panB {b : Nat} (h : Calls P f args w (PanB w b v)) (k : ∀ w', Kb b w w' → R (.panicked [{ v, recovered := false }]) w') : Calls P f args w R :=
  h.mono fun e w' ⟨he, hk⟩ => by subst he; exact k w' hk
theorem Calls_in {x : World} (h : Calls P f args (xt w x) (Ret (xt w x) v)) : Calls P f args (xt w x) fun e w'' => e = .returned v ∧ ∃ y, w'' = xt w y :=
  h.mono fun _ _ ⟨he, hk⟩ => ⟨he, ((kp_xt w x).trans hk).toXt⟩
end
/-- A slice of texts that is read. -/
def Strs (w : World) (v : Value) (l : List ByteArray) : Prop :=
  ∃ a c, v = .slice a l.length c ∧ l.length ≤ 9223372036854775807 ∧ (l = [] ∨ ∃ ad, a = some ad ∧ ad.block < w.heap.size ∧ ∀ j, j < l.length → w.cell? (ad.add j) = some (.string (l.getD j ByteArray.empty)))
theorem strs_lit {w : World} {l : List ByteArray} {cs : Array Value} {t : TypeId} {n m : Nat} (h : cs = (l.map Value.string).toArray) (hn : n = l.length) (hm : l.length ≤ 9223372036854775807) : Strs (w.alloc (.cells cs t)) (.slice (some ⟨w.heap.size, 0, none⟩) n m) l := by
  subst h hn
  refine ⟨_, _, rfl, hm, .inr ⟨_, rfl, by simp, fun j hj => ?_⟩⟩
  have ha : (⟨w.heap.size, 0, none⟩ : Addr).add j = ⟨w.heap.size, j, none⟩ := by unfold Addr.add; split <;> simp_all
  rw [ha]
  simp [hj]
theorem Calls_in_same {P : Program} {f : FuncId} {args : Array Value} {w x : World} {v : Value} (h : Calls P f args (xt w x) fun e w' => e = .returned v ∧ xt w x = w') : Calls P f args (xt w x) fun e w'' => e = .returned v ∧ ∃ y, w'' = xt w y :=
  h.mono fun _ _ ⟨he, hk⟩ => ⟨he, x, hk.symm⟩
/-! ### 4. A region that draws, whose operations read, and whose calls make memory and hand back one value -/
theorem wp_region_xt {P : Program} {id : Nat} {Q : Exit → Act → World → Prop} {a : Act} {w : World} {l : List Oper} (hm : P.follows .mixedOrders = true) (hB : Region.lexB .any l.toArray = true)
    (h : wpQuiet P l.toArray (fun w' => ∃ x, w' = xt w x) (fun a' => ∀ x, Q .normal a' (xt w x)) l a) : (Code.region id l.toArray true).wp P Q a w := by
  refine wp_region_quiet (C := fun w' => ∃ x, w' = xt w x) hm hB ?_ ?_
  · exact Kp.toXt (Kp.drew (Kp.refl w))
  · simpa using h
end Go.Proofs.YtpmheafccfnfjaaGreatDoor
namespace Go.Proofs.YtpmheafccfnfjaaGreatDoor
open Go Go.RowKit
section
variable {P : Program} {ops : Array Oper} {md : Region.Mode} {w : World} {n : Nat}
/-- Each operation behind the n-th waits for the n-th or for one behind it. -/
def laterB (md : Region.Mode) (ops : Array Oper) (n : Nat) : Bool :=
  (List.range ops.size).all fun t => decide (t ≤ n) || (List.range t).any fun j => decide (n ≤ j) && Region.waitsFor md ops t j
/-- While one of the first n has not come up, none of the others may. -/
theorem later_waits (hs : Region.sinkB md ops n = true) (hc : laterB md ops n = true) (hn : n < ops.size) {listed : Array Bool} (inv : HeadInv md ops n listed) {i : Nat} (hi : i < n) (hun : listed.getD i true = false) {t : Nat} (ht : n ≤ t) : t ∉ Region.ready md ops listed := by
  intro hr
  obtain ⟨_, ot, hot, hall⟩ := mem_ready.1 hr
  have htlt : t < ops.size := (Array.getElem?_eq_some_iff.1 hot).1
  have use : ∀ {j : Nat}, Region.waitsFor md ops t j = true → listed.getD j false = true := fun h => by
    obtain ⟨o', ho', e, he, hb, hon⟩ := Region.waitsFor_spec h
    cases ho'.symm.trans hot
    exact hon ▸ hall e he hb
  rcases Nat.lt_or_eq_of_le ht with hlt | heq
  · have h1 := List.all_eq_true.1 hc t (List.mem_range.2 htlt)
    rw [Bool.or_eq_true, decide_eq_true_eq] at h1
    rcases h1 with h1 | h1
    · omega
    · obtain ⟨j, hj, hj2⟩ := List.any_eq_true.1 h1
      rw [Bool.and_eq_true, decide_eq_true_eq] at hj2
      have h2 := use hj2.2
      rw [getD_both (inv.tail j hj2.1 (by have := List.mem_range.1 hj; omega))] at h2
      cases h2
  · subst heq
    -- the greatest of the first n that has not come up
    have key : ∀ d i, n - i = d → i < n → listed.getD i true = false → False := by
      intro d
      induction d using Nat.strongRecOn with
      | _ d ih =>
        intro i hd hi hun
        obtain ⟨j, hj, hj2⟩ := List.any_eq_true.1 (List.all_eq_true.1 hs i (List.mem_range.2 hi))
        rw [Bool.and_eq_true, decide_eq_true_eq] at hj2
        have hjn := List.mem_range.1 hj
        rcases Nat.lt_or_ge j n with hjlt | hge
        · cases hl : listed.getD j false with
          | true =>
            obtain ⟨oj, hoj, e, he, hb, hon⟩ := Region.waitsFor_spec hj2.2
            have h2 := inv.closed j oj hoj hl e he hb
            rw [hon, getD_both hun] at h2
            cases h2
          | false => exact ih (n - j) (by omega) j rfl hjlt (getD_in (by rw [inv.size]; omega) hl)
        · have : j = n := by omega
          subst this
          have h2 := use hj2.2
          rw [getD_both hun] at h2
          cases h2
    exact key _ i rfl hi hun
theorem head_first {i : Nat} {oi : Oper} {v : Value} {L : Array Bool → Act → Prop} (hi : ops[i]? = some oi) (hsel : ∀ (j : Nat) (o : Oper) cs b, ops[j]? = some o → o.op ≠ .select cs b)
    (hw : ∀ {listed : Array Bool}, HeadInv md ops n listed → ∀ {i : Nat}, i < n → listed.getD i true = false → ∀ {t : Nat}, n ≤ t → t ∉ Region.ready md ops listed) (hin : i < n)
    (hdone : ∀ listed a, L listed a → ∀ j ∈ Region.ready md ops listed, n ≤ j) (f : Nat) : ∀ (listed : Array Bool) (a : Act), HeadInv md ops n listed →
      (∀ j oj, ops[j]? = some oj → j ≠ i → listed.getD j true = false → (∀ e ∈ oj.after, Region.binds md e = true → e.on ≠ i) → oi.apart ops oj = true) →
      i ∈ Region.ready md ops listed → YieldsAt P ops w oi v a →
      wpAnyL P md ops w n L f (listed.setIfInBounds i true) (a.put oi.dst v) → wpAnyL P md ops w n L (f + 1) listed a := by
  induction f with
  | zero =>
    intro listed a inv _ hr hy H
    refine ⟨fun h => (by rw [h] at hr; cases hr), fun j hj => ?_⟩
    have hjn : j < n := Nat.lt_of_not_le fun h => hw inv hin (mem_ready.1 hr).1 h hj
    refine ⟨hjn, ?_⟩
    by_cases e : j = i
    · subst e; exact hy.stOp hi H
    · have := hdone _ _ H j (ready_mono hj e)
      omega
  | succ f ih =>
    intro listed a inv hfree hr hy H
    have hun := (mem_ready.1 hr).1
    refine ⟨fun h => (by rw [h] at hr; cases hr), fun j hj => ?_⟩
    have hjn : j < n := Nat.lt_of_not_le fun h => hw inv hin hun h hj
    refine ⟨hjn, ?_⟩
    by_cases e : j = i
    · subst e; exact hy.stOp hi H
    obtain ⟨hju, oj, hoj, hall⟩ := mem_ready.1 hj
    have hno : ∀ e ∈ oj.after, Region.binds md e = true → e.on ≠ i := fun x hx hb hxi => by
      have := hall x hx hb
      rw [hxi, getD_both hun] at this
      cases this
    refine stOp_mono (fun a' h3 => ih _ a' (inv.set hj hjn) (fun k ok hk hki hku hkn => hfree k ok hk hki ?_ hkn) (ready_mono hr (Ne.symm e)) h3.1 ?_)
      (stOp_put hoj (hfree j oj hoj e hju hno) (fun cs b => hsel i oi cs b hi) (fun cs b => hsel j oj cs b hoj) hy (H.2 j (ready_mono hj e)).2)
    · by_cases ejk : j = k
      · subst ejk; exact hju
      · rwa [getD_set_ne true ejk] at hku
    · rw [Array.setIfInBounds_comm _ _ e]
      exact h3.2
/-- The first n in the text's order; then the n-th alone; then the others in the text's order. -/
def headB (md : Region.Mode) (ops : Array Oper) (n : Nat) : Nat → Nat → Array Bool → Bool
  | 0, k, listed => decide (Region.ready md ops listed = [n]) && Region.lexFrom md ops (ops.size - n - 1) (n + 1) (listed.setIfInBounds n true)
  | f + 1, k, listed => (Region.ready md ops listed).contains k && Region.free md ops listed k && headB md ops n f (k + 1) (listed.setIfInBounds k true)
def callB (md : Region.Mode) (ops : Array Oper) (n : Nat) : Bool :=
  Region.noSelect ops && decide (n < ops.size) && Region.sinkB md ops n && laterB md ops n && headB md ops n n 0 (Array.replicate ops.size false)
abbrev endB (md : Region.Mode) (ops : Array Oper) (n : Nat) (listed : Array Bool) : Prop := Region.ready md ops listed = [n] ∧ Region.lexFrom md ops (ops.size - n - 1) (n + 1) (listed.setIfInBounds n true) = true
theorem head_lex {Lq : Act → Prop} (hsel : Region.noSelect ops = true) (hs : Region.sinkB md ops n = true) (hc : laterB md ops n = true) (hn : n < ops.size) :
    ∀ (l : List Oper) (k : Nat) (listed : Array Bool) (a : Act), (∀ j, j < l.length → l[j]? = ops[k + j]?) → k + l.length = n → HeadInv md ops n listed →
    headB md ops n l.length k listed = true → wpStill P ops w Lq l a → wpAnyL P md ops w n (fun listed' a' => endB md ops n listed' ∧ Lq a') l.length listed a
  | [], k, listed, a, _, hk, _, hB, h => by
    simp only [List.length_nil, headB, Bool.and_eq_true, decide_eq_true_eq] at hB
    exact ⟨hB, h⟩
  | o :: l, k, listed, a, hl, hk, inv, hB, h => by
    have h0 : ops[k]? = some o := by simpa using (hl 0 (by simp)).symm
    simp only [List.length_cons, headB, Bool.and_eq_true] at hB
    simp only [List.length_cons] at hk
    have hr : k ∈ Region.ready md ops listed := by simpa using hB.1.1
    obtain ⟨v, hy, hK⟩ := yieldsAt_of_stOp h0 (show stOp P ops w k (wpStill P ops w Lq l) a by unfold stOp; simp only [h0]; exact h)
    refine head_first h0 (Region.noSelect_spec hsel) (fun inv _ hi hun _ ht => later_waits hs hc hn inv hi hun ht) (by omega) ?_ l.length listed a inv (Region.free_spec h0 hB.1.2) hr hy ?_
    · intro listed' a' hL j hj
      rw [hL.1.1] at hj
      simp at hj
      omega
    · exact head_lex hsel hs hc hn l (k + 1) _ _ (fun j hj => by have := hl (j + 1) (by simp; omega); simpa [Nat.add_assoc, Nat.add_comm 1 j] using this) (by omega) (inv.set hr (by omega)) hB.2 hK
end
theorem wp_region_call {P : Program} {id : Nat} {Q : Exit → Act → World → Prop} {a : Act} {w : World} {l : List Oper} (n : Nat) (o : Oper) (ho : l[n]? = some o) (hm : P.follows .mixedOrders = true) (hB : callB .any l.toArray n = true)
    (h : wpStill P l.toArray w.drew (fun a' => wpList P l.toArray (Exit.then (fun a2 w2 => wpQuiet P l.toArray (fun u => u = w2) (fun a3 => Q .normal a3 w2) (l.drop (n + 1)) a2) Q) [o] a' w.drew) (l.take n) a) : (Code.region id l.toArray true).wp P Q a w := by
  simp only [callB, Bool.and_eq_true, decide_eq_true_eq] at hB
  obtain ⟨⟨⟨⟨hsel, hn⟩, hs⟩, hc⟩, hlex⟩ := hB
  have hn' : n < l.length := by simpa using hn
  have htl : (l.take n).length = n := by simp; omega
  have inv0 : HeadInv .any l.toArray n (Array.replicate l.toArray.size false) :=
    ⟨by simp, fun j oj _ hl => (by rw [getD_replicate_false] at hl; cases hl), fun t _ ht => getD_in (by simpa using ht) (getD_replicate_false _ _)⟩
  have H := head_lex (md := .any) hsel hs hc hn (l.take n) 0 _ a (fun j hj => by
    have hj' : j < n := by rw [htl] at hj; exact hj
    simp [hj']) (by simpa using htl) inv0 (by rw [htl]; exact hlex) h
  refine wp_region_any hm ?_
  have := wpAny_of_head (Q' := Q) (g := (l.drop (n + 1)).length + 1) (fun listed a' hL => by
    obtain ⟨⟨hrd, hlx⟩, hop⟩ := hL
    refine ⟨fun h1 => (by rw [hrd] at h1; cases h1), fun i hi => ?_⟩
    rw [hrd] at hi
    have hin : i = n := by simpa using hi
    subst hin
    have h0 : l.toArray[i]? = some o := by simpa using ho
    have hw : wpOp P l.toArray Q i (fun a2 w2 => wpQuiet P l.toArray (fun u => u = w2) (fun a3 => Q .normal a3 w2) (l.drop (i + 1)) a2) a' w.drew := by
      unfold wpOp
      simp only [h0]
      exact hop
    refine wpOp_mono (fun a2 w2 h2 => ?_) hw
    refine wpAny_of_quiet (C := fun u => u = w2) (Q := fun a3 => Q .normal a3 w2) (fun a3 w3 hw3 hq => by subst hw3; exact hq) _ _ _ _ rfl ?_
    exact wpAnyQ_lex hsel (l.drop (i + 1)) (i + 1) _ a2 (fun j => by simp [List.getElem?_drop]) (by
      have e : (l.drop (i + 1)).length = l.toArray.size - i - 1 := by simp; omega
      rw [e]; exact hlx) h2) _ _ _ H
  have e : (l.take n).length + ((l.drop (n + 1)).length + 1) = l.toArray.size := by simp; omega
  rw [e] at this
  exact this
/-! ### A region of few orders, order by order -/
section
variable {P : Program} {l : List Oper} {md : Region.Mode} {Q : Exit → Act → World → Prop} {a : Act} {w : World} {f : Nat} {listed : Array Bool}
theorem wpOp_of_list {K : Act → World → Prop} {i : Nat} {o : Oper} (ho : l[i]? = some o) (h : wpList P l.toArray (Exit.then K Q) [o] a w) : wpOp P l.toArray Q i K a w := by
  have h0 : l.toArray[i]? = some o := by simpa using ho
  unfold wpOp
  simp only [h0]
  exact h
theorem wpAny_one {i : Nat} {o : Oper} (hr : Region.ready md l.toArray listed = [i]) (ho : l[i]? = some o) (h : wpList P l.toArray (Exit.then (wpAny P md l.toArray Q f (listed.setIfInBounds i true)) Q) [o] a w) : wpAny P md l.toArray Q (f + 1) listed a w :=
  ⟨fun e => (by rw [hr] at e; cases e), fun j hj => by
    rw [hr] at hj
    obtain rfl : j = i := by simpa using hj
    exact wpOp_of_list ho h⟩
theorem wpAny_two {i j : Nat} {oi oj : Oper} (hr : Region.ready md l.toArray listed = [i, j]) (hi : l[i]? = some oi) (hj : l[j]? = some oj) (h1 : wpList P l.toArray (Exit.then (wpAny P md l.toArray Q f (listed.setIfInBounds i true)) Q) [oi] a w)
    (h2 : wpList P l.toArray (Exit.then (wpAny P md l.toArray Q f (listed.setIfInBounds j true)) Q) [oj] a w) : wpAny P md l.toArray Q (f + 1) listed a w :=
  ⟨fun e => (by rw [hr] at e; cases e), fun k hk => by
    rw [hr] at hk
    simp at hk
    rcases hk with rfl | rfl
    · exact wpOp_of_list hi h1
    · exact wpOp_of_list hj h2⟩
theorem wpAny_end (hr : Region.ready md l.toArray listed = []) (h : Q .normal a w) : wpAny P md l.toArray Q 0 listed a w := ⟨hr, h⟩
theorem wp_region_each {id : Nat} (n : Nat) (hn : l.length = n) (hm : P.follows .mixedOrders = true) (h : wpAny P .any l.toArray Q n (Array.replicate n false) a w.drew) : (Code.region id l.toArray true).wp P Q a w := by
  subst hn
  refine wp_region_any hm ?_
  simpa using h
end
end Go.Proofs.YtpmheafccfnfjaaGreatDoor
namespace Go.Proofs.YtpmheafccfnfjaaGreatDoor
open Go Go.RowKit
abbrev Bs := List UInt8
def smallZ (c : Int) : Bool := decide (97 ≤ c ∧ c ≤ 122)
def digitZ (c : Int) : Bool := decide (48 ≤ c ∧ c ≤ 57)
def innerZ (c : Int) : Bool := decide ((97 ≤ c ∧ c ≤ 122) ∨ (48 ≤ c ∧ c ≤ 57) ∨ c = 95)
def inn (c : UInt8) : Bool := innerZ (c.toNat : Int)
/-- Byte k of a text; 0 behind its end. -/
def bt (s : ByteArray) (k : Nat) : Int := if h : k < s.size then ((s[k]'h).toNat : Int) else 0
theorem bt_of {s : ByteArray} {k : Nat} (h : k < s.size) : ((s[k]'h).toNat : Int) = bt s k := by simp [bt, h]
theorem bt_range (s : ByteArray) (k : Nat) : 0 ≤ bt s k ∧ bt s k ≤ 255 := by
  unfold bt
  split
  · have := UInt8.toNat_lt (s[k]'(by assumption))
    omega
  · omega
theorem bt_list {s : ByteArray} {k : Nat} (h : k < s.size) : bt s k = ((s.data.toList[k]'(by simpa using h)).toNat : Int) := by simp [bt, h]; rfl
/-- Where the blanks from n on end. -/
def skipN (s : ByteArray) (n : Nat) : Nat := n + ((s.data.toList.drop n).takeWhile (· == 32)).length
theorem bt_eq {s : ByteArray} {k : Nat} (h : k < s.size) (c : UInt8) : bt s k = (c.toNat : Int) ↔ s.data.toList[k]'(by simpa using h) = c := by
  rw [bt_list h]
  constructor
  · intro e
    exact UInt8.toNat_inj.1 (by exact_mod_cast e)
  · intro e; rw [e]
theorem tw_len {p : UInt8 → Bool} {l : Bs} {m : Nat} (hm : m ≤ l.length) (h1 : ∀ j (hj : j < l.length), j < m → p l[j] = true) (h2 : ∀ h : m < l.length, p l[m] = false) : (l.takeWhile p).length = m := by
  induction l generalizing m with
  | nil => simp at hm ⊢; omega
  | cons c t ih =>
    cases m with
    | zero =>
      have := h2 (by simp)
      simp at this
      simp [this]
    | succ m =>
      have hc := h1 0 (by simp) (by omega)
      simp at hc
      simp only [List.takeWhile_cons, hc, if_true, List.length_cons]
      congr 1
      exact ih (by simpa using hm) (fun j hj hjm => h1 (j + 1) (by simpa using hj) (by omega)) (fun h => h2 (by simpa using h))
theorem skipN_of {s : ByteArray} {n k : Nat} (hn : n ≤ k) (hk : k ≤ s.size) (h1 : ∀ j, n ≤ j → j < k → bt s j = 32) (h2 : k < s.size → bt s k ≠ 32) : skipN s n = k := by
  have hl := size_data s
  have : ((s.data.toList.drop n).takeWhile (· == 32)).length = k - n := by
    refine tw_len (by simp only [List.length_drop]; omega) (fun j hj hjk => ?_) (fun h => ?_)
    · have e := h1 (n + j) (by omega) (by omega)
      rw [List.getElem_drop, beq_iff_eq]
      exact (bt_eq (by omega) 32).1 e
    · simp only [List.length_drop] at h
      have e := h2 (by omega)
      rw [List.getElem_drop, beq_eq_false_iff_ne]
      intro e'
      apply e
      have : n + (k - n) = k := by omega
      simp only [this] at e'
      exact (bt_eq (by omega) 32).2 e'
  unfold skipN
  omega
/-- 1.1: a name. -/
def nameOK (l : Bs) : Bool := match l with
  | [] => false
  | c :: _ => decide (l.length ≤ 16) && smallZ (c.toNat : Int) && l.all inn
theorem nameOK_of {s : ByteArray} (h0 : 0 < s.size) (h1 : s.size ≤ 16) (h2 : smallZ (bt s 0) = true) (h3 : ∀ j, j < s.size → innerZ (bt s j) = true) : nameOK s.data.toList = true := by
  have hl : s.data.toList.length = s.size := by simp
  cases hs : s.data.toList with
  | nil => simp [hs] at hl; omega
  | cons c t =>
    have hc : bt s 0 = (c.toNat : Int) := by rw [bt_list h0]; simp [hs]
    rw [hs] at hl
    simp only [nameOK, Bool.and_eq_true, decide_eq_true_eq, List.all_eq_true]
    refine ⟨⟨by omega, hc ▸ h2⟩, fun x hx => ?_⟩
    obtain ⟨j, hj, rfl⟩ := List.getElem_of_mem hx
    have := h3 j (by omega)
    rw [bt_list (by omega)] at this
    simp only [hs] at this
    exact this
theorem nameOK_not {s : ByteArray} (h : s.size = 0 ∨ 16 < s.size ∨ smallZ (bt s 0) = false ∨ ∃ j, j < s.size ∧ innerZ (bt s j) = false) : nameOK s.data.toList = false := by
  have hl : s.data.toList.length = s.size := by simp
  cases hs : s.data.toList with
  | nil => rfl
  | cons c t =>
    have hp : 0 < s.size := by rw [hs] at hl; simp at hl; omega
    have hc : bt s 0 = (c.toNat : Int) := by rw [bt_list hp]; simp [hs]
    rw [hs] at hl
    rw [Bool.eq_false_iff]
    intro hn
    simp only [nameOK, Bool.and_eq_true, decide_eq_true_eq, List.all_eq_true] at hn
    rcases h with h | h | h | ⟨j, hj, h⟩
    · omega
    · omega
    · rw [hc, hn.1.2] at h; cases h
    · rw [bt_list hj] at h
      simp only [hs] at h
      have := hn.2 _ (List.getElem_mem (l := c :: t) (n := j) (by omega))
      rw [inn, h] at this; cases this
/-- The first place at which p holds. -/
def idxP {α : Type} (p : α → Bool) (l : List α) : Int := match l.findIdx? p with
  | some i => i
  | none => -1
theorem idxP_hit {α : Type} {p : α → Bool} {l : List α} {k : Nat} (h : k < l.length) (hp : p l[k] = true) (hn : ∀ j (hj : j < k), p (l[j]'(Nat.lt_trans hj h)) = false) : idxP p l = k := by
  have : l.findIdx? p = some k := List.findIdx?_eq_some_iff_getElem.2 ⟨h, hp, fun j hj => by simp [hn j hj]⟩
  simp [idxP, this]
theorem idxP_miss {α : Type} {p : α → Bool} {l : List α} (hn : ∀ j (hj : j < l.length), p l[j] = false) : idxP p l = -1 := by
  have : l.findIdx? p = none := List.findIdx?_eq_none_iff.2 fun x hx => by
    obtain ⟨j, hj, rfl⟩ := List.getElem_of_mem hx
    exact hn j hj
  simp [idxP, this]
/-- slices.Index at texts. -/
def idxOf (l : List ByteArray) (s : ByteArray) : Int := idxP (fun x => s.toList == x.toList) l
theorem idxOf_hit {l : List ByteArray} {s : ByteArray} {k : Nat} (h : k < l.length) (hp : (s.toList == l[k].toList) = true) (hn : ∀ j (hj : j < l.length), j < k → (s.toList == l[j].toList) = false) : idxOf l s = k :=
  idxP_hit h hp fun j hj => hn j _ hj
theorem idxOf_miss {l : List ByteArray} {s : ByteArray} (hn : ∀ j (hj : j < l.length), (s.toList == l[j].toList) = false) : idxOf l s = -1 := idxP_miss hn
/-- slices.Contains at texts. -/
def hasS (l : List ByteArray) (s : ByteArray) : Bool := l.any (fun x => s.toList == x.toList)
theorem hasS_idx (l : List ByteArray) (s : ByteArray) : hasS l s = decide (0 ≤ idxOf l s) := by
  unfold hasS idxOf idxP
  cases h : l.findIdx? (fun x => s.toList == x.toList) with
  | none =>
    rw [List.findIdx?_eq_none_iff] at h
    simpa using h
  | some i =>
    obtain ⟨hi, hp, _⟩ := List.findIdx?_eq_some_iff_getElem.1 h
    have : l.any (fun x => s.toList == x.toList) = true := List.any_eq_true.2 ⟨_, List.getElem_mem hi, hp⟩
    rw [this]
    simp
end Go.Proofs.YtpmheafccfnfjaaGreatDoor
namespace Go.Proofs.YtpmheafccfnfjaaGreatDoor
open Go Go.RowKit
theorem small_ret (c : Int) (w : World) : Calls Tryz.prog 113 #[.int .u8 c] w (Ret w (.bool (smallZ c))) := by
  by_cases h1 : 97 ≤ c <;> by_cases h2 : c ≤ 122
  all_goals
    go_enter Tryz.func113, Tryz.ntmps113
    go_wp2
    go_ret
    exact ⟨by simp [smallZ, *], Kp.refl _⟩
theorem inner_ret (c : Int) (w : World) : Calls Tryz.prog 114 #[.int .u8 c] w (Ret w (.bool (innerZ c))) := by
  by_cases h1 : 97 ≤ c ∧ c ≤ 122
  · have hs : smallZ c = true := by simp [smallZ, h1]
    have H := small_ret c
    rw [hs] at H
    have H := Lib.hid H
    go_enter Tryz.func114, Tryz.ntmps114
    go_wp2_with (go_at_call 113; refine Calls_ret (H.out _) ?_; intro x1)
    go_ret
    exact ⟨by simp [innerZ, h1], Kp.more (Kp.refl _) _⟩
  · have hs : smallZ c = false := by simp [smallZ]; omega
    have H := small_ret c
    rw [hs] at H
    have H := Lib.hid H
    by_cases h2 : 48 ≤ c <;> by_cases h3 : c ≤ 57 <;> by_cases h4 : (c == 95) = true
    all_goals
      go_enter Tryz.func114, Tryz.ntmps114
      go_wp2_with (go_at_call 113; refine Calls_ret (H.out _) ?_; intro x1)
      all_goals go_ret
      all_goals simp only [beq_iff_eq] at h4
      all_goals exact ret_of (v_bool (by rw [Bool.eq_iff_iff]; simp [innerZ]; omega)) (Kp.more (Kp.refl _) _)
end Go.Proofs.YtpmheafccfnfjaaGreatDoor
namespace Go.Proofs.YtpmheafccfnfjaaGreatDoor
open Go Go.RowKit
set_option maxHeartbeats 400000 in
theorem index_some (l : List ByteArray) (s : ByteArray) (ad : Addr) (c : Nat) (w : World) (hl : l.length ≤ 9223372036854775807)
    (hc : ∀ j, j < l.length → w.cell? (ad.add j) = some (.string (l.getD j ByteArray.empty))) :
    Calls Tryz.prog 69 #[.slice (some ad) l.length c, .string s] w (Ret w (.int .i64 (idxOf l s))) := by
  have HC := Lib.hid hc
  clear hc
  go_enter Tryz.func69, Tryz.ntmps69
  go_wp2
  go_loop [8] (fun i => ∃ k : Nat, k ≤ l.length ∧ i = .int .i64 k ∧ Hid (∀ j (hj : j < l.length), j < k → (s.toList == l[j].toList) = false)) (fun i => l.length - (intOf i).toNat)
  case atStart => exact ⟨0, Nat.zero_le _, rfl, fun j _ h => absurd h (Nat.not_lt_zero _)⟩
  case round =>
    obtain ⟨k, hk, rfl, HN⟩ := hrel
    by_cases hlt : k < l.length
    · have g := HC.out k hlt
      go_wp2
      · have he : (s.toList == l[k].toList) = true := by assumption
        go_ret
        exact ret_of (v_int (idxOf_hit hlt he HN.out).symm) (Kp.refl _)
      · have he : (s.toList == l[k].toList) = false := by assumption
        go_round
        case rel =>
          refine ⟨k + 1, by omega, by go_num, fun j hj hjk => ?_⟩
          rcases Nat.lt_succ_iff_lt_or_eq.1 hjk with h | rfl
          · exact HN.out j hj h
          · exact he
        case measure => simp [intOf]; omega
    · go_wp2
      go_ret
      exact ret_of (v_int (idxOf_miss fun j hj => HN.out j hj (by omega)).symm) (Kp.refl _)
theorem index_nil (a : Option Addr) (s : ByteArray) (c : Nat) (w : World) :
    Calls Tryz.prog 69 #[.slice a 0 c, .string s] w (Ret w (.int .i64 (-1))) := by
  go_enter Tryz.func69, Tryz.ntmps69
  go_wp2
  go_loop [8] (fun i => i = .int .i64 0) (fun _ => 0)
  case atStart => rfl
  case round =>
    subst hrel
    go_wp2
    go_ret
    exact ret_of rfl (Kp.refl _)
theorem index_ret {l : List ByteArray} {v : Value} {w : World} (h : Strs w v l) (s : ByteArray) : Calls Tryz.prog 69 #[v, .string s] w (Ret w (.int .i64 (idxOf l s))) := by
  obtain ⟨a, c, rfl, hl, rfl | ⟨ad, rfl, _, hc⟩⟩ := h
  · exact index_nil a s c w
  · exact index_some l s ad c w hl hc
theorem contains_ret {l : List ByteArray} {v : Value} {w : World} (h : Strs w v l) (s : ByteArray) : Calls Tryz.prog 100 #[v, .string s] w (Ret w (.bool (hasS l s))) := by
  have H := Lib.hid (index_ret h s)
  have he := hasS_idx l s
  rw [he]
  clear he h
  generalize idxOf l s = k at *
  go_enter Tryz.func100, Tryz.ntmps100
  go_wp2_with (go_at_call 69; refine Calls_ret H.out ?_; intro x1)
  go_ret
  exact ret_of rfl (Kp.more (Kp.refl _) _)
def kwords : List ByteArray := [⟨#[97, 110, 100]⟩, ⟨#[111, 114]⟩, ⟨#[110, 111, 116]⟩, ⟨#[116, 114, 117, 101]⟩, ⟨#[102, 97, 108, 115, 101]⟩]
theorem kept_ret (s : ByteArray) (w : World) : Calls Tryz.prog 66 #[.string s] w (Ret w (.bool (hasS kwords s))) := by
  go_enter Tryz.func66, Tryz.ntmps66
  go_wp2_with (go_at_call 100; refine Calls_ret (contains_ret (strs_lit (l := kwords) rfl rfl (by decide)) s) ?_; intro x1)
  go_ret
  exact ret_of rfl (Kp.more ((Kp.refl _).alloc _) _)
theorem cinner_ret (c : Int) (w : World) : Calls Tryz.prog 160 #[.int .u8 c] w (Ret w (.bool (innerZ c))) := by
  by_cases h0 : 97 ≤ c <;> by_cases h1 : c ≤ 122 <;> by_cases h2 : 48 ≤ c <;> by_cases h3 : c ≤ 57 <;> by_cases h4 : (c == 95) = true
  all_goals
    go_enter Tryz.func160, Tryz.ntmps160
    go_wp2
    all_goals go_ret
    all_goals simp only [beq_iff_eq] at h4
    all_goals exact ret_of (v_bool (by rw [Bool.eq_iff_iff]; simp [innerZ]; omega)) (Kp.refl _)
theorem digit_ret (c : Int) (w : World) : Calls Tryz.prog 161 #[.int .u8 c] w (Ret w (.bool (digitZ c))) := by
  by_cases h0 : 48 ≤ c <;> by_cases h1 : c ≤ 57
  all_goals
    go_enter Tryz.func161, Tryz.ntmps161
    go_wp2
    go_ret
    exact ret_of (v_bool (by rw [Bool.eq_iff_iff]; simp [digitZ]; omega)) (Kp.refl _)
end Go.Proofs.YtpmheafccfnfjaaGreatDoor
namespace Go.Proofs.YtpmheafccfnfjaaGreatDoor
open Go Go.RowKit
set_option maxHeartbeats 400000 in
theorem name_loop (s : ByteArray) (w : World) (h0 : 0 < s.size) (h1 : s.size ≤ 16) (h2 : smallZ (bt s 0) = true) :
    Calls Tryz.prog 65 #[.string s] w (Ret w (.bool (nameOK s.data.toList))) := by
  have H := small_ret (bt s 0)
  rw [h2, ← bt_of h0] at H
  have HS := Lib.hid H
  clear H
  have hne := str_ne h0
  go_enter Tryz.func65, Tryz.ntmps65
  go_wp2_with (go_at_call 113; refine Calls_ret (HS.out _) ?_; intro x1)
  go_loopw [19] (fun i wr => ∃ k x, k ≤ s.size ∧ i = .int .i64 k ∧ wr = xt w x ∧ Hid (∀ j, j < k → innerZ (bt s j) = true)) (fun i _ => s.size - (intOf i).toNat)
  case atStart => exact ⟨0, x1, Nat.zero_le _, rfl, rfl, fun j h => absurd h (Nat.not_lt_zero _)⟩
  case round =>
    obtain ⟨k, x, hk, rfl, rfl, HN⟩ := hrel
    by_cases hlt : k < s.size
    · have HI := inner_ret (bt s k)
      rw [← bt_of hlt] at HI
      have HI := Lib.hid HI
      cases hi : innerZ ((s[k]'hlt).toNat : Int)
      · rw [hi] at HI
        go_wp2_with (go_at_call 114; refine Calls_ret (HI.out _) ?_; intro x2)
        go_ret
        exact ret_of (v_bool (nameOK_not (.inr (.inr (.inr ⟨k, hlt, by rw [← bt_of hlt]; exact hi⟩)))).symm) (kp_xt _ _)
      · rw [hi] at HI
        go_wp2_with (go_at_call 114; refine Calls_ret (HI.out _) ?_; intro x2)
        go_roundw
        case rel =>
          refine ⟨k + 1, _, by omega, by go_num, rfl, fun j hj => ?_⟩
          rcases Nat.lt_succ_iff_lt_or_eq.1 hj with h | rfl
          · exact HN.out j h
          · rw [← bt_of hlt]; exact hi
        case measure => simp [intOf]; omega
    · go_wp2
      go_ret
      exact ret_of (v_bool (nameOK_of h0 h1 h2 (fun j hj => HN.out j (by omega))).symm) (kp_xt _ _)
theorem name_ret (s : ByteArray) (w : World) (hs : s.size ≤ 9223372036854775807) : Calls Tryz.prog 65 #[.string s] w (Ret w (.bool (nameOK s.data.toList))) := by
  by_cases h0 : 0 < s.size
  · have hne := str_ne h0
    by_cases h1 : s.size ≤ 16
    · cases h2 : smallZ (bt s 0)
      · have H := small_ret (bt s 0)
        rw [h2, ← bt_of h0] at H
        have HS := Lib.hid H
        clear H
        go_enter Tryz.func65, Tryz.ntmps65
        go_wp2_with (go_at_call 113; refine Calls_ret (HS.out _) ?_; intro x1)
        go_ret
        exact ret_of (v_bool (nameOK_not (.inr (.inr (.inl h2)))).symm) (kp_xt _ _)
      · exact name_loop s w h0 h1 h2
    · go_enter Tryz.func65, Tryz.ntmps65
      go_wp2
      go_ret
      exact ret_of (v_bool (nameOK_not (.inr (.inl (by omega)))).symm) (Kp.refl _)
  · have hz : s.toList = [] := by
      have := size_data s
      rw [toList_data]
      exact List.eq_nil_of_length_eq_zero (by omega)
    go_enter Tryz.func65, Tryz.ntmps65
    go_wp2
    go_ret
    exact ret_of (v_bool (nameOK_not (.inl (by omega))).symm) (Kp.refl _)
end Go.Proofs.YtpmheafccfnfjaaGreatDoor
namespace Go.Proofs.YtpmheafccfnfjaaGreatDoor
open Go Go.RowKit
/-- A value as it lies in memory. -/
abbrev vv (k n : Int) (s : ByteArray) : Value := .agg #[.int .i64 k, .int .i64 n, .string s]
def withinZ (n lo hi : Int) : Bool := decide (lo ≤ n ∧ n ≤ hi)
/-- 1.1: a valid value. -/
def validV (k n : Int) (s : ByteArray) : Bool := decide ((k = 1 ∧ s.size = 0 ∧ -1000000000 ≤ n ∧ n ≤ 1000000000) ∨ (k = 2 ∧ n = 0 ∧ s.size ≤ 40))
theorem within_ret (n lo hi : Int) (w : World) : Calls Tryz.prog 130 #[.int .i64 n, .int .i64 lo, .int .i64 hi] w fun e w' => e = .returned (.bool (withinZ n lo hi)) ∧ w = w' := by
  by_cases h1 : lo ≤ n <;> by_cases h2 : n ≤ hi
  all_goals
    go_enter Tryz.func130, Tryz.ntmps130
    go_wp2
    go_ret
    exact ⟨by simp [withinZ, *], rfl⟩
@[go_sem] def fn0 (f : FuncId) : Value := .func (.func f) #[] #[]
theorem checks_ret (w : World) : Calls Tryz.prog 131 #[] w (Ret w (.agg #[fn0 164, fn0 165, fn0 166])) := by
  go_enter Tryz.func131, Tryz.ntmps131
  go_wp2
  refine bodyPost_ret (v := .agg #[fn0 164, fn0 165, fn0 166]) (by simp [results, Tryz.results131, go_sem, fn0]) rfl ?_
  exact ret_of rfl ((Kp.refl _).alloc _)
theorem chk1_ret (k n : Int) (s : ByteArray) (w : World) : Calls Tryz.prog 164 #[vv k n s] w (Ret w (.bool false)) := by
  go_enter Tryz.func164, Tryz.ntmps164
  go_wp2
  go_ret
  exact ret_of rfl ((Kp.refl _).alloc _)
theorem chk2_ret (k n : Int) (s : ByteArray) (w : World) : Calls Tryz.prog 165 #[vv k n s] w (Ret w (.bool (decide (s.size = 0) && withinZ n (-1000000000) 1000000000))) := by
  have H := Lib.hid (within_ret n (-1000000000) 1000000000)
  by_cases h0 : 0 < s.size
  · have hne := str_ne h0
    go_enter Tryz.func165, Tryz.ntmps165
    go_wp2
    go_ret
    exact ret_of (v_bool (by rw [decide_eq_false (by omega)]; rfl)) ((Kp.refl _).alloc _)
  · have hz : s.toList = [] := by
      rw [toList_data]
      exact List.eq_nil_of_length_eq_zero (by rw [size_data]; omega)
    generalize withinZ n (-1000000000) 1000000000 = v at *
    go_enter Tryz.func165, Tryz.ntmps165
    go_wp2_with (go_at_call 130; refine (H.out _).mono ?_; rintro e w' ⟨rfl, rfl⟩)
    go_ret
    exact ret_of (v_bool (by rw [decide_eq_true (by omega)]; simp)) ((Kp.refl _).alloc _)
theorem chk3_ret (k n : Int) (s : ByteArray) (w : World) : Calls Tryz.prog 166 #[vv k n s] w (Ret w (.bool (decide (n = 0 ∧ s.size ≤ 40)))) := by
  by_cases h0 : (n == 0) = true <;> by_cases h1 : s.size ≤ 40
  all_goals
    go_enter Tryz.func166, Tryz.ntmps166
    go_wp2
    go_ret
    simp only [beq_iff_eq] at h0
    exact ret_of (v_bool (by simp [h0]; try omega)) ((Kp.refl _).alloc _)
@[go_sem] theorem ixc0 (a b c : Value) (w : World) : (Instr.index 164 (.agg #[a, b, c]) (.int .i64 0)).run Tryz.prog w = .ok a w := by kernel_rfl
@[go_sem] theorem ixc1 (a b c : Value) (w : World) : (Instr.index 164 (.agg #[a, b, c]) (.int .i64 1)).run Tryz.prog w = .ok b w := by kernel_rfl
@[go_sem] theorem ixc2 (a b c : Value) (w : World) : (Instr.index 164 (.agg #[a, b, c]) (.int .i64 2)).run Tryz.prog w = .ok c w := by kernel_rfl
set_option maxHeartbeats 400000 in
theorem valid_ret (k n : Int) (s : ByteArray) (w : World) : Calls Tryz.prog 83 #[vv k n s] w (Ret w (.bool (validV k n s))) := by
  by_cases hk : 0 ≤ k ∧ k ≤ 2
  · have hw : withinZ k 0 2 = true := decide_eq_true hk
    have H := within_ret k 0 2
    rw [hw] at H
    have H := Lib.hid H
    have hk3 : k = 0 ∨ k = 1 ∨ k = 2 := by omega
    clear hw hk
    rcases hk3 with rfl | rfl | rfl
    · go_enter Tryz.func83, Tryz.ntmps83
      go_wp2
      refine wp_region_xt (by kernel_rfl) (by kernel_rfl) ?_
      repeat (go_big_quiet_step (first | (with_reducible exact Calls_in_same (H.out _)) | (with_reducible exact Calls_in (checks_ret _)) | (with_reducible exact Calls_in (chk1_ret _ _ _ _))))
      refine wpQuiet_nil ?_
      intro x1
      go_wp2
      go_ret
      exact ret_of (v_bool (by simp [validV])) (((Kp.refl _).alloc _).more _)
    · have h2 := chk2_ret 1 n s
      have H2 := Lib.hid h2
      clear h2
      go_enter Tryz.func83, Tryz.ntmps83
      go_wp2
      refine wp_region_xt (by kernel_rfl) (by kernel_rfl) ?_
      repeat (go_big_quiet_step (first | (with_reducible exact Calls_in_same (H.out _)) | (with_reducible exact Calls_in (checks_ret _)) | (with_reducible exact Calls_in (H2.out _))))
      refine wpQuiet_nil ?_
      intro x1
      go_wp2
      go_ret
      exact ret_of (v_bool (by rw [Bool.eq_iff_iff]; simp [validV, withinZ]; try omega)) (((Kp.refl _).alloc _).more _)
    · have h2 := chk3_ret 2 n s
      have H2 := Lib.hid h2
      clear h2
      go_enter Tryz.func83, Tryz.ntmps83
      go_wp2
      refine wp_region_xt (by kernel_rfl) (by kernel_rfl) ?_
      repeat (go_big_quiet_step (first | (with_reducible exact Calls_in_same (H.out _)) | (with_reducible exact Calls_in (checks_ret _)) | (with_reducible exact Calls_in (H2.out _))))
      refine wpQuiet_nil ?_
      intro x1
      go_wp2
      go_ret
      exact ret_of (v_bool (by rw [Bool.eq_iff_iff]; simp [validV, withinZ]; try omega)) (((Kp.refl _).alloc _).more _)
  · have hw : withinZ k 0 2 = false := decide_eq_false hk
    have H := within_ret k 0 2
    rw [hw] at H
    have H := Lib.hid H
    go_enter Tryz.func83, Tryz.ntmps83
    go_wp2
    refine wp_region_xt (by kernel_rfl) (by kernel_rfl) ?_
    repeat (go_big_quiet_step (first | (with_reducible exact Calls_in_same (H.out _))))
    refine wpQuiet_nil ?_
    intro x1
    go_wp2
    go_ret
    exact ret_of (v_bool (by rw [validV, decide_eq_false (by omega)])) (((Kp.refl _).alloc _).more _)
end Go.Proofs.YtpmheafccfnfjaaGreatDoor
namespace Go.Proofs.YtpmheafccfnfjaaGreatDoor
open Go Go.RowKit
/-- Block b is cond's reader over s at n. -/
@[go_sem] def rdO (s : ByteArray) (n d : Int) : Obj := .cells #[.string s, .int .i64 n, .int .i64 d] 154 (0, 0)
def IsRd (w : World) (b : Nat) (s : ByteArray) (n d : Int) : Prop := w.heap[b]? = some (rdO s n d)
section
variable {w : World} {b : Nat} {s : ByteArray} {n d : Int}
theorem IsRd.lt (h : IsRd w b s n d) : b < w.heap.size := (Array.getElem?_eq_some_iff.1 h).1
theorem IsRd.c0 (h : IsRd w b s n d) : w.cell? ⟨b, 0, none⟩ = some (.string s) := by simp [World.cell?, show w.heap[b]? = _ from h, rdO]
theorem IsRd.c1 (h : IsRd w b s n d) : w.cell? ⟨b, 1, none⟩ = some (.int .i64 n) := by simp [World.cell?, show w.heap[b]? = _ from h, rdO]
theorem IsRd.c2 (h : IsRd w b s n d) : w.cell? ⟨b, 2, none⟩ = some (.int .i64 d) := by simp [World.cell?, show w.heap[b]? = _ from h, rdO]
theorem IsRd.fz (h : IsRd w b s n d) (i : Nat) : w.frozen? ⟨b, i, none⟩ = false := by simp [World.frozen?, show w.heap[b]? = _ from h, rdO]
theorem IsRd.sbw (h : IsRd w b s n d) : sb w b (rdO s n d) = w := by
  obtain ⟨heap, tape, drawn, os, output⟩ := w
  simp only [sb]
  congr 1
  apply Array.ext_getElem?
  intro k
  rw [Array.getElem?_setIfInBounds]
  split
  · subst_vars
    have := h.lt
    simp only at this
    rw [if_pos this]
    exact h.symm
  · rfl
end
theorem rd_eq {W : World} {b : Nat} {s : ByteArray} {n n' d d' : Int} (h : n = n') (hd : d = d') : sb W b (.cells #[.string s, .int .i64 n, .int .i64 d] 154 (0, 0)) = sb W b (rdO s n' d') := by rw [h, hd]; rfl
/-- The place in a reader. -/
def rdN (w : World) (b : Nat) : Nat := match w.cell? ⟨b, 1, none⟩ with | some v => (intOf v).toNat | none => 0
theorem rdN_sb {W : World} {b : Nat} {x y : Value} {n : Int} {t : TypeId} (hb : b < W.heap.size) : rdN (sb W b (.cells #[x, .int .i64 n, y] t (0, 0))) b = n.toNat := by
  unfold rdN
  rw [cell_sb_same _ _ _ _ _ _ hb]
  rfl
theorem retB_1 {w x : World} {b : Nat} {o o' : Obj} {u v : Value} (hb : b < w.heap.size) (h : u = v) (ho : o = o') : RetB w b o' v (.returned u) (sb (xt w x) b o) := by
  subst h ho
  exact ⟨rfl, ((Kb.refl b w).more x).setB o, heap_sb_same _ _ _ (Nat.lt_of_lt_of_le hb (size_xt _ _))⟩
theorem retB_2 {w x y : World} {b : Nat} {o o' : Obj} {u v : Value} (hb : b < w.heap.size) (h : u = v) (ho : o = o') : RetB w b o' v (.returned u) (xt (sb (xt w x) b o) y) := by
  rw [xt_sb_norm _ _ _ _ (Nat.lt_of_lt_of_le hb (size_xt _ _)), xt_norm]
  exact retB_1 hb h ho
theorem rdO_eq {s : ByteArray} {n n' d d' : Int} (h : n = n') (hd : d = d') : rdO s n d = rdO s n' d' := by rw [h, hd]
set_option maxHeartbeats 400000 in
theorem blanks_ret (b : Nat) (s : ByteArray) (n : Nat) (d : Int) (w : World) (h : IsRd w b s n d) (hn : n ≤ s.size) (hs : s.size ≤ 4611686018427387904) :
    Calls Tryz.prog 158 #[.pointer (some ⟨b, 0, none⟩)] w (RetB w b (rdO s (skipN s n) d) (.tuple #[])) := by
  have hb := h.lt
  obtain ⟨x0, hx0⟩ := (Kp.refl w).toXt
  have hw : w = sb (xt w x0) b (rdO s n d) := by rw [← hx0]; exact h.sbw.symm
  have HH := Lib.hid hw
  clear hw hx0 h
  go_enter Tryz.func158, Tryz.ntmps158
  go_wp2
  go_loopw [] (fun wr => ∃ k x, n ≤ k ∧ k ≤ s.size ∧ wr = sb (xt w x) b (rdO s k d) ∧ Hid (∀ j, n ≤ j → j < k → bt s j = 32)) (fun wr => s.size - rdN wr b)
  case atStart => exact ⟨n, x0, Nat.le_refl _, hn, HH.out, fun j h1 h2 => absurd h2 (by omega)⟩
  case round =>
    obtain ⟨k, x, hnk, hk, rfl, HN⟩ := hrel
    by_cases hlt : k < s.size
    · by_cases h32 : (((s[k]'hlt).toNat : Int) == 32) = true
      · go_wp2
        refine wp_region_xt (by kernel_rfl) (by kernel_rfl) ?_
        repeat (go_big_quiet_step (fail))
        refine wpQuiet_nil ?_
        intro x1
        go_wp2
        go_roundw
        case rel =>
          refine ⟨k + 1, _, by omega, by omega, rd_eq (by omega) rfl, fun j h1 h2 => ?_⟩
          rcases Nat.lt_succ_iff_lt_or_eq.1 h2 with h | rfl
          · exact HN.out j h1 h
          · rw [← bt_of hlt]; exact beq_iff_eq.1 h32
        case measure =>
          rw [rdN_sb (Nat.lt_of_lt_of_le hb (size_xt _ _)), rdO, rdN_sb (Nat.lt_of_lt_of_le hb (size_xt _ _))]
          omega
      · go_wp2
        refine wp_region_xt (by kernel_rfl) (by kernel_rfl) ?_
        repeat (go_big_quiet_step (fail))
        refine wpQuiet_nil ?_
        intro x1
        go_wp2
        go_end0
        exact retB_2 hb rfl (rdO_eq (by rw [skipN_of hnk hk HN.out (fun _ => by rw [← bt_of hlt]; simpa using h32)]) rfl)
    · go_wp2
      refine wp_region_xt (by kernel_rfl) (by kernel_rfl) ?_
      repeat (go_big_quiet_step (fail))
      refine wpQuiet_nil ?_
      intro x1
      go_wp2
      go_end0
      exact retB_2 hb rfl (rdO_eq (by rw [skipN_of hnk hk HN.out (fun h => absurd h hlt)]) rfl)
end Go.Proofs.YtpmheafccfnfjaaGreatDoor
namespace Go.Proofs.YtpmheafccfnfjaaGreatDoor
open Go Go.RowKit
/-- Behind a quote: how many bytes up to the next one, which is counted; a backslash takes what follows. -/
def qn : Bs → Nat
  | [] => 0
  | c :: t => if c = 34 then 1 else if c = 92 then (match t with | [] => 1 | _ :: t' => 2 + qn t') else 1 + qn t
theorem qn_c (c : UInt8) (t : Bs) : qn (c :: t) = if c = 34 then 1 else if c = 92 then (match t with | [] => 1 | _ :: t' => 2 + qn t') else 1 + qn t := by
  rw [qn.eq_def]; rfl
def hasPfx (s p : ByteArray) : Bool := decide (p.size ≤ s.size) && (s.extract 0 p.size).toList == p.toList
/-- How long the first word of a text without blanks ahead is. -/
def wordLen (r : Bs) : Nat := match r with
  | [] => 0
  | [_] => 1
  | c :: d :: t =>
    if (c = 60 ∧ d = 62) ∨ (c = 60 ∧ d = 61) ∨ (c = 62 ∧ d = 61) then 2
    else if inn c || (c == 45 && digitZ (d.toNat : Int)) then 1 + ((d :: t).takeWhile inn).length
    else if c = 34 then 1 + qn (d :: t) else 1
theorem qn_le : ∀ l : Bs, qn l ≤ l.length
  | [] => Nat.le_refl _
  | [_] => by unfold qn; split <;> simp [qn]
  | c :: d :: t => by
    have h1 := qn_le t
    have h2 := qn_le (d :: t)
    unfold qn
    split
    · simp
    · split
      · simp; omega
      · simp at h2 ⊢; omega
theorem wordLen_le (r : Bs) : wordLen r ≤ r.length := by
  match r with
  | [] => simp [wordLen]
  | [c] => simp [wordLen]
  | c :: d :: t =>
    have h1 := qn_le (d :: t)
    have h2 := (List.takeWhile_sublist (l := d :: t) inn).length_le
    simp only [wordLen]
    split
    · simp
    · split
      · simp at h2 ⊢; omega
      · split <;> simp at h1 ⊢ <;> omega
theorem wordLen_pos {r : Bs} (h : r ≠ []) : 0 < wordLen r := by
  match r with
  | [] => exact absurd rfl h
  | [c] => simp [wordLen]
  | c :: d :: t =>
    simp only [wordLen]
    split
    · omega
    · split
      · omega
      · split <;> omega
section
variable {q : ByteArray}
theorem cons_of (h : 0 < q.size) : q.data.toList = q.data.toList[0]'(by simpa using h) :: q.data.toList.drop 1 := by
  have := List.drop_eq_getElem_cons (l := q.data.toList) (i := 0) (by simpa using h)
  simpa using this
theorem cons2_of (h : 1 < q.size) : q.data.toList = q.data.toList[0]'(by simp; omega) :: q.data.toList[1]'(by simpa using h) :: q.data.toList.drop 2 := by
  have h1 := cons_of (q := q) (by omega)
  rw [List.drop_eq_getElem_cons (l := q.data.toList) (i := 1) (by simpa using h)] at h1
  exact h1
theorem hasPfx_two {a b : UInt8} : hasPfx q ⟨#[a, b]⟩ = true ↔ ∃ t, q.data.toList = a :: b :: t := by
  have hl := size_data q
  have e2 : (⟨#[a, b]⟩ : ByteArray).toList = [a, b] := by rw [toList_data]
  have e1 : (⟨#[a, b]⟩ : ByteArray).size = 2 := rfl
  unfold hasPfx
  rw [e2, e1, Bool.and_eq_true, decide_eq_true_eq, beq_iff_eq, toList_data]
  have e3 : (q.extract 0 2).data.toList = q.data.toList.take 2 := by simp [ByteArray.data_extract]
  rw [e3]
  constructor
  · rintro ⟨h1, h2⟩
    exact ⟨q.data.toList.drop 2, by rw [← List.take_append_drop 2 q.data.toList, h2]; simp⟩
  · rintro ⟨t, ht⟩
    rw [ht] at hl ⊢
    simp at hl ⊢
    omega
theorem wordLen_pfx (h : hasPfx q ⟨#[60, 62]⟩ = true ∨ hasPfx q ⟨#[60, 61]⟩ = true ∨ hasPfx q ⟨#[62, 61]⟩ = true) : wordLen q.data.toList = 2 := by
  rcases h with h | h | h <;> obtain ⟨t, ht⟩ := hasPfx_two.1 h <;> simp [ht, wordLen]
structure NoPfx (q : ByteArray) : Prop where
  a : hasPfx q ⟨#[60, 62]⟩ = false
  b : hasPfx q ⟨#[60, 61]⟩ = false
  c : hasPfx q ⟨#[62, 61]⟩ = false
theorem NoPfx.out (h : NoPfx q) {c d : UInt8} {t : Bs} (hq : q.data.toList = c :: d :: t) : ¬ ((c = 60 ∧ d = 62) ∨ (c = 60 ∧ d = 61) ∨ (c = 62 ∧ d = 61)) := by
  rintro (⟨rfl, rfl⟩ | ⟨rfl, rfl⟩ | ⟨rfl, rfl⟩)
  · have := h.a; rw [hasPfx_two.2 ⟨t, hq⟩] at this; cases this
  · have := h.b; rw [hasPfx_two.2 ⟨t, hq⟩] at this; cases this
  · have := h.c; rw [hasPfx_two.2 ⟨t, hq⟩] at this; cases this
theorem wordLen_inner (hn : NoPfx q) (h : 0 < q.size) (hi : innerZ (bt q 0) = true ∨ (bt q 0 = 45 ∧ 1 < q.size ∧ digitZ (bt q 1) = true)) :
    wordLen q.data.toList = 1 + ((q.data.toList.drop 1).takeWhile inn).length := by
  have hl := size_data q
  have hc := cons_of h
  have b0 := bt_list h
  generalize hq0 : q.data.toList[0]'(by simpa using h) = c at *
  by_cases h1 : 1 < q.size
  · have hc2 := cons2_of h1
    have b1 := bt_list h1
    generalize hq1 : q.data.toList[1]'(by simpa using h1) = d at *
    rw [hq0] at hc2
    have hno := hn.out hc2
    rw [hc2]
    have hcond : (inn c || (c == 45 && digitZ (d.toNat : Int))) = true := by
      rcases hi with hi | ⟨h45, _, hd⟩
      · rw [b0] at hi; simp [inn, hi]
      · rw [b0] at h45
        have : c = 45 := UInt8.toNat_inj.1 (by exact_mod_cast h45)
        rw [b1] at hd; simp [this, hd]
    simp only [wordLen, if_neg hno, hcond, if_true, List.drop_succ_cons, List.drop_zero]
  · have : q.data.toList.drop 1 = [] := List.drop_eq_nil_of_le (by omega)
    rw [this] at hc ⊢
    rw [hc]
    rfl
theorem wordLen_other (hn : NoPfx q) (h : 0 < q.size) (hi : innerZ (bt q 0) = false) (hd : ¬ (bt q 0 = 45 ∧ 1 < q.size ∧ digitZ (bt q 1) = true)) :
    wordLen q.data.toList = if bt q 0 = 34 then 1 + qn (q.data.toList.drop 1) else 1 := by
  have hl := size_data q
  have hc := cons_of h
  have b0 := bt_list h
  generalize hq0 : q.data.toList[0]'(by simpa using h) = c at *
  by_cases h1 : 1 < q.size
  · have hc2 := cons2_of h1
    have b1 := bt_list h1
    generalize hq1 : q.data.toList[1]'(by simpa using h1) = d at *
    rw [hq0] at hc2
    have hno := hn.out hc2
    rw [hc2]
    have hcond : (inn c || (c == 45 && digitZ (d.toNat : Int))) = false := by
      rw [b0] at hi
      rw [b0, b1] at hd
      simp only [Bool.or_eq_false_iff, inn, hi, true_and]
      rw [Bool.and_eq_false_iff]
      by_cases h45 : c = 45
      · subst h45
        right
        rw [Bool.eq_false_iff]
        intro h
        exact hd ⟨rfl, h1, h⟩
      · left; simpa using h45
    have hiff : bt q 0 = 34 ↔ c = 34 := by
      rw [b0]
      constructor
      · intro e; exact UInt8.toNat_inj.1 (by exact_mod_cast e)
      · intro e; rw [e]; rfl
    simp only [wordLen, if_neg hno, hcond, List.drop_succ_cons, List.drop_zero, hiff, Bool.false_eq_true, if_false]
  · have : q.data.toList.drop 1 = [] := List.drop_eq_nil_of_le (by omega)
    rw [this] at hc ⊢
    rw [hc]
    simp [wordLen, qn]
theorem wordLen_inner_exit {k : Nat} (hn : NoPfx q) (h : 0 < q.size) (hi : innerZ (bt q 0) = true ∨ (bt q 0 = 45 ∧ 1 < q.size ∧ digitZ (bt q 1) = true)) (h1 : 1 ≤ k) (hk : k ≤ q.size)
    (ha : ∀ j, 1 ≤ j → j < k → innerZ (bt q j) = true) (he : k < q.size → innerZ (bt q k) = false) : wordLen q.data.toList = k := by
  have hl := size_data q
  rw [wordLen_inner hn h hi]
  have : ((q.data.toList.drop 1).takeWhile inn).length = k - 1 := by
    refine tw_len (by simp only [List.length_drop]; omega) (fun j hj hjk => ?_) (fun hlt => ?_)
    · have e := ha (1 + j) (by omega) (by omega)
      rw [bt_list (by omega)] at e
      rw [List.getElem_drop]
      exact e
    · simp only [List.length_drop] at hlt
      have e := he (by omega)
      rw [bt_list (by omega)] at e
      rw [List.getElem_drop]
      have : 1 + (k - 1) = k := by omega
      simp only [this]
      exact e
  omega
theorem qn_at {k : Nat} (hk : k < q.size) : qn (q.data.toList.drop k) = if bt q k = 34 then 1 else if bt q k = 92 then (if k + 1 < q.size then 2 + qn (q.data.toList.drop (k + 2)) else 1) else 1 + qn (q.data.toList.drop (k + 1)) := by
  have hl := size_data q
  rw [List.drop_eq_getElem_cons (l := q.data.toList) (i := k) (by omega)]
  have e34 := bt_eq hk 34
  have e92 := bt_eq hk 92
  generalize q.data.toList[k]'(by simpa using hk) = c at *
  have a34 : bt q k = 34 ↔ c = 34 := e34
  have a92 : bt q k = 92 ↔ c = 92 := e92
  by_cases h34 : c = 34
  · rw [if_pos (a34.2 h34)]; rw [qn_c, if_pos h34]
  · rw [if_neg (fun h => h34 (a34.1 h))]
    by_cases h92 : c = 92
    · rw [if_pos (a92.2 h92)]
      by_cases hk1 : k + 1 < q.size
      · rw [if_pos hk1, List.drop_eq_getElem_cons (l := q.data.toList) (i := k + 1) (by omega)]
        rw [qn_c, if_neg h34, if_pos h92]
      · have : q.data.toList.drop (k + 1) = [] := List.drop_eq_nil_of_le (by omega)
        rw [if_neg hk1, this]
        rw [qn_c, if_neg h34, if_pos h92]
    · rw [if_neg (fun h => h92 (a92.1 h))]
      rw [qn_c, if_neg h34, if_neg h92]
/-- Where the reading of a quoted word has come to: k, the word's whole length being T. -/
def QAt (q : ByteArray) (T k : Nat) : Prop := 1 ≤ k ∧ ((k ≤ q.size ∧ k + qn (q.data.toList.drop k) = T) ∨ (k = q.size + 1 ∧ T = q.size))
theorem QAt.exit {T k : Nat} (h : QAt q T k) (he : k < q.size → bt q k = 34) : min (k + 1) q.size = T := by
  have hl := size_data q
  rcases h.2 with ⟨h1, h2⟩ | ⟨h1, h2⟩
  · by_cases hk : k < q.size
    · rw [qn_at hk, if_pos (he hk)] at h2
      omega
    · have : q.data.toList.drop k = [] := List.drop_eq_nil_of_le (by omega)
      rw [this] at h2
      simp [qn] at h2
      omega
  · omega
theorem QAt.step {T k : Nat} (h : QAt q T k) (hk : k < q.size) (h34 : bt q k ≠ 34) : QAt q T (if bt q k = 92 then k + 2 else k + 1) := by
  have hl := size_data q
  rcases h.2 with ⟨h1, h2⟩ | ⟨h1, h2⟩
  · rw [qn_at hk, if_neg h34] at h2
    by_cases h92 : bt q k = 92
    · rw [if_pos h92] at h2 ⊢
      by_cases hk1 : k + 1 < q.size
      · rw [if_pos hk1] at h2
        exact ⟨by omega, .inl ⟨by omega, by omega⟩⟩
      · rw [if_neg hk1] at h2
        exact ⟨by omega, .inr ⟨by omega, by omega⟩⟩
    · rw [if_neg h92] at h2 ⊢
      exact ⟨by omega, .inl ⟨by omega, by omega⟩⟩
  · omega
end
end Go.Proofs.YtpmheafccfnfjaaGreatDoor
namespace Go.Proofs.YtpmheafccfnfjaaGreatDoor
open Go Go.RowKit
theorem slpfx_ret (s p : ByteArray) (w : World) : Calls Tryz.prog 185 #[.string s, .string p] w fun e w' => e = .returned (.bool (hasPfx s p)) ∧ w = w' := by
  by_cases h : p.size ≤ s.size
  · go_enter Tryz.func185, Tryz.ntmps185
    go_wp2
    go_ret
    exact ⟨by simp [hasPfx, h], rfl⟩
  · go_enter Tryz.func185, Tryz.ntmps185
    go_wp2
    go_ret
    exact ⟨by simp [hasPfx, h], rfl⟩
theorem pfx_ret (s p : ByteArray) (w : World) : Calls Tryz.prog 159 #[.string s, .string p] w fun e w' => e = .returned (.bool (hasPfx s p)) ∧ w = w' := by
  have H := Lib.hid (slpfx_ret s p w)
  generalize hasPfx s p = v at *
  go_enter Tryz.func159, Tryz.ntmps159
  go_wp2_with (go_at_call 185; refine H.out.mono ?_; rintro e w' ⟨rfl, rfl⟩)
  go_ret
  exact ⟨rfl, rfl⟩
/-- X is w but for block b, which holds o. -/
def Fin (w : World) (b : Nat) (o : Obj) (X : World) : Prop := Kb b w X ∧ X.heap[b]? = some o
section
variable {w X x : World} {b : Nat} {o : Obj}
theorem Fin.sb (hb : b < w.heap.size) : Fin w b o (Go.Proofs.YtpmheafccfnfjaaGreatDoor.sb (xt w x) b o) := ⟨((Kb.refl b w).more x).setB o, heap_sb_same _ _ _ (Nat.lt_of_lt_of_le hb (size_xt _ _))⟩
theorem Fin.alloc (h : Fin w b o X) (o2 : Obj) : Fin w b o (X.alloc o2) := ⟨h.1.alloc o2, by rw [heap_alloc_old _ _ (Array.getElem?_eq_some_iff.1 h.2).1]; exact h.2⟩
theorem Fin.more (h : Fin w b o X) (y : World) : Fin w b o (xt X y) := ⟨h.1.more y, by rw [heap_xt _ _ (Array.getElem?_eq_some_iff.1 h.2).1]; exact h.2⟩
theorem Fin.drew (h : Fin w b o X) : Fin w b o X.drew := ⟨h.1.drew, h.2⟩
theorem Fin.drewN (h : Fin w b o X) (n : Nat) : Fin w b o (X.drewN n) := ⟨h.1.drewN n, h.2⟩
theorem Fin.retB {v u : Value} (h : Fin w b o X) (e : u = v) : RetB w b o v (.returned u) X := ⟨by rw [e], h.1, h.2⟩
end
end Go.Proofs.YtpmheafccfnfjaaGreatDoor
namespace Go.Proofs.YtpmheafccfnfjaaGreatDoor
open Go Go.RowKit
def wordQ (q : ByteArray) : ByteArray := q.extract 0 (wordLen q.data.toList)
def wordS (s : ByteArray) (m : Nat) : ByteArray := wordQ (s.extract m s.size)
theorem ext_data (q : ByteArray) (i j : Nat) : (q.extract i j).data.toList = (q.data.toList.take j).drop i := by
  rw [ByteArray.data_extract, Array.toList_extract, List.extract_eq_drop_take']
theorem ext_all (q : ByteArray) : q.extract 0 q.size = q := by
  apply toList_inj
  rw [toList_data, toList_data, ext_data, ← size_data, List.take_length, List.drop_zero]
theorem skipN_le {s : ByteArray} {n : Nat} (h : n ≤ s.size) : skipN s n ≤ s.size := by
  have h1 := (List.takeWhile_sublist (l := s.data.toList.drop n) (· == 32)).length_le
  have h2 := size_data s
  rw [List.length_drop] at h1
  unfold skipN
  omega
def lits : List ByteArray := [⟨#[60, 62]⟩, ⟨#[60, 61]⟩, ⟨#[62, 61]⟩]
set_option maxHeartbeats 1000000 in
set_option maxRecDepth 100000 in
theorem word_empty (b : Nat) (s : ByteArray) (n : Nat) (d : Int) (w : World) (h : IsRd w b s n d) (hn : n ≤ s.size) (hs : s.size ≤ 4611686018427387904) (he : skipN s n = s.size) :
    Calls Tryz.prog 119 #[.pointer (some ⟨b, 0, none⟩)] w (RetB w b (rdO s (skipN s n) d) (.string (wordS s (skipN s n)))) := by
  have hb := h.lt
  have HB := Lib.hid (blanks_ret b s n d w h hn hs)
  have hm := skipN_le hn
  have hz : (s.extract (skipN s n) s.size).data.toList = [] := by
    apply List.eq_nil_of_length_eq_zero
    rw [size_data]
    simp
    omega
  have hw : (wordS s (skipN s n)) = ⟨#[]⟩ := by
    unfold wordS wordQ
    rw [hz]
    apply toList_inj
    rw [toList_data, toList_data]
    simp [wordLen]
  rw [hw]
  have hq : (s.extract (skipN s n) s.size).toList = [] := by rw [toList_data]; exact hz
  clear h hn he hw hz
  generalize skipN s n = m at *
  go_enter Tryz.func119, Tryz.ntmps119
  go_wp2_with (go_at_call 158; refine Calls_retB HB.out hb ?_; intro x1)
  refine wp_region_xt (by kernel_rfl) (by kernel_rfl) ?_
  repeat (go_big_quiet_step (fail))
  refine wpQuiet_nil ?_
  intro x2
  go_wp2
  go_ret
  exact retB_1 hb rfl rfl
theorem wordQ_pfx {q p : ByteArray} (hp : p ∈ lits) (h : hasPfx q p = true) : p = wordQ q := by
  have h2 : p.size = 2 := by simp [lits] at hp; rcases hp with rfl | rfl | rfl <;> rfl
  have hw : wordLen q.data.toList = 2 := wordLen_pfx (by simp [lits] at hp; rcases hp with rfl | rfl | rfl <;> simp [h])
  unfold hasPfx at h
  rw [Bool.and_eq_true, beq_iff_eq, h2] at h
  unfold wordQ
  rw [hw]
  exact toList_inj h.2.symm
theorem inner_ret' (q : ByteArray) {k : Nat} (hk : k < q.size) (w : World) : Calls Tryz.prog 160 #[.int .u8 ((q[k]'hk).toNat : Int)] w (Ret w (.bool (innerZ (bt q k)))) := by
  rw [← bt_of hk]
  exact cinner_ret _ w
theorem digit_ret' (q : ByteArray) {k : Nat} (hk : k < q.size) (w : World) : Calls Tryz.prog 161 #[.int .u8 ((q[k]'hk).toNat : Int)] w (Ret w (.bool (digitZ (bt q k)))) := by
  rw [← bt_of hk]
  exact digit_ret _ w
theorem noPfx_of {q : ByteArray} (h : ∀ j, j < 3 → hasPfx q (lits.getD j ByteArray.empty) = false) : NoPfx q := ⟨h 0 (by omega), h 1 (by omega), h 2 (by omega)⟩
set_option maxHeartbeats 2000000 in
set_option maxRecDepth 100000 in
theorem word_main (b : Nat) (s : ByteArray) (n : Nat) (d : Int) (w : World) (h : IsRd w b s n d) (hn : n ≤ s.size) (hs : s.size ≤ 4611686018427387904) (he : skipN s n < s.size) :
    Calls Tryz.prog 119 #[.pointer (some ⟨b, 0, none⟩)] w (RetB w b (rdO s (skipN s n) d) (.string (wordS s (skipN s n)))) := by
  have hb := h.lt
  have HB := Lib.hid (blanks_ret b s n d w h hn hs)
  have hm := skipN_le hn
  have hq : 0 < (s.extract (skipN s n) s.size).size := by simp; omega
  have hqs : (s.extract (skipN s n) s.size).size ≤ 4611686018427387904 := by simp; omega
  have hne := str_ne hq
  unfold wordS
  clear h hn he
  generalize skipN s n = m at *
  go_enter Tryz.func119, Tryz.ntmps119
  go_wp2_with (go_at_call 158; refine Calls_retB HB.out hb ?_; intro x1)
  refine wp_region_xt (by kernel_rfl) (by kernel_rfl) ?_
  repeat (go_big_quiet_step (fail))
  refine wpQuiet_nil ?_
  intro x2
  generalize s.extract m s.size = q at *
  generalize (xx w x1 (xs (xt w x1) b (Obj.cells #[Value.string s, Value.int IntKind.i64 (m : Int), Value.int IntKind.i64 d] 154) x2)) = X at *
  go_wp2_with fail
  go_loop [22] (fun i => ∃ k : Nat, k ≤ 3 ∧ i = .int .i64 k ∧ Hid (∀ j, j < k → hasPfx q (lits.getD j ByteArray.empty) = false)) (fun i => 3 - (intOf i).toNat)
  case atStart => exact ⟨0, by omega, rfl, fun j h => absurd h (Nat.not_lt_zero _)⟩
  case round =>
    obtain ⟨k, hk, rfl, HN⟩ := hrel
    by_cases h3 : k = 3
    · subst h3
      have hno := noPfx_of HN.out
      have HI := inner_ret' q hq
      by_cases hi : innerZ (bt q 0) = true ∨ (bt q 0 = 45 ∧ 1 < q.size ∧ digitZ (bt q 1) = true)
      · have hi' := Lib.hid hi
        cases h0 : innerZ (bt q 0)
        · have h2 : bt q 0 = 45 ∧ 1 < q.size ∧ digitZ (bt q 1) = true := by
            rcases hi with hi | hi
            · rw [h0] at hi; cases hi
            · exact hi
          obtain ⟨h45, hl1, hd⟩ := h2
          have HD := digit_ret' q hl1
          rw [hd] at HD
          have HD := Lib.hid HD
          have h45' : (((q[0]'hq).toNat : Int) == 45) = true := by rw [bt_of hq, h45]; rfl
          rw [h0] at HI
          have HI := Lib.hid HI
          clear hi h45 hd h0
          go_wp2_with (first | (go_at_call 160; refine Calls_ret (HI.out _) ?_; intro x3) | (go_at_call 161; refine Calls_ret (HD.out _) ?_; intro x4))
          go_loopw [6] (fun i wr => ∃ k : Nat, 1 ≤ k ∧ k ≤ q.size ∧ i = .int .i64 k ∧ Hid (Fin w b (rdO s m d) wr) ∧ Hid (∀ j, 1 ≤ j → j < k → innerZ (bt q j) = true)) (fun i _ => q.size - (intOf i).toNat)
          case atStart => exact ⟨1, by omega, by omega, rfl, (((Fin.sb hb).alloc _).more _), fun j h1 h2 => absurd h2 (by omega)⟩
          case round =>
            obtain ⟨k, h1, hk, rfl, HF, HA⟩ := hrel
            by_cases hlt : k < q.size
            · have HK := inner_ret' q hlt
              cases hik : innerZ (bt q k)
              · rw [hik] at HK
                have HK := Lib.hid HK
                have hex := wordLen_inner_exit hno hq hi'.out h1 hk HA.out (fun _ => hik)
                have hex := Lib.hid hex
                go_wp2_with (go_at_call 160; refine Calls_ret (HK.out _) ?_; intro x4)
                go_ret
                exact (HF.out.more _).retB (v_str (by unfold wordQ; rw [hex.out]))
              · rw [hik] at HK
                have HK := Lib.hid HK
                go_wp2_with (go_at_call 160; refine Calls_ret (HK.out _) ?_; intro x4)
                go_roundw
                case rel =>
                  refine ⟨k + 1, by omega, by omega, by go_num, HF.out.more _, fun j h1 h2 => ?_⟩
                  rcases Nat.lt_succ_iff_lt_or_eq.1 h2 with h | rfl
                  · exact HA.out j h1 h
                  · exact hik
                case measure => simp [intOf]; omega
            · have hex := wordLen_inner_exit hno hq hi'.out h1 hk HA.out (fun h => absurd h hlt)
              have hex := Lib.hid hex
              go_wp2
              go_ret
              exact HF.out.retB (v_str (by unfold wordQ; rw [hex.out]))
        · rw [h0] at HI
          have HI := Lib.hid HI
          clear hi h0
          go_wp2_with (go_at_call 160; refine Calls_ret (HI.out _) ?_; intro x3)
          go_loopw [6] (fun i wr => ∃ k : Nat, 1 ≤ k ∧ k ≤ q.size ∧ i = .int .i64 k ∧ Hid (Fin w b (rdO s m d) wr) ∧ Hid (∀ j, 1 ≤ j → j < k → innerZ (bt q j) = true)) (fun i _ => q.size - (intOf i).toNat)
          case atStart => exact ⟨1, by omega, by omega, rfl, (((Fin.sb hb).alloc _).more _), fun j h1 h2 => absurd h2 (by omega)⟩
          case round =>
            obtain ⟨k, h1, hk, rfl, HF, HA⟩ := hrel
            by_cases hlt : k < q.size
            · have HK := inner_ret' q hlt
              cases hik : innerZ (bt q k)
              · rw [hik] at HK
                have HK := Lib.hid HK
                have hex := wordLen_inner_exit hno hq hi'.out h1 hk HA.out (fun _ => hik)
                have hex := Lib.hid hex
                go_wp2_with (go_at_call 160; refine Calls_ret (HK.out _) ?_; intro x4)
                go_ret
                exact (HF.out.more _).retB (v_str (by unfold wordQ; rw [hex.out]))
              · rw [hik] at HK
                have HK := Lib.hid HK
                go_wp2_with (go_at_call 160; refine Calls_ret (HK.out _) ?_; intro x4)
                go_roundw
                case rel =>
                  refine ⟨k + 1, by omega, by omega, by go_num, HF.out.more _, fun j h1 h2 => ?_⟩
                  rcases Nat.lt_succ_iff_lt_or_eq.1 h2 with h | rfl
                  · exact HA.out j h1 h
                  · exact hik
                case measure => simp [intOf]; omega
            · have hex := wordLen_inner_exit hno hq hi'.out h1 hk HA.out (fun h => absurd h hlt)
              have hex := Lib.hid hex
              go_wp2
              go_ret
              exact HF.out.retB (v_str (by unfold wordQ; rw [hex.out]))
      · have h0 : innerZ (bt q 0) = false := by
          rw [Bool.eq_false_iff]
          exact fun h => hi (.inl h)
        have hT := wordLen_other hno hq h0 (fun h => hi (.inr h))
        rw [h0] at HI
        have HI := Lib.hid HI
        by_cases h45 : bt q 0 = 45
        · have h45' : (((q[0]'hq).toNat : Int) == 45) = true := by rw [bt_of hq, h45]; rfl
          have h34' : (((q[0]'hq).toNat : Int) == 34) = false := by rw [bt_of hq, h45]; rfl
          rw [if_neg (by omega)] at hT
          have HT := Lib.hid hT
          by_cases hl1 : 1 < q.size
          · have hd : digitZ (bt q 1) = false := by
              rw [Bool.eq_false_iff]
              exact fun h => hi (.inr ⟨h45, hl1, h⟩)
            have HD := digit_ret' q hl1
            rw [hd] at HD
            have HD := Lib.hid HD
            clear hi h45 hd h0 hT
            go_wp2_with (first | (go_at_call 160; refine Calls_ret (HI.out _) ?_; intro x3) | (go_at_call 161; refine Calls_ret (HD.out _) ?_; intro x4))
            go_ret
            exact (((Fin.sb hb).alloc _).more _).retB (v_str (by unfold wordQ; rw [HT.out]))
          · clear hi h45 h0 hT
            go_wp2_with (go_at_call 160; refine Calls_ret (HI.out _) ?_; intro x3)
            go_ret
            exact (((Fin.sb hb).alloc _).more _).retB (v_str (by unfold wordQ; rw [HT.out]))
        · have h45' : (((q[0]'hq).toNat : Int) == 45) = false := by rw [bt_of hq]; simpa using h45
          by_cases h34 : bt q 0 = 34
          · have h34' : (((q[0]'hq).toNat : Int) == 34) = true := by rw [bt_of hq, h34]; rfl
            rw [if_pos h34] at hT
            have hQ : Hid (QAt q (wordLen q.data.toList) 1) := ⟨Nat.le_refl _, .inl ⟨hq, hT.symm⟩⟩
            clear hi h45 h34 h0 hT
            go_wp2_with (go_at_call 160; refine Calls_ret (HI.out _) ?_; intro x3)
            go_loop [6] (fun i => ∃ k : Nat, k ≤ q.size + 1 ∧ i = .int .i64 k ∧ Hid (QAt q (wordLen q.data.toList) k)) (fun i => q.size + 1 - (intOf i).toNat)
            case atStart => exact ⟨1, by omega, rfl, hQ⟩
            case round =>
              obtain ⟨k, hk, rfl, HQ⟩ := hrel
              by_cases hlt : k < q.size
              · by_cases hk34 : bt q k = 34
                · have hk34' : (((q[k]'hlt).toNat : Int) == 34) = true := by rw [bt_of hlt, hk34]; rfl
                  have hex := HQ.out.exit (fun _ => hk34)
                  have HX := Lib.hid hex
                  clear hk34 hex
                  go_wp2
                  go_ret
                  exact (((Fin.sb hb).alloc _).more _).retB (v_str (by unfold wordQ; rw [show wordLen q.data.toList = k + 1 from by have := HX.out; omega]))
                · have hk34' : (((q[k]'hlt).toNat : Int) == 34) = false := by rw [bt_of hlt]; simpa using hk34
                  have hst := HQ.out.step hlt hk34
                  by_cases hk92 : bt q k = 92
                  · have hk92' : (((q[k]'hlt).toNat : Int) == 92) = true := by rw [bt_of hlt, hk92]; rfl
                    rw [if_pos hk92] at hst
                    have HS := Lib.hid hst
                    clear hk34 hk92 hst
                    go_wp2
                    go_round
                    case rel => exact ⟨k + 2, by omega, by go_num, HS.out⟩
                    case measure => simp [intOf]; omega
                  · have hk92' : (((q[k]'hlt).toNat : Int) == 92) = false := by rw [bt_of hlt]; simpa using hk92
                    rw [if_neg hk92] at hst
                    have HS := Lib.hid hst
                    clear hk34 hk92 hst
                    go_wp2
                    go_round
                    case rel => exact ⟨k + 1, by omega, by go_num, HS.out⟩
                    case measure => simp [intOf]; omega
              · have hex := HQ.out.exit (fun h => absurd h hlt)
                have HX := Lib.hid hex
                clear hex
                go_wp2
                go_ret
                exact (((Fin.sb hb).alloc _).more _).retB (v_str (by unfold wordQ; rw [show wordLen q.data.toList = q.size from by have := HX.out; omega]; exact (ext_all q).symm))
          · have h34' : (((q[0]'hq).toNat : Int) == 34) = false := by rw [bt_of hq]; simpa using h34
            rw [if_neg h34] at hT
            have HT := Lib.hid hT
            clear hi h45 h34 h0 hT
            go_wp2_with (go_at_call 160; refine Calls_ret (HI.out _) ?_; intro x3)
            go_ret
            exact (((Fin.sb hb).alloc _).more _).retB (v_str (by unfold wordQ; rw [HT.out]))
    · have hk2 : k = 0 ∨ k = 1 ∨ k = 2 := by omega
      rcases hk2 with rfl | rfl | rfl
      · go_wp2_with (go_at_call 159; refine (pfx_ret _ _ _).mono ?_; rintro e w' ⟨rfl, rfl⟩)
        · go_ret
          exact ((Fin.sb hb).alloc _).retB (v_str (wordQ_pfx (p := ⟨#[60, 62]⟩) (by simp [lits]) (by assumption)))
        · have hp : hasPfx q ⟨#[60, 62]⟩ = false := by assumption
          go_round
          case rel =>
            refine ⟨1, by omega, rfl, fun j hj => ?_⟩
            rcases Nat.lt_succ_iff_lt_or_eq.1 hj with h | rfl
            · exact HN.out j h
            · exact hp
          case measure => simp [intOf]
      · go_wp2_with (go_at_call 159; refine (pfx_ret _ _ _).mono ?_; rintro e w' ⟨rfl, rfl⟩)
        · go_ret
          exact ((Fin.sb hb).alloc _).retB (v_str (wordQ_pfx (p := ⟨#[60, 61]⟩) (by simp [lits]) (by assumption)))
        · have hp : hasPfx q ⟨#[60, 61]⟩ = false := by assumption
          go_round
          case rel =>
            refine ⟨2, by omega, rfl, fun j hj => ?_⟩
            rcases Nat.lt_succ_iff_lt_or_eq.1 hj with h | rfl
            · exact HN.out j h
            · exact hp
          case measure => simp [intOf]
      · go_wp2_with (go_at_call 159; refine (pfx_ret _ _ _).mono ?_; rintro e w' ⟨rfl, rfl⟩)
        · go_ret
          exact ((Fin.sb hb).alloc _).retB (v_str (wordQ_pfx (p := ⟨#[62, 61]⟩) (by simp [lits]) (by assumption)))
        · have hp : hasPfx q ⟨#[62, 61]⟩ = false := by assumption
          go_round
          case rel =>
            refine ⟨3, by omega, rfl, fun j hj => ?_⟩
            rcases Nat.lt_succ_iff_lt_or_eq.1 hj with h | rfl
            · exact HN.out j h
            · exact hp
          case measure => simp [intOf]
theorem word_ret (b : Nat) (s : ByteArray) (n : Nat) (d : Int) (w : World) (h : IsRd w b s n d) (hn : n ≤ s.size) (hs : s.size ≤ 4611686018427387904) :
    Calls Tryz.prog 119 #[.pointer (some ⟨b, 0, none⟩)] w (RetB w b (rdO s (skipN s n) d) (.string (wordS s (skipN s n)))) := by
  rcases Nat.lt_or_eq_of_le (skipN_le hn) with he | he
  · exact word_main b s n d w h hn hs he
  · exact word_empty b s n d w h hn hs he
end Go.Proofs.YtpmheafccfnfjaaGreatDoor
