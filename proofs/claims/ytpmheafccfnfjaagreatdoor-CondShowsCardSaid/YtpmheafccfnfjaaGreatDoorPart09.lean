/- The reference's nodes in memory. The reference's Joined. What the reference's reader reads: nodes of the same kind laid flat. The reference's reader: not. The reference's reader: and. The reference's reader: or. GENERATED from the text of and, by wip/tools/gen_refo.py. The reference's reader: prim. The reference's reader: prim at false, at a parenthesis. -/
import Derived.Deep.AppendLies
import Derived.Test.YtpmheafccfnfjaaGreatDoorPart08
set_option linter.unusedSimpArgs false
set_option linter.unusedVariables false
namespace Go.Proofs.YtpmheafccfnfjaaGreatDoor
open Go Go.RowKit
/-- A side, as the reference holds it. -/
structure Sd where
  (i v : ByteArray) (k n : Int) (s : ByteArray)
def zSide : Sd := ⟨⟨#[]⟩, ⟨#[]⟩, 0, 0, ⟨#[]⟩⟩
def sdOf : Trm → Sd
  | .nm a => ⟨st a, ⟨#[]⟩, 0, 0, ⟨#[]⟩⟩
  | .vr a => ⟨⟨#[]⟩, st a, 0, 0, ⟨#[]⟩⟩
  | .vl x => ⟨⟨#[]⟩, ⟨#[]⟩, x.k, x.n, x.s⟩
/-- A node, as the reference holds it. -/
inductive RT where
  | mk (k : Int) (a b : Sd) (op : ByteArray) (y : Bool) (kids : List RT)
def RT.kd : RT → Int | .mk k _ _ _ _ _ => k
def RT.ks : RT → List RT | .mk _ _ _ _ _ l => l
abbrev nodeA (k : Int) (sl : Value) (a b : Sd) (op : ByteArray) (y : Bool) : Array Value := #[.int .i64 k, sl, .string a.i, .string a.v, .int .i64 a.k, .int .i64 a.n, .string a.s, .string b.i, .string b.v, .int .i64 b.k, .int .i64 b.n, .string b.s, .string op, .bool y]
/-- n nodes' cells, at sl. -/
def KidsAt (P : Nat → Prop) (W : World) (sl : Value) (n : Nat) (f : Nat → Array Value) : Prop :=
  (sl = .slice none 0 0 ∧ n = 0) ∨ (0 < n ∧ ∃ g c, sl = .slice (some ⟨g, 0, none⟩) n c ∧ P g ∧ g < W.heap.size ∧ n ≤ c ∧ ∀ j, j < n → ∀ i, i < 14 → W.cell? ⟨g, j * 14 + i, none⟩ = (f j)[i]?)
inductive NodeIs (P : Nat → Prop) (W : World) : Array Value → RT → Prop where
  | mk (k : Int) (a b : Sd) (op : ByteArray) (y : Bool) (kids : List RT) (sl : Value) (f : Nat → Array Value) (h : KidsAt P W sl kids.length f) (hk : ∀ j (hj : j < kids.length), NodeIs P W (f j) kids[j]) : NodeIs P W (nodeA k sl a b op y) (.mk k a b op y kids)
theorem KidsAt.mono {P Q : Nat → Prop} {W X : World} {sl : Value} {n : Nat} {f : Nat → Array Value} (h : KidsAt P W sl n f) (hs : W.heap.size ≤ X.heap.size) (hP : ∀ g, P g → g < W.heap.size → Q g ∧ X.heap[g]? = W.heap[g]?) : KidsAt Q X sl n f := by
  rcases h with h | ⟨h0, g, c, h1, h2, h3, h4, h5⟩
  · exact .inl h
  · obtain ⟨q1, q2⟩ := hP g h2 h3
    exact .inr ⟨h0, g, c, h1, q1, Nat.lt_of_lt_of_le h3 hs, h4, fun j hj i hi => by rw [World.cell?_of_block (w := W) (a := ⟨g, _, none⟩) q2]; exact h5 j hj i hi⟩
theorem NodeIs.mono {P Q : Nat → Prop} {W X : World} {vs : Array Value} {t : RT} (h : NodeIs P W vs t) (hs : W.heap.size ≤ X.heap.size) (hP : ∀ g, P g → g < W.heap.size → Q g ∧ X.heap[g]? = W.heap[g]?) : NodeIs Q X vs t := by
  induction h with
  | mk k a b op y kids sl f h hk ih => exact .mk k a b op y kids sl f (h.mono hs hP) ih
theorem NodeIs.kp {P : Nat → Prop} {W X : World} {vs : Array Value} {t : RT} (h : NodeIs P W vs t) (k : Kp W X) : NodeIs P X vs t := h.mono k.size fun g hp hg => ⟨hp, k.block g hg⟩
theorem NodeIs.form {P : Nat → Prop} {W : World} {vs : Array Value} {t : RT} (h : NodeIs P W vs t) : ∃ k a b op y kids sl f, vs = nodeA k sl a b op y ∧ t = .mk k a b op y kids ∧ KidsAt P W sl kids.length f ∧ ∀ j (hj : j < kids.length), NodeIs P W (f j) kids[j] := by
  cases h with
  | mk k a b op y kids sl f h hk => exact ⟨k, a, b, op, y, kids, sl, f, rfl, rfl, h, hk⟩
theorem NodeIs.size {P : Nat → Prop} {W : World} {vs : Array Value} {t : RT} (h : NodeIs P W vs t) : vs.size = 14 := by
  cases h; rfl
/-- Nodes in a row. -/
def NodesAt (P : Nat → Prop) (W : World) (u : Value) (ts : List RT) : Prop := ∃ g c, ∃ vss : List (Array Value), u = .slice (some ⟨g, 0, none⟩) ts.length c ∧ g < W.heap.size ∧ vss.length = ts.length ∧ (∀ (j : Nat) vs t, vss[j]? = some vs → ts[j]? = some t → NodeIs P W vs t) ∧ ∀ (j : Nat) vs, vss[j]? = some vs → ∀ i, i < 14 → W.cell? ⟨g, j * 14 + i, none⟩ = vs[i]?
theorem NodesAt.mono {P Q : Nat → Prop} {W X : World} {u : Value} {ts : List RT} (h : NodesAt P W u ts) (hs : W.heap.size ≤ X.heap.size) (hP : ∀ g, P g → g < W.heap.size → Q g ∧ X.heap[g]? = W.heap[g]?) (hg : ∀ g, u.ownBlock = some g → X.heap[g]? = W.heap[g]?) : NodesAt Q X u ts := by
  obtain ⟨g, c, vss, rfl, h2, h3, h4, h5⟩ := h
  exact ⟨g, c, vss, rfl, Nat.lt_of_lt_of_le h2 hs, h3, fun j vs t a b => (h4 j vs t a b).mono hs hP, fun j vs a i hi => by rw [World.cell?_of_block (w := W) (a := ⟨g, _, none⟩) (hg g rfl)]; exact h5 j vs a i hi⟩
theorem NodesAt.kp {P : Nat → Prop} {W X : World} {u : Value} {ts : List RT} (h : NodesAt P W u ts) (k : Kp W X) : NodesAt P X u ts := by
  have h' := h
  obtain ⟨g, c, vss, rfl, h2, _⟩ := h'
  exact h.mono k.size (fun g hp hg => ⟨hp, k.block g hg⟩) fun g' e => by cases e; exact k.block _ h2
theorem kids_nodes {P : Nat → Prop} {W : World} {sl : Value} {kids : List RT} {f : Nat → Array Value} (h : KidsAt P W sl kids.length f) (hk : ∀ j (hj : j < kids.length), NodeIs P W (f j) kids[j]) (hne : kids ≠ []) : NodesAt P W sl kids := by
  rcases h with ⟨_, h0⟩ | ⟨h0, g, c, h1, h2, h3, h4, h5⟩
  · exact absurd (List.eq_nil_of_length_eq_zero h0) hne
  · refine ⟨g, c, (List.range kids.length).map f, h1, h3, by simp, fun j vs t hv ht => ?_, fun j vs hv i hi => ?_⟩
    · obtain ⟨hj, rfl⟩ := List.getElem?_eq_some_iff.1 ht
      rw [List.getElem?_map, List.getElem?_range hj] at hv
      cases hv
      exact hk j hj
    · have hj : j < kids.length := by
        have := (List.getElem?_eq_some_iff.1 hv).1
        simpa using this
      rw [List.getElem?_map, List.getElem?_range hj] at hv
      cases hv
      exact h5 j hj i hi
theorem nodes_kids {P : Nat → Prop} {W : World} {sl : Value} {kids : List RT} (h : NodesAt P W sl kids) (hne : kids ≠ []) (hg : ∀ g, sl.ownBlock = some g → P g) (hc : ∀ a n c, sl = .slice a n c → n ≤ c) : ∃ f, KidsAt P W sl kids.length f ∧ ∀ j (hj : j < kids.length), NodeIs P W (f j) kids[j] := by
  obtain ⟨g, c, vss, rfl, h2, h3, h4, h5⟩ := h
  have hv : ∀ j, j < kids.length → vss[j]? = some (vss.getD j #[]) := fun j hj => by
    rw [List.getD_eq_getElem?_getD, List.getElem?_eq_getElem (by omega)]
    rfl
  exact ⟨fun j => vss.getD j #[], .inr ⟨List.length_pos_iff.2 hne, g, c, rfl, hg g rfl, h2, hc _ _ _ rfl, fun j hj i hi => h5 j _ (hv j hj) i hi⟩, fun j hj => h4 j _ _ (hv j hj) (List.getElem?_eq_getElem hj)⟩
/-- The cells of nodes one after the other. -/
def cellsOf (vss : List (Array Value)) : List Value := vss.flatMap Array.toList
theorem cellsOf_len : ∀ {vss : List (Array Value)}, (∀ vs ∈ vss, vs.size = 14) → (cellsOf vss).length = vss.length * 14
  | [], _ => rfl
  | a :: l, h => by
    have h1 := h a (by simp)
    have h2 := cellsOf_len (vss := l) fun x hx => h x (by simp [hx])
    simp only [cellsOf] at h2 ⊢
    rw [List.flatMap_cons, List.length_append, h2, List.length_cons, Array.length_toList, h1]
    omega
theorem cellsOf_at : ∀ {vss : List (Array Value)}, (∀ vs ∈ vss, vs.size = 14) → ∀ (j : Nat) vs, vss[j]? = some vs → ∀ i, i < 14 → (cellsOf vss)[j * 14 + i]? = vs[i]?
  | [], _, j, vs, hv, _, _ => by simp at hv
  | a :: l, h, 0, vs, hv, i, hi => by
    simp only [List.getElem?_cons_zero, Option.some.injEq] at hv
    subst hv
    have h1 := h a (by simp)
    rw [cellsOf, List.flatMap_cons, List.getElem?_append_left (by rw [Array.length_toList]; omega)]
    simp
  | a :: l, h, j + 1, vs, hv, i, hi => by
    have h1 := h a (by simp)
    have h2 := cellsOf_at (vss := l) (fun x hx => h x (by simp [hx])) j vs (by simpa using hv) i hi
    rw [cellsOf, List.flatMap_cons, List.getElem?_append_right (by rw [Array.length_toList]; omega), Array.length_toList, h1]
    rw [← h2, cellsOf]
    congr 1
    omega
/-- Nodes in a row of one's own. -/
def OwnN (P : Nat → Prop) (B : Nat) (W : World) (v : Value) (ts : List RT) : Prop := ∃ vss : List (Array Value), vss.length = ts.length ∧ (∀ (j : Nat) vs t, vss[j]? = some vs → ts[j]? = some t → NodeIs P W vs t) ∧ W.ownsRow B 69 14 v ts.length (cellsOf vss)
theorem OwnN.nil (P : Nat → Prop) (B : Nat) (W : World) : OwnN P B W (.slice none 0 0) [] := ⟨[], rfl, fun j vs t h => by simp at h, World.ownsRow_nil _ _ _ _⟩
theorem OwnN.mono {P Q : Nat → Prop} {B : Nat} {W X : World} {v : Value} {ts : List RT} (h : OwnN P B W v ts) (hs : W.heap.size ≤ X.heap.size) (hP : ∀ g, P g → g < W.heap.size → Q g ∧ X.heap[g]? = W.heap[g]?) (hv : ∀ g, v.ownBlock = some g → X.heap[g]? = W.heap[g]?) : OwnN Q B X v ts := by
  obtain ⟨vss, h1, h2, h3⟩ := h
  refine ⟨vss, h1, fun j vs t a b => (h2 j vs t a b).mono hs hP, h3.1, ?_⟩
  rcases h3.2 with h | ⟨g, cap, cur, rfl, hb, hg, rest⟩
  · exact .inl h
  · exact .inr ⟨g, cap, cur, rfl, hb, (hv g rfl).trans hg, rest⟩
theorem OwnN.kp {P : Nat → Prop} {B : Nat} {W X : World} {v : Value} {ts : List RT} (h : OwnN P B W v ts) (k : Kp W X) : OwnN P B X v ts :=
  h.mono k.size (fun g hp hg => ⟨hp, k.block g hg⟩) fun g e => k.block g (by obtain ⟨vss, _, _, h3⟩ := h; exact (h3.lt g e).2)
theorem OwnN.weaken {P Q : Nat → Prop} {B : Nat} {W : World} {v : Value} {ts : List RT} (h : OwnN P B W v ts) (hP : ∀ g, P g → Q g) : OwnN Q B W v ts := h.mono (Nat.le_refl _) (fun g hp _ => ⟨hP g hp, rfl⟩) fun _ _ => rfl
theorem OwnN.nodes {P : Nat → Prop} {B : Nat} {W : World} {v : Value} {ts : List RT} (h : OwnN P B W v ts) (hne : ts ≠ []) : NodesAt P W v ts := by
  obtain ⟨vss, h1, h2, h3⟩ := h
  have hsz : ∀ vs ∈ vss, vs.size = 14 := fun vs hvs => by
    obtain ⟨j, hj, rfl⟩ := List.getElem_of_mem hvs
    exact (h2 j _ _ (List.getElem?_eq_getElem hj) (List.getElem?_eq_getElem (by omega))).size
  rcases h3.2 with ⟨_, h0⟩ | ⟨g, cap, cur, rfl, hb, hg, hn, hc, hcs, ht⟩
  · exact absurd (List.eq_nil_of_length_eq_zero h0) hne
  · refine ⟨g, cap, vss, rfl, (Array.getElem?_eq_some_iff.1 hg).1, h1, h2, fun j vs hv i hi => ?_⟩
    have hj : j < vss.length := (List.getElem?_eq_some_iff.1 hv).1
    have := cellsOf_at hsz j vs hv i hi
    rw [← this, ← ht, Lib.cell_of_heap hg, List.getElem?_take_of_lt (by omega)]
    simp
theorem OwnN.cap {P : Nat → Prop} {B : Nat} {W : World} {v : Value} {ts : List RT} (h : OwnN P B W v ts) : ∀ a n c, v = .slice a n c → n ≤ c := by
  obtain ⟨vss, h1, h2, h3⟩ := h
  intro a n c e
  rcases h3.2 with ⟨h, h0⟩ | ⟨g, cap, cur, h, hb, hg, hn, _⟩
  · rw [e] at h; cases h; omega
  · rw [e] at h; cases h; exact hn
theorem OwnN.blk {P : Nat → Prop} {B : Nat} {W : World} {v : Value} {ts : List RT} (h : OwnN P B W v ts) : ∀ g, v.ownBlock = some g → B ≤ g ∧ g < W.heap.size := by
  obtain ⟨vss, h1, h2, h3⟩ := h
  exact h3.lt
theorem OwnN.shape {P : Nat → Prop} {B : Nat} {W : World} {v : Value} {ts : List RT} (h : OwnN P B W v ts) : (v = .slice none 0 0 ∧ ts = []) ∨ ∃ g c, v = .slice (some ⟨g, 0, none⟩) ts.length c ∧ B ≤ g ∧ g < W.heap.size ∧ ts.length ≤ c := by
  obtain ⟨vss, h1, h2, h3⟩ := h
  rcases h3.2 with ⟨h, h0⟩ | ⟨g, cap, cur, h, hb, hg, hn, _⟩
  · exact .inl ⟨h, List.eq_nil_of_length_eq_zero h0⟩
  · exact .inr ⟨g, cap, h, hb, (Array.getElem?_eq_some_iff.1 hg).1, hn⟩
/-- One node in a block. -/
theorem one_nodes {P : Nat → Prop} {W : World} {e : Nat} {vs : Array Value} {t : RT} {T : TypeId} (h : NodeIs P W vs t) (he : W.heap[e]? = some (.cells vs T (0, 0))) : NodesAt P W (.slice (some ⟨e, 0, none⟩) 1 1) [t] := by
  refine ⟨e, 1, [vs], rfl, (Array.getElem?_eq_some_iff.1 he).1, rfl, fun j vs' t' a b => ?_, fun j vs' a i hi => ?_⟩
  · match j, a, b with
    | 0, a, b =>
      simp only [List.getElem?_cons_zero, Option.some.injEq] at a b
      subst a b
      exact h
  · match j, a with
    | 0, a =>
      simp only [List.getElem?_cons_zero, Option.some.injEq] at a
      subst a
      rw [Lib.cell_of_heap he]
      simp
theorem rnInfo : (Tryz.prog.info? 69).map (fun i => (i.zero, i.size, i.bytes)) = some (some (.agg (nodeA 0 (.slice none 0 0) zSide zSide ⟨#[]⟩ false)), 14, 184) := by kernel_rfl
theorem addr_add0 (g j : Nat) : (⟨g, 0, none⟩ : Addr).add j = ⟨g, j, none⟩ := by unfold Addr.add; split <;> simp_all
theorem NodeIs.one {P : Nat → Prop} {W : World} {vs : Array Value} {t : RT} (h : NodeIs P W vs t) : ∀ u ∈ vs.toList, u.oneCell' = true := by
  obtain ⟨k, a, b, op, y, kids, sl, f, rfl, _, hk, _⟩ := h.form
  obtain ⟨a0, n0, c0, rfl⟩ : ∃ a n c, sl = .slice a n c := by
    rcases hk with ⟨rfl, _⟩ | ⟨_, g, c, rfl, _⟩
    · exact ⟨_, _, _, rfl⟩
    · exact ⟨_, _, _, rfl⟩
  intro u hu
  simp only [nodeA, List.mem_cons, List.not_mem_nil, or_false] at hu
  rcases hu with rfl | rfl | rfl | rfl | rfl | rfl | rfl | rfl | rfl | rfl | rfl | rfl | rfl | rfl <;> rfl
/-- 'append(l, m...)' at nodes. -/
theorem app_nodes {ops : Array Oper} {rest : List Oper} {o : Oper} {a : Act} {Q : Exit → Act → World → Prop} (hgd : o.guard = none) (so xo : Operand)
    (ho : o.op = .call { callee := .builtin .append, args := #[so, xo], argTypes := #[65, 65] }) {W : World} {P : Nat → Prop} {B : Nat} {v u : Value} {ts ms : List RT} (h : OwnN P B W v ts) (hB : B ≤ W.heap.size) (hs : a.eval so = v)
    (hx : a.eval xo = u) (hu : NodesAt P W u ms) (hne : ms ≠ []) (hl : ts.length + ms.length ≤ 200000) (hsep : ∀ g, P g → g < W.heap.size → v.ownBlock ≠ some g)
    (k : ∀ g cap W', W.grownBy W' v.ownBlock → (v.ownBlock = some g ∨ g = W.heap.size) → OwnN (fun g => P g ∧ g < W.heap.size) B W' (.slice (some ⟨g, 0, none⟩) (ts.length + ms.length) cap) (ts ++ ms) → wpList Tryz.prog ops Q rest (a.put o.dst (.slice (some ⟨g, 0, none⟩) (ts.length + ms.length) cap)) W') :
    wpList Tryz.prog ops Q (o :: rest) a W := by
  obtain ⟨i0, hi, hz0, hz1, hz2⟩ := info_parts rnInfo
  obtain ⟨vss, e1, e2, e3⟩ := h
  obtain ⟨g, c, wss, rfl, f2, f3, f4, f5⟩ := hu
  have hsz : ∀ vs ∈ wss, vs.size = 14 := fun vs hvs => by
    obtain ⟨j, hj, rfl⟩ := List.getElem_of_mem hvs
    exact (f4 j _ _ (List.getElem?_eq_getElem hj) (List.getElem?_eq_getElem (by omega))).size
  have hlen := cellsOf_len hsz
  have hpos : 0 < ms.length := List.length_pos_iff.2 hne
  refine wpList_append_lies W hgd so xo 65 ho B 69 i0 (.agg (nodeA 0 (.slice none 0 0) zSide zSide ⟨#[]⟩ false)) 14 184 Tryz.underlying65 hi hz0 hz1 hz2 rfl (by decide) v ts.length (cellsOf vss) hs e3 ⟨g, 0, none⟩ ms.length c (cellsOf wss) hx (by rw [hlen, f3]) ?_ ?_ hpos ?_ ?_ hB W.heap.size rfl ?_
  · intro j y hj
    have hjl : j < (cellsOf wss).length := (List.getElem?_eq_some_iff.1 hj).1
    have hq : j / 14 < wss.length := by omega
    have e : j = j / 14 * 14 + j % 14 := by omega
    have ha := addr_add0 g j
    have h1 := cellsOf_at hsz (j / 14) _ (List.getElem?_eq_getElem hq) (j % 14) (by omega)
    have h2 := f5 (j / 14) _ (List.getElem?_eq_getElem hq) (j % 14) (by omega)
    rw [← e] at h1 h2
    rw [ha, h2, ← h1, hj]
  · intro y hy
    obtain ⟨vs, hvs, hy⟩ := List.mem_flatMap.1 hy
    obtain ⟨j, hj, rfl⟩ := List.getElem_of_mem hvs
    exact (f4 j _ _ (List.getElem?_eq_getElem hj) (List.getElem?_eq_getElem (by omega))).one y hy
  · unfold maxLen; omega
  · omega
  · intro g' cap w' h1 h2 h3 _
    refine k g' cap w' h2 h3 ⟨vss ++ wss, by simp [e1, f3], fun j vs t hv ht => ?_, ?_⟩
    · have hP : ∀ g, P g → g < W.heap.size → (P g ∧ g < W.heap.size) ∧ w'.heap[g]? = W.heap[g]? := fun g hp hg => ⟨⟨hp, hg⟩, h2.block g hg fun e => hsep g hp hg e.symm⟩
      by_cases hj : j < ts.length
      · rw [List.getElem?_append_left (by omega)] at hv ht
        exact (e2 j vs t hv ht).mono h2.size hP
      · rw [List.getElem?_append_right (by omega)] at hv ht
        rw [e1] at hv
        exact (f4 _ vs t hv ht).mono h2.size hP
    · rw [List.length_append, cellsOf, List.flatMap_append]
      exact h1
theorem store14 {X : World} {r : Nat} {a0 a1 a2 a3 a4 a5 a6 a7 a8 a9 a10 a11 a12 a13 z0 z1 z2 z3 z4 z5 z6 z7 z8 z9 z10 z11 z12 z13 : Value} {T : TypeId} (h : X.heap[r]? = some (.cells #[z0, z1, z2, z3, z4, z5, z6, z7, z8, z9, z10, z11, z12, z13] T (0, 0))) :
    (World.setCell (World.setCell (World.setCell (World.setCell (World.setCell (World.setCell (World.setCell (World.setCell (World.setCell (World.setCell (World.setCell (World.setCell (World.setCell (World.setCell X (Addr.mk r 0 none) a0) (Addr.mk r 1 none) a1) (Addr.mk r 2 none) a2) (Addr.mk r 3 none) a3) (Addr.mk r 4 none) a4) (Addr.mk r 5 none) a5) (Addr.mk r 6 none) a6) (Addr.mk r 7 none) a7) (Addr.mk r 8 none) a8) (Addr.mk r 9 none) a9) (Addr.mk r 10 none) a10) (Addr.mk r 11 none) a11) (Addr.mk r 12 none) a12) (Addr.mk r 13 none) a13) = sb X r (.cells #[a0, a1, a2, a3, a4, a5, a6, a7, a8, a9, a10, a11, a12, a13] T (0, 0)) := by
  have hr : r < X.heap.size := (Array.getElem?_eq_some_iff.1 h).1
  have e : X = sb X r (.cells #[z0, z1, z2, z3, z4, z5, z6, z7, z8, z9, z10, z11, z12, z13] T (0, 0)) := by
    obtain ⟨heap, tape, drawn, os, output⟩ := X
    simp only [sb]
    congr 1
    apply Array.ext_getElem?
    intro k
    rw [Array.getElem?_setIfInBounds]
    split
    · subst_vars
      simp only at h hr
      first | exact h | (rw [if_pos hr]; exact h)
    · rfl
  rw [e, setCell_sb _ _ _ _ _ _ _ hr, setCell_sb _ _ _ _ _ _ _ hr, setCell_sb _ _ _ _ _ _ _ hr, setCell_sb _ _ _ _ _ _ _ hr, setCell_sb _ _ _ _ _ _ _ hr, setCell_sb _ _ _ _ _ _ _ hr, setCell_sb _ _ _ _ _ _ _ hr, setCell_sb _ _ _ _ _ _ _ hr, setCell_sb _ _ _ _ _ _ _ hr, setCell_sb _ _ _ _ _ _ _ hr, setCell_sb _ _ _ _ _ _ _ hr, setCell_sb _ _ _ _ _ _ _ hr, setCell_sb _ _ _ _ _ _ _ hr, setCell_sb _ _ _ _ _ _ _ hr, sb_sb]
  simp only [List.setIfInBounds_toArray, List.set_cons_succ, List.set_cons_zero]
theorem node_cells {X : World} {g o : Nat} {k : Int} {sl : Value} {a b : Sd} {op : ByteArray} {y : Bool} (h : ∀ i, i < 14 → X.cell? ⟨g, o + i, none⟩ = (nodeA k sl a b op y)[i]?) :
    X.cell? ⟨g, o, none⟩ = some (Value.int .i64 k) ∧ X.cell? ⟨g, o + 1, none⟩ = some (sl) ∧ X.cell? ⟨g, o + 2, none⟩ = some (.string a.i) ∧ X.cell? ⟨g, o + 3, none⟩ = some (.string a.v) ∧ X.cell? ⟨g, o + 4, none⟩ = some (.int .i64 a.k) ∧ X.cell? ⟨g, o + 5, none⟩ = some (.int .i64 a.n) ∧ X.cell? ⟨g, o + 6, none⟩ = some (.string a.s) ∧ X.cell? ⟨g, o + 7, none⟩ = some (.string b.i) ∧ X.cell? ⟨g, o + 8, none⟩ = some (.string b.v) ∧ X.cell? ⟨g, o + 9, none⟩ = some (.int .i64 b.k) ∧ X.cell? ⟨g, o + 10, none⟩ = some (.int .i64 b.n) ∧ X.cell? ⟨g, o + 11, none⟩ = some (.string b.s) ∧ X.cell? ⟨g, o + 12, none⟩ = some (.string op) ∧ X.cell? ⟨g, o + 13, none⟩ = some (.bool y) :=
  ⟨h 0 (by omega), h 1 (by omega), h 2 (by omega), h 3 (by omega), h 4 (by omega), h 5 (by omega), h 6 (by omega), h 7 (by omega), h 8 (by omega), h 9 (by omega), h 10 (by omega), h 11 (by omega), h 12 (by omega), h 13 (by omega)⟩
end Go.Proofs.YtpmheafccfnfjaaGreatDoor
namespace Go.Proofs.YtpmheafccfnfjaaGreatDoor
open Go Go.RowKit
def rKids (k : Int) (t : RT) : List RT := if t.kd = k then t.ks else [t]
def rFold (k : Int) : List RT → RT
  | [t] => t
  | l => .mk k zSide zSide ⟨#[]⟩ false l
def rJoin (k : Int) (ts : List RT) : RT := rFold k (ts.flatMap (rKids k))
theorem rFold_ne {k : Int} {l : List RT} (h : l.length ≠ 1) : rFold k l = .mk k zSide zSide ⟨#[]⟩ false l := by
  match l, h with
  | [], _ => rfl
  | [_], h => exact absurd rfl h
  | _ :: _ :: _, _ => rfl
abbrev zNode : Array Value := nodeA 0 (.slice none 0 0) zSide zSide ⟨#[]⟩ false
abbrev zNodeO : Obj := .cells #[.int .i64 0, .slice none 0 0, .string ⟨#[]⟩, .string ⟨#[]⟩, .int .i64 0, .int .i64 0, .string ⟨#[]⟩, .string ⟨#[]⟩, .string ⟨#[]⟩, .int .i64 0, .int .i64 0, .string ⟨#[]⟩, .string ⟨#[]⟩, .bool false] 69
theorem kp_sb {w X : World} {r : Nat} (h : Kp w X) (hr : w.heap.size ≤ r) (o : Obj) : Kp w (sb X r o) :=
  ⟨by rw [size_sb]; exact h.size, h.os, h.tape, h.output, fun k hk => by rw [heap_sb_other _ _ _ (by omega)]; exact h.block k hk⟩
theorem take_flat {α β : Type} (f : α → List β) (l : List α) {k : Nat} (hk : k < l.length) : (l.take (k + 1)).flatMap f = (l.take k).flatMap f ++ f l[k] := by
  rw [List.take_succ_eq_append_getElem hk, List.flatMap_append]
  simp
set_option maxHeartbeats 4000000 in
set_option maxRecDepth 100000 in
theorem joined_ret (kd : Int) (P : Nat → Prop) (ts : List RT) (u : Value) (w : World) (hu : NodesAt P w u ts) (hne : ts ≠ []) (hwf : ∀ t ∈ ts, t.kd = kd → t.ks ≠ []) (hlen : (ts.flatMap (rKids kd)).length ≤ 150000) (htl : ts.length ≤ 150000)
    (R : Ending → World → Prop) (HR : Hid (∀ vs w', Kp w w' → NodeIs (fun g => P g ∨ w.heap.size ≤ g) w' vs (rJoin kd ts) → R (.returned (.agg vs)) w')) :
    Calls Tryz.prog 111 #[.int .i64 kd, u] w R := by
  obtain ⟨g, c, vss, rfl, hg, h3, h4, h5⟩ := hu
  have HN : Hid (∀ k (hk : k < ts.length), ∃ vs, NodeIs P w vs ts[k] ∧ ∀ i, i < 14 → w.cell? ⟨g, k * 14 + i, none⟩ = vs[i]?) := fun k hk =>
    ⟨vss[k], h4 k _ _ (List.getElem?_eq_getElem (by omega)) (List.getElem?_eq_getElem hk), h5 k _ (List.getElem?_eq_getElem (by omega))⟩
  have HT : Hid (∀ k, k < ts.length → ((ts.take k).flatMap (rKids kd)).length + (rKids kd (ts.getD k (.mk 0 zSide zSide ⟨#[]⟩ false []))).length ≤ 150000) := fun k hk => by
    have e := take_flat (rKids kd) ts hk
    have e2 : (ts.flatMap (rKids kd)).length = ((ts.take (k + 1)).flatMap (rKids kd)).length + ((ts.drop (k + 1)).flatMap (rKids kd)).length := by
      rw [← List.length_append, ← List.flatMap_append, List.take_append_drop]
    rw [e, List.length_append] at e2
    rw [List.getD_eq_getElem?_getD, List.getElem?_eq_getElem hk]
    simp only [Option.getD_some]
    omega
  have hl0 : Hid (ts.flatMap (rKids kd) ≠ []) := by
    obtain ⟨t, r, rfl⟩ := List.exists_cons_of_ne_nil hne
    intro e
    rw [List.flatMap_cons] at e
    have e1 := (List.append_eq_nil_iff.1 e).1
    unfold rKids at e1
    split at e1
    · rename_i h9
      exact hwf t (by simp) h9 e1
    · cases e1
  replace hwf := Lib.hid hwf
  have hr : (w.alloc zNodeO).heap[w.heap.size]? = some zNodeO := World.alloc_heap_new _ _
  clear h3 h4 h5
  go_enter Tryz.func111, Tryz.ntmps111
  go_wp2
  go_loopw [5, 6] (fun v i wr => ∃ (k : Nat) (row : Value), k ≤ ts.length ∧ i = .int .i64 k ∧ row = v ∧ Hid (Kp (w.alloc zNodeO) wr) ∧ Hid (OwnN (fun g => P g ∧ g < w.heap.size) (w.alloc zNodeO).heap.size wr row ((ts.take k).flatMap (rKids kd)))) (fun _ i _ => ts.length - (intOf i).toNat)
  case atStart => exact ⟨0, _, Nat.zero_le _, rfl, rfl, Kp.refl _, OwnN.nil _ _ _⟩
  case round =>
    rename World => X
    obtain ⟨k, row, hk, rfl, rfl, hkX, hoX⟩ := hrel
    by_cases hlt : k < ts.length
    · obtain ⟨vs, hn, hc⟩ := HN.out k hlt
      obtain ⟨k1, a, b, op, y, kids, sl, f, rfl, e2, hka, hkk⟩ := hn.form
      have hkw : Kp w X := ((Kp.refl w).alloc _).trans hkX.out
      have gX : g < X.heap.size := Nat.lt_of_lt_of_le hg hkw.size
      obtain ⟨c0, c1, c2, c3, c4, c5, c6, c7, c8, c9, c10, c11, c12, c13⟩ := node_cells (X := X) fun i hi => by
        rw [World.cell?_of_block (w := w) (a := ⟨g, _, none⟩) (hkw.block _ hg)]
        exact hc i hi
      have hT := HT.out k hlt
      rw [List.getD_eq_getElem?_getD, List.getElem?_eq_getElem hlt, Option.getD_some, e2] at hT
      have hfl := take_flat (rKids kd) ts hlt
      rw [e2] at hfl
      generalize (ts.take k).flatMap (rKids kd) = acc at *
      have hQ : ∀ g, P g → g < w.heap.size → (P g ∧ g < w.heap.size) ∧ X.heap[g]? = w.heap[g]? := fun g hp hg => ⟨⟨hp, hg⟩, hkw.block g hg⟩
      have hrow : ∀ g, (P g ∧ g < w.heap.size) → row.ownBlock ≠ some g := fun g hp e => by
        have := (hoX.out.blk g e).1
        have h9 : (w.alloc zNodeO).heap.size = w.heap.size + 1 := by simp
        omega
      by_cases hkd : k1 = kd
      · have hks : kids ≠ [] := by
          have := hwf.out _ (List.getElem_mem hlt)
          rw [e2] at this
          exact this hkd
        have e3 : rKids kd (.mk k1 a b op y kids) = kids := if_pos hkd
        rw [e3] at hT hfl
        have HK := Lib.hid ((kids_nodes hka hkk hks).mono hkw.size hQ (fun g' e => by
          rcases hka with ⟨rfl, _⟩ | ⟨_, g2, c2, rfl, _, h9, _⟩
          · cases e
          · cases e
            exact hkw.block _ h9))
        have hsl : ∃ g2 c2, sl = .slice (some ⟨g2, 0, none⟩) kids.length c2 := by
          obtain ⟨g2, c2, _, e, _⟩ := HK.out
          exact ⟨g2, c2, e⟩
        obtain ⟨g2, c2', rfl⟩ := hsl
        subst hkd
        replace hrow := Lib.hid hrow
        clear e2 hka hkk hQ hn hc
        go_wp2_with (at_builtin; refine app_nodes (v := row) (u := .slice (some ⟨g2, 0, none⟩) kids.length c2') rfl _ _ rfl hoX.out hkX.out.size rfl rfl HK.out hks (by omega) (fun g hp _ => hrow.out g hp) ?_; intro g5 cap5 W5 hg5 _ ho5)
        go_roundw
        case rel =>
          refine ⟨k + 1, _, hlt, by go_num, rfl, ?_, ?_⟩
          · exact kp_grownBy hkX.out hg5 fun k hk => (hoX.out.blk k hk).1
          · show OwnN _ _ _ _ _
            rw [hfl]
            exact ho5.weaken fun _ h => h.1
        case measure => simp [intOf]; omega
      · have e3 : rKids kd (.mk k1 a b op y kids) = [.mk k1 a b op y kids] := if_neg hkd
        rw [e3] at hT hfl
        have hnX := Lib.hid (hn.mono hkw.size hQ)
        obtain ⟨a2, n2, c2', rfl⟩ : ∃ a n c, sl = .slice a n c := by
          rcases hka with ⟨rfl, _⟩ | ⟨_, g, c, rfl, _⟩
          · exact ⟨_, _, _, rfl⟩
          · exact ⟨_, _, _, rfl⟩
        have hkb : (k1 == kd) = false := by simpa using hkd
        replace hrow := Lib.hid hrow
        simp only [List.length_singleton] at hT
        clear hka hkk hQ hc hkd hn
        rw [e2] at hnX
        clear e2
        go_wp2_with (at_builtin; refine app_nodes (v := row) (u := .slice (some ⟨X.heap.size, 0, none⟩) 1 1) (ms := [.mk k1 a b op y kids]) rfl _ _ rfl (hoX.out.kp ((Kp.refl X).alloc _)) (hkX.out.alloc _).size rfl rfl (one_nodes (hnX.out.kp ((Kp.refl X).alloc _)) (World.alloc_heap_new X _)) (by simp) (by simp; omega) (fun g hp _ => hrow.out g hp) ?_; intro g5 cap5 W5 hg5 _ ho5)
        go_roundw
        case rel =>
          refine ⟨k + 1, _, hlt, by go_num, rfl, ?_, ?_⟩
          · exact kp_grownBy (hkX.out.alloc _) hg5 fun k hk => (hoX.out.blk k hk).1
          · show OwnN _ _ _ _ _
            rw [hfl]
            exact ho5.weaken fun _ h => h.1
        case measure => simp [intOf]; omega
    · have hke : k = ts.length := by omega
      have hks : (ts.take k).flatMap (rKids kd) = ts.flatMap (rKids kd) := by rw [hke, List.take_length]
      rw [hks] at hoX
      have hj : rJoin kd ts = rFold kd (ts.flatMap (rKids kd)) := rfl
      rw [hj] at HR
      have hkw : Kp w X := ((Kp.refl w).alloc _).trans hkX.out
      have hrX : X.heap[w.heap.size]? = some (.cells zNode 69 (0, 0)) := (hkX.out.block _ (by simp)).trans hr
      have rl : w.heap.size < X.heap.size := (Array.getElem?_eq_some_iff.1 hrX).1
      have rf : ∀ i, X.frozen? ⟨w.heap.size, i, none⟩ = false := fun i => Lib.frozen_of_heap hrX i
      obtain ⟨r0, r1, r2, r3, r4, r5, r6, r7, r8, r9, r10, r11, r12, r13⟩ := node_cells (X := X) (g := w.heap.size) (o := 0) (k := 0) (sl := .slice none 0 0) (a := zSide) (b := zSide) (op := ⟨#[]⟩) (y := false) fun i hi => by
        rw [Nat.zero_add]
        exact Lib.cell_of_heap hrX i
      simp only [Nat.zero_add] at r1 r2 r3 r4 r5 r6 r7 r8 r9 r10 r11 r12 r13
      have hQ : ∀ g, (P g ∧ g < w.heap.size) → g < X.heap.size → (P g ∨ w.heap.size ≤ g) := fun g hp _ => .inl hp.1
      clear hj hks
      generalize ts.flatMap (rKids kd) = l at *
      by_cases h1 : l.length = 1
      · obtain ⟨t, rfl⟩ : ∃ t, l = [t] := List.length_eq_one_iff.1 h1
        obtain ⟨g2, c2, vss2, hrow, q2, q3, q4, q5⟩ := hoX.out.nodes (by simp)
        have hb2 := hoX.out.blk g2 (by rw [hrow]; rfl)
        subst hrow
        have hv : vss2[0]? = some (vss2[0]'(by simp at q3; omega)) := List.getElem?_eq_getElem _
        have hn2 := q4 0 _ t hv rfl
        have hc2 := q5 0 _ hv
        obtain ⟨k1, a, b, op, y, kids, sl, f, e1, e2, hka, hkk⟩ := hn2.form
        rw [e1] at hc2 hn2
        obtain ⟨a2, n2, c3, rfl⟩ : ∃ a n c, sl = .slice a n c := by
          rcases hka with ⟨rfl, _⟩ | ⟨_, g, c, rfl, _⟩
          · exact ⟨_, _, _, rfl⟩
          · exact ⟨_, _, _, rfl⟩
        obtain ⟨m0, m1, m2, m3, m4, m5, m6, m7, m8, m9, m10, m11, m12, m13⟩ := node_cells (X := X) (g := g2) (o := 0) fun i hi => by
          rw [← hc2 i hi, Nat.zero_mul]
        simp only [Nat.zero_add] at m1 m2 m3 m4 m5 m6 m7 m8 m9 m10 m11 m12 m13
        have ne : w.heap.size ≠ g2 := by
          have h9 : (w.alloc zNodeO).heap.size = w.heap.size + 1 := by simp
          omega
        have hgl := hb2.2
        have HN2 := Lib.hid hn2
        have HX := Lib.hid hrX
        clear hv q4 q5 hc2 e1 e2 hka hkk hn2 hb2 q3 hrX hwf HN HT hr
        go_wp2
        rw [store14 HX.out]
        have ul : w.heap.size < X.heap.size := rl
        refine bodyPost_ret (v := .agg (nodeA k1 (.slice a2 n2 c3) a b op y)) (by simp [results, Tryz.results111, go_sem, rl]) rfl ?_
        refine HR.out _ _ (kp_sb hkw (Nat.le_refl _) _) (HN2.out.mono (by simp) fun g hp hg => ⟨.inl hp.1, heap_sb_other _ _ _ (by omega)⟩)
      · have hsl : ∃ a2 c2, row = .slice a2 l.length c2 := by
          rcases hoX.out.shape with ⟨rfl, rfl⟩ | ⟨g, c, rfl, _⟩
          · exact ⟨_, _, rfl⟩
          · exact ⟨_, _, rfl⟩
        obtain ⟨a2, c2, rfl⟩ := hsl
        have hl1 : ((l.length : Int) == 1) = false := by simp; omega
        replace h1 := Lib.hid h1
        have HX := Lib.hid hrX
        clear hrX hwf HN HT hr
        go_wp2
        rw [store14 HX.out]
        refine bodyPost_ret (v := .agg (nodeA kd (.slice a2 l.length c2) zSide zSide ⟨#[]⟩ false)) (by simp [results, Tryz.results111, go_sem, rl, zSide]) rfl ?_
        have e : rFold kd l = RT.mk kd zSide zSide ⟨#[]⟩ false l := rFold_ne h1.out
        have HR2 := HR.out
        rw [e] at HR2
        refine HR2 _ _ (kp_sb hkw (Nat.le_refl _) _) ?_
        have h0 := hl0.out
        obtain ⟨f, k1, k2⟩ := nodes_kids ((hoX.out.nodes h0).mono (Q := fun g => P g ∨ w.heap.size ≤ g) (X := sb X w.heap.size (.cells (nodeA kd (.slice a2 l.length c2) zSide zSide ⟨#[]⟩ false) 69 (0, 0))) (by simp) (fun g hp hg => ⟨.inl hp.1, heap_sb_other _ _ _ (by omega)⟩) (fun g hg => heap_sb_other _ _ _ (by
            have := hoX.out.blk g hg
            have h9 : (w.alloc zNodeO).heap.size = w.heap.size + 1 := by simp
            omega))) h0 (fun g hg => .inr (by
            have := hoX.out.blk g hg
            have h9 : (w.alloc zNodeO).heap.size = w.heap.size + 1 := by simp
            omega)) hoX.out.cap
        exact .mk kd zSide zSide ⟨#[]⟩ false l _ f k1 k2
end Go.Proofs.YtpmheafccfnfjaaGreatDoor
namespace Go.Proofs.YtpmheafccfnfjaaGreatDoor
open Go Go.RowKit
abbrev zRT (k : Int) (l : List RT) : RT := .mk k zSide zSide ⟨#[]⟩ false l
def toRT : Nd → RT
  | .pair op l r => zRT op (rKids op (toRT l) ++ rKids op (toRT r))
  | .no n => zRT 3 [toRT n]
  | .test op a b => .mk 4 (sdOf a) (sdOf b) (st op) false []
  | .truth b => .mk 5 zSide zSide ⟨#[]⟩ b []
/-- A node of words has two or more sides. -/
def Wt (t : RT) : Prop := (t.kd = 1 ∨ t.kd = 2) → 2 ≤ t.ks.length
theorem rKids_pos {op : Int} (ho : op = 1 ∨ op = 2) {t : RT} (h : Wt t) : 1 ≤ (rKids op t).length := by
  unfold rKids
  split
  · rename_i e
    have := h (by rw [e]; exact ho)
    omega
  · simp
theorem rKids_le {op : Int} {t : RT} {m : Nat} (h : t.ks.length ≤ m) (hm : 1 ≤ m) : (rKids op t).length ≤ m := by
  unfold rKids
  split
  · exact h
  · simpa using hm
theorem toRT_wt : ∀ n, Wt (toRT n)
  | .pair op l r => fun h => by
    have h1 := rKids_pos (op := op) h (toRT_wt l)
    have h2 := rKids_pos (op := op) h (toRT_wt r)
    show 2 ≤ (rKids op (toRT l) ++ rKids op (toRT r)).length
    rw [List.length_append]
    omega
  | .no n => fun h => by rcases h with h | h <;> cases h
  | .test op a b => fun h => by rcases h with h | h <;> cases h
  | .truth b => fun h => by rcases h with h | h <;> cases h
theorem toRT_form {op : Int} (ho : op = 1 ∨ op = 2) : ∀ n, (toRT n).kd = op → toRT n = zRT op (toRT n).ks
  | .pair o l r, h => by
    have : o = op := h
    subst this
    rfl
  | .no n, h => by rcases ho with rfl | rfl <;> cases h
  | .test _ a b, h => by rcases ho with rfl | rfl <;> cases h
  | .truth b, h => by rcases ho with rfl | rfl <;> cases h
theorem fold_toRT {op : Int} (ho : op = 1 ∨ op = 2) (n : Nd) : rFold op (rKids op (toRT n)) = toRT n := by
  unfold rKids
  split
  · rename_i h
    have h1 := toRT_wt n (by rw [h]; exact ho)
    rw [rFold_ne (by omega)]
    exact (toRT_form ho n h).symm
  · rfl
theorem rKids_pair (op : Int) (a b : Nd) : rKids op (toRT (.pair op a b)) = rKids op (toRT a) ++ rKids op (toRT b) := by
  unfold rKids
  rw [if_pos (show (toRT (.pair op a b)).kd = op from rfl)]
  rfl
theorem flat_len {op : Int} (ho : op = 1 ∨ op = 2) : ∀ {ts : List RT}, (∀ t ∈ ts, Wt t) → ts.length ≤ (ts.flatMap (rKids op)).length
  | [], _ => Nat.le_refl _
  | t :: ts, h => by
    have h1 := rKids_pos ho (h t (by simp))
    have h2 := flat_len ho (ts := ts) fun x hx => h x (by simp [hx])
    rw [List.flatMap_cons, List.length_append, List.length_cons]
    omega
theorem join_wt {op : Int} (ho : op = 1 ∨ op = 2) {ts : List RT} (hne : ts ≠ []) (h : ∀ t ∈ ts, Wt t) {m : Nat} (hm : ∀ t ∈ ts, t.ks.length ≤ m) (hf : (ts.flatMap (rKids op)).length ≤ m) : Wt (rJoin op ts) ∧ (rJoin op ts).ks.length ≤ m := by
  have hl := flat_len ho h
  have hp : 1 ≤ ts.length := List.length_pos_iff.2 hne
  unfold rJoin
  by_cases h1 : (ts.flatMap (rKids op)).length = 1
  · match ts, hne with
    | [t], _ =>
      have hw := h t (by simp)
      simp only [List.flatMap_cons, List.flatMap_nil, List.append_nil] at h1 ⊢
      have e : rKids op t = [t] := by
        unfold rKids at h1 ⊢
        split at h1
        · rename_i e
          have := hw (by rw [e]; exact ho)
          omega
        · rename_i e
          rw [if_neg e]
      rw [e]
      exact ⟨hw, hm t (by simp)⟩
    | _ :: _ :: _, _ => simp only [List.length_cons] at hl; omega
  · rw [rFold_ne h1]
    refine ⟨fun _ => ?_, hf⟩
    show 2 ≤ (ts.flatMap (rKids op)).length
    omega
/-- What is read, against the pure descent. -/
def Rel (res : PRes) (t : RT) (T : List Bs) (bad lim : Bool) : Prop := match res with
  | some (n, T', d') => bad = false ∧ t = toRT n ∧ T = T' ∧ lim = decide (20 < d')
  | none => bad = true
structure NdP (L : List Bs) (k : Nat) (res : PRes) (t : RT) (k' : Nat) (bad lim : Bool) : Prop where
  ge : k ≤ k'
  le : k' ≤ L.length
  wd : t.ks.length ≤ k' - k + 1
  wt : Wt t
  rel : Rel res t (L.drop k') bad lim
/-- Within sides of a word. -/
structure MnP (side : List Bs → Int → PRes) (wd : Bs) (op : Int) (L : List Bs) (k0 : Nat) (res : PRes) (ts : List RT) (k : Nat) (bad lim : Bool) : Prop where
  ge : k0 ≤ k
  le : k ≤ L.length
  ne : ts ≠ []
  len : ts.length ≤ k - k0 + 1
  fl : (ts.flatMap (rKids op)).length ≤ k - k0 + 1
  wt : ∀ t ∈ ts, Wt t ∧ t.ks.length ≤ k - k0 + 1
  yes : bad = true → res = none
  no : bad = false → ∃ n d f, lim = decide (20 < d) ∧ ts.flatMap (rKids op) = rKids op (toRT n) ∧ res = pMore side wd op f n (L.drop k) d ∧ (L.drop k).length < f
section
variable {side : List Bs → Int → PRes} {wd : Bs} {op : Int} {L : List Bs} {k0 k : Nat} {res : PRes} {ts : List RT} {t : RT} {bad lim : Bool}
theorem MnP.first {d : Int} (h : NdP L k0 (side (L.drop k0) d) t k bad lim) : MnP side wd op L k0 (pMany side wd op (L.drop k0) d) [t] k bad lim := by
  have hg := h.ge
  refine ⟨h.ge, h.le, by simp, by simp, ?_, fun x hx => ?_, fun hb => ?_, fun hb => ?_⟩
  · simp only [List.flatMap_cons, List.flatMap_nil, List.append_nil]
    exact rKids_le h.wd (by omega)
  · simp only [List.mem_singleton] at hx
    subst hx
    exact ⟨h.wt, h.wd⟩
  · have hr := h.rel
    unfold Rel at hr
    split at hr
    · rw [hb] at hr; exact absurd hr.1 (by simp)
    · rename_i e
      unfold pMany
      rw [e]
  · have hr := h.rel
    unfold Rel at hr
    split at hr
    · rename_i n T' d' e
      obtain ⟨h1, h2, h3, h4⟩ := hr
      refine ⟨n, d', T'.length + 1, h4, by rw [h2]; simp, ?_, by rw [h3]; exact Nat.lt_succ_self _⟩
      unfold pMany
      rw [e, h3]
    · rw [hb] at hr; cases hr
theorem MnP.next {n : Nd} {d : Int} {f : Nat} (h : MnP side wd op L k0 res ts k false lim) (hd1 : hd (L.drop k) = wd) (hk : k < L.length) (hl : lim = decide (20 < d)) (hts : ts.flatMap (rKids op) = rKids op (toRT n)) (hres : res = pMore side wd op (f + 1) n (L.drop k) d) (hf : (L.drop k).length < f + 1)
    {k' : Nat} {bad' lim' : Bool} (h2 : NdP L (k + 1) (side (L.drop (k + 1)) d) t k' bad' lim') : MnP side wd op L k0 res (ts ++ [t]) k' bad' lim' := by
  have hg := h.ge
  have hg2 := h2.ge
  have e : res = match side (L.drop (k + 1)) d with
    | some (m, T', d') => pMore side wd op f (.pair op n m) T' d'
    | none => none := by
    rw [hres, pMore, if_pos hd1, tail_drop]
    cases side (L.drop (k + 1)) d with
    | none => rfl
    | some r => rfl
  refine ⟨by omega, h2.le, by simp, ?_, ?_, fun x hx => ?_, fun hb => ?_, fun hb => ?_⟩
  · have := h.len
    rw [List.length_append, List.length_singleton]
    omega
  · have h3 := h.fl
    have h4 := rKids_le (op := op) h2.wd (by omega)
    rw [List.flatMap_append, List.length_append]
    simp only [List.flatMap_cons, List.flatMap_nil, List.append_nil]
    omega
  · rcases List.mem_append.1 hx with hx | hx
    · exact ⟨(h.wt x hx).1, by have := (h.wt x hx).2; omega⟩
    · simp only [List.mem_singleton] at hx
      subst hx
      exact ⟨h2.wt, by have := h2.wd; omega⟩
  · have hr := h2.rel
    rw [e]
    unfold Rel at hr
    split at hr
    · rw [hb] at hr; exact absurd hr.1 (by simp)
    · rename_i e1
      simp only [e1]
  · have hr := h2.rel
    unfold Rel at hr
    split at hr
    · rename_i m T' d' e1
      obtain ⟨q1, q2, q3, q4⟩ := hr
      refine ⟨.pair op n m, d', f, q4, ?_, ?_, ?_⟩
      · rw [List.flatMap_append, hts, rKids_pair, q2]
        simp
      · rw [e, e1, q3]
      · rw [List.length_drop] at hf ⊢
        omega
    · rw [hb] at hr; cases hr
theorem MnP.last (ho : op = 1 ∨ op = 2) (h : MnP side wd op L k0 res ts k bad lim) (hs : bad = true ∨ hd (L.drop k) ≠ wd) : NdP L k0 res (rJoin op ts) k bad lim := by
  have hj := join_wt ho h.ne (fun t ht => (h.wt t ht).1) (fun t ht => (h.wt t ht).2) h.fl
  refine ⟨h.ge, h.le, hj.2, hj.1, ?_⟩
  cases bad with
  | true => rw [h.yes rfl]; exact rfl
  | false =>
    obtain ⟨n, d, f, h1, h2, h3, h4⟩ := h.no rfl
    rw [h3, pMore_stop h4 (by rcases hs with hs | hs; exact absurd hs (by simp); exact hs)]
    exact ⟨rfl, by rw [rJoin, h2, fold_toRT ho], rfl, h1⟩
end
end Go.Proofs.YtpmheafccfnfjaaGreatDoor
namespace Go.Proofs.YtpmheafccfnfjaaGreatDoor
open Go Go.RowKit
/-- What a function of the reader hands back. -/
def NdRes (w : World) (b : Nat) (v : Value) (L : List Bs) (lv : Int) (k : Nat) (res : PRes) (e : Ending) (w' : World) : Prop :=
  ∃ (kd : Int) (a2 : Option Addr) (n2 c2 : Nat) (sA sB : Sd) (op : ByteArray) (y : Bool) (kids : List RT) (k' : Nat) (bad lim : Bool), e = .returned (.agg (nodeA kd (.slice a2 n2 c2) sA sB op y)) ∧ Kb b w w' ∧ w'.heap[b]? = some (rfO v k' lv bad lim) ∧
    NodeIs (fun g => w.heap.size ≤ g) w' (nodeA kd (.slice a2 n2 c2) sA sB op y) (.mk kd sA sB op y kids) ∧ NdP L k res (.mk kd sA sB op y kids) k' bad lim
/-- What a function of the reader does, over words fewer than K. -/
def DoesR (f : FuncId) (b : Nat) (L : List Bs) (v : Value) (g : Int → List Bs → Int → PRes) (K : Nat) : Prop := ∀ (lv : Int) (k : Nat) (d : Int) (w : World), w.heap[b]? = some (rfO v k lv false (decide (20 < d))) → WdsX b w v L → k ≤ L.length → (L.drop k).length < K → 0 ≤ lv → lv ≤ 100000 - (L.drop k).length →
  Calls Tryz.prog f #[.pointer (some ⟨b, 0, none⟩)] w (NdRes w b v L lv k (g lv (L.drop k) d))
/-- The ground of a walk: the reader in block b, the result in block r. -/
structure Gd (w : World) (b r : Nat) (Y : World) : Prop where
  kb : Kb b w Y
  hb : b < Y.heap.size
  zr : Y.heap[r]? = some (.cells zNode 69 (0, 0))
  ne : r ≠ b
  wr : w.heap.size ≤ r
  bw : b < w.heap.size
theorem sb_self {X : World} {b : Nat} {o : Obj} (h : X.heap[b]? = some o) : X = sb X b o := by
  have hr : b < X.heap.size := (Array.getElem?_eq_some_iff.1 h).1
  obtain ⟨heap, tape, drawn, os, output⟩ := X
  simp only [sb]
  congr 1
  apply Array.ext_getElem?
  intro k
  rw [Array.getElem?_setIfInBounds]
  split
  · subst_vars
    simp only at h hr
    first | exact h | (rw [if_pos hr]; exact h)
  · rfl
section
variable {w X Y : World} {b r : Nat} {o o' : Obj}
theorem Gd.start (h : w.heap[b]? = some o) : ∃ Y, w.alloc zNodeO = sb Y b o ∧ Gd w b w.heap.size Y := by
  have hb : b < w.heap.size := (Array.getElem?_eq_some_iff.1 h).1
  refine ⟨w.alloc zNodeO, sb_self (by rw [Lib.alloc_old _ _ _ hb]; exact h), (Kb.refl b w).alloc _, by simp; omega, World.alloc_heap_new _ _, by omega, Nat.le_refl _, hb⟩
theorem Gd.next (G : Gd w b r Y) (hk : Kb b (sb Y b o) X) (ho : X.heap[b]? = some o') : ∃ Y2, X = sb Y2 b o' ∧ Gd w b r Y2 ∧ Y.heap.size ≤ Y2.heap.size ∧ (∀ k, k < Y.heap.size → k ≠ b → Y2.heap[k]? = Y.heap[k]?) := by
  have hr : r < Y.heap.size := (Array.getElem?_eq_some_iff.1 G.zr).1
  have hs : Y.heap.size ≤ X.heap.size := by have := hk.size; rwa [size_sb] at this
  have hold : ∀ k, k < Y.heap.size → k ≠ b → X.heap[k]? = Y.heap[k]? := fun k h1 h2 => by
    rw [hk.block k (by rw [size_sb]; exact h1) h2, heap_sb_other _ _ _ h2]
  exact ⟨X, sb_self ho, ⟨(G.kb.setB o).trans hk, Nat.lt_of_lt_of_le G.hb hs, (hold r hr G.ne).trans G.zr, G.ne, G.wr, G.bw⟩, hs, hold⟩
theorem Gd.is (G : Gd w b r Y) : (sb Y b o).heap[b]? = some o := heap_sb_same _ _ _ G.hb
theorem Gd.wds {v : Value} {L : List Bs} (G : Gd w b r Y) (hv : WdsX b w v L) : WdsX b (sb Y b o) v L := hv.kb (G.kb.setB o)
theorem Gd.cells (G : Gd w b r Y) : Y.cell? ⟨r, 0, none⟩ = some (.int .i64 0) ∧ Y.cell? ⟨r, 1, none⟩ = some (.slice none 0 0) ∧ Y.cell? ⟨r, 2, none⟩ = some (.string ⟨#[]⟩) ∧ Y.cell? ⟨r, 3, none⟩ = some (.string ⟨#[]⟩) ∧ Y.cell? ⟨r, 4, none⟩ = some (.int .i64 0) ∧ Y.cell? ⟨r, 5, none⟩ = some (.int .i64 0) ∧ Y.cell? ⟨r, 6, none⟩ = some (.string ⟨#[]⟩) ∧ Y.cell? ⟨r, 7, none⟩ = some (.string ⟨#[]⟩) ∧ Y.cell? ⟨r, 8, none⟩ = some (.string ⟨#[]⟩) ∧ Y.cell? ⟨r, 9, none⟩ = some (.int .i64 0) ∧ Y.cell? ⟨r, 10, none⟩ = some (.int .i64 0) ∧ Y.cell? ⟨r, 11, none⟩ = some (.string ⟨#[]⟩) ∧ Y.cell? ⟨r, 12, none⟩ = some (.string ⟨#[]⟩) ∧ Y.cell? ⟨r, 13, none⟩ = some (.bool false) := by
  refine ⟨?_, ?_, ?_, ?_, ?_, ?_, ?_, ?_, ?_, ?_, ?_, ?_, ?_, ?_⟩ <;> exact Lib.cell_of_heap G.zr _
theorem Gd.fr (G : Gd w b r Y) (i : Nat) : Y.frozen? ⟨r, i, none⟩ = false := Lib.frozen_of_heap G.zr i
theorem Gd.rl (G : Gd w b r Y) : r < Y.heap.size := (Array.getElem?_eq_some_iff.1 G.zr).1
theorem Gd.res (G : Gd w b r Y) : (sb Y b o).heap[r]? = some (.cells zNode 69 (0, 0)) := by rw [heap_sb_other _ _ _ G.ne]; exact G.zr
theorem Gd.kbf (G : Gd w b r Y) (o o' : Obj) : Kb b w (sb (sb Y b o) r o') := by
  have h := G.kb.setB o
  exact ⟨by rw [size_sb]; exact h.size, h.os, h.tape, h.output, fun k hk hb => by rw [heap_sb_other _ _ _ (by have := G.wr; omega)]; exact h.block k hk hb⟩
end
theorem nd_fin {w Y : World} {b r lo : Nat} {v : Value} {L : List Bs} {lv : Int} {k k2 : Nat} {res : PRes} {kd : Int} {a2 : Option Addr} {n2 c2 : Nat} {sA sB : Sd} {op : ByteArray} {y : Bool} {kids : List RT} {bad lim : Bool} {o ob : Obj} (G : Gd w b r Y) (hlo : r < lo) (hn : NodeIs (fun g => lo ≤ g) (sb Y b o) (nodeA kd (.slice a2 n2 c2) sA sB op y) (.mk kd sA sB op y kids)) (hp : NdP L k res (.mk kd sA sB op y kids) k2 bad lim) (ho : o = rfO v k2 lv bad lim) :
    NdRes w b v L lv k res (.returned (.agg (nodeA kd (.slice a2 n2 c2) sA sB op y))) (sb (sb Y b o) r ob) := by
  have := G.wr
  refine ⟨kd, a2, n2, c2, sA, sB, op, y, kids, k2, bad, lim, rfl, G.kbf _ _, ?_, hn.mono (by simp) fun g hp hg => ⟨by omega, heap_sb_other _ _ _ (by omega)⟩, hp⟩
  rw [heap_sb_other _ _ _ (Ne.symm G.ne), heap_sb_same _ _ _ G.hb, ho]
set_option maxHeartbeats 2000000 in
set_option maxRecDepth 100000 in
theorem rnot_no {b : Nat} {L : List Bs} {v : Value} {g : Int → List Bs → Int → PRes} {K : Nat} (hp : DoesR 194 b L v g K) {lv : Int} {k : Nat} {d : Int} {w : World} (h : w.heap[b]? = some (rfO v k lv false (decide (20 < d)))) (hv : WdsX b w v L) (hk : k ≤ L.length) (hK : (L.drop k).length < K) (h0 : 0 ≤ lv) (h1 : lv ≤ 100000 - (L.drop k).length)
    (hn : hd (L.drop k) ≠ wNot) : Calls Tryz.prog 175 #[.pointer (some ⟨b, 0, none⟩)] w (NdRes w b v L lv k (g lv (L.drop k) d)) := by
  obtain ⟨Y, hY, G⟩ := Gd.start h
  have HS := Lib.hid (fun (Y : World) (G : Gd w b w.heap.size Y) => skip_no (w := sb Y b (rfO v k lv false (decide (20 < d)))) ⟨#[110, 111, 116]⟩ G.is (G.wds hv) hk (.inr hn))
  have HP := Lib.hid (fun (Y : World) (G : Gd w b w.heap.size Y) => hp lv k d (sb Y b (rfO v k lv false (decide (20 < d)))) G.is (G.wds hv) hk hK h0 h1)
  replace hY := Lib.hid hY
  have hb1 := G.hb
  have ne := G.ne
  replace G := Lib.hid G
  generalize g lv (L.drop k) d = res at *
  generalize decide (20 < d) = lim at *
  clear h hv hn hp
  go_enter Tryz.func175, Tryz.ntmps175
  go_wp2_with (first | (go_at_call 139; refine Calls_cast hY.out ?_; refine (HS.out _ G.out).mono ?_; rintro e w1 ⟨rfl, hk1⟩; obtain ⟨Y1, rfl, G1, _⟩ := G.out.next (.of_kp hk1) ((hk1.block _ (by simpa using hb1)).trans G.out.is); replace G1 := Lib.hid G1) | (go_at_call 194; refine (HP.out _ G1.out).mono ?_; rintro e w2 ⟨kd, a2, n2, c2, sA, sB, op, y, kids, k2, bad2, lim2, rfl, hk2, ho2, hn2, hp2⟩; obtain ⟨Y2, rfl, G2, hs2, _⟩ := G1.out.next hk2 ho2; obtain ⟨r0, r1, r2, r3, r4, r5, r6, r7, r8, r9, r10, r11, r12, r13⟩ := G2.cells; have rf := G2.fr; have rl := G2.rl; have hb2 := G2.hb; replace G2 := Lib.hid G2; replace hn2 := Lib.hid hn2; replace hp2 := Lib.hid hp2; clear hk2 ho2))
  rw [store14 G2.out.res]
  refine bodyPost_ret (v := .agg (nodeA kd (.slice a2 n2 c2) sA sB op y)) (by simp [results, Tryz.results175, go_sem, rl]) rfl ?_
  exact nd_fin G2.out (by rw [size_sb]; exact G1.out.rl) hn2.out hp2.out rfl
theorem nd_not {L : List Bs} {k k2 : Nat} {res : PRes} {t : RT} {bad lim : Bool} (h : NdP L (k + 1) res t k2 bad lim) : NdP L k (res.map fun r => (.no r.1, r.2)) (zRT 3 [t]) k2 bad lim := by
  have hg := h.ge
  refine ⟨by omega, h.le, by show 1 ≤ _; omega, (fun h => by rcases h with h | h <;> cases h), ?_⟩
  have hr := h.rel
  unfold Rel at hr
  split at hr
  · obtain ⟨h1, h2, h3, h4⟩ := hr
    exact ⟨h1, by rw [h2]; rfl, h3, h4⟩
  · exact hr
theorem nd_fin_not {w Y : World} {b r lo : Nat} {v : Value} {L : List Bs} {lv : Int} {k k2 : Nat} {res : PRes} {t : RT} {vs : Array Value} {bad lim : Bool} {o ob oc o2 : Obj} (G : Gd w b r Y) (hlo : r < lo) (hn : NodeIs (fun g => lo ≤ g) (sb Y b o2) vs t) (hp : NdP L k res (zRT 3 [t]) k2 bad lim) (ho : o = rfO v k2 lv bad lim) {T : TypeId} :
    NdRes w b v L lv k res (.returned (.agg (nodeA 3 (.slice (some ⟨Y.heap.size, 0, none⟩) 1 1) zSide zSide ⟨#[]⟩ false))) (((sb (sb Y b o) r ob).alloc (.cells vs T (0, 0))).alloc oc) := by
  have h1 := G.wr
  have h2 := G.rl
  have hk : Kp (sb (sb Y b o) r ob) (((sb (sb Y b o) r ob).alloc (.cells vs T (0, 0))).alloc oc) := ((Kp.refl _).alloc _).alloc _
  have hz : (sb (sb Y b o) r ob).heap.size = Y.heap.size := by simp
  have hc : (((sb (sb Y b o) r ob).alloc (.cells vs T (0, 0))).alloc oc).heap[Y.heap.size]? = some (.cells vs T (0, 0)) := by
    rw [Lib.alloc_old _ _ _ (by simp)]
    have := World.alloc_heap_new (sb (sb Y b o) r ob) (.cells vs T (0, 0))
    rwa [hz] at this
  refine ⟨3, _, 1, 1, zSide, zSide, ⟨#[]⟩, false, [t], k2, bad, lim, rfl, (G.kbf _ _).trans (.of_kp hk), ?_, ?_, hp⟩
  · rw [hk.block b (by rw [hz]; exact G.hb), heap_sb_other _ _ _ (Ne.symm G.ne), heap_sb_same _ _ _ G.hb, ho]
  · refine .mk 3 zSide zSide ⟨#[]⟩ false [t] _ (fun _ => vs) (.inr ⟨by simp, _, _, rfl, by omega, by simp; omega, by simp, fun j hj i hi => ?_⟩) fun j hj => ?_
    · have : j = 0 := by simpa using hj
      subst this
      rw [Nat.zero_mul, Nat.zero_add, Lib.cell_of_heap hc]
    · have : j = 0 := by simpa using hj
      subst this
      refine hn.mono (by simp; omega) fun g hp hg => ⟨by omega, ?_⟩
      rw [size_sb] at hg
      rw [hk.block g (by rw [hz]; exact hg), heap_sb_other _ _ _ (by omega)]
      by_cases e : g = b
      · have := G.bw
        omega
      · rw [heap_sb_other _ _ _ e, heap_sb_other _ _ _ e]
set_option maxHeartbeats 2000000 in
set_option maxRecDepth 100000 in
theorem rnot_yes {b : Nat} {L : List Bs} {v : Value} {g : Int → List Bs → Int → PRes} {K : Nat} (hp : DoesR 194 b L v g K) {lv : Int} {k : Nat} {d : Int} {w : World} (h : w.heap[b]? = some (rfO v k lv false (decide (20 < d)))) (hv : WdsX b w v L) (hk : k < L.length) (hK : (L.drop k).length < K) (h0 : 0 ≤ lv) (h1 : lv ≤ 100000 - (L.drop k).length)
    (hn : hd (L.drop k) = wNot) : Calls Tryz.prog 175 #[.pointer (some ⟨b, 0, none⟩)] w (NdRes w b v L lv k ((g (lv + 1) (L.drop (k + 1)) (max d (lv + 1))).map fun r => (.no r.1, r.2))) := by
  obtain ⟨Y, hY, G⟩ := Gd.start h
  have hl : (L.drop (k + 1)).length + 1 = (L.drop k).length := by rw [List.length_drop, List.length_drop]; omega
  have e20 : (decide (20 < d) || decide (20 < lv + 1)) = decide (20 < max d (lv + 1)) := by
    rw [← Bool.decide_or]
    congr 1
    rw [eq_iff_iff]
    omega
  have HS := Lib.hid (fun (Y : World) (G : Gd w b w.heap.size Y) => skip_yes (w := sb Y b (rfO v k lv false (decide (20 < d)))) ⟨#[110, 111, 116]⟩ G.is (G.wds hv) (Nat.le_of_lt hk) hn (by decide))
  have HI := Lib.hid (fun (Y : World) (G : Gd w b w.heap.size Y) => in_ret (w := sb Y b (rfO v (k + 1 : Nat) lv false (decide (20 < d)))) (v := v) h0 (by omega) G.is)
  have HP := Lib.hid (fun (Y : World) (G : Gd w b w.heap.size Y) => hp (lv + 1) (k + 1) (max d (lv + 1)) (sb Y b (rfO v (k + 1 : Nat) (lv + 1) false (decide (20 < max d (lv + 1))))) G.is (G.wds hv) hk (by omega) (by omega) (by omega))
  rw [e20] at HI
  replace hY := Lib.hid hY
  have hb1 := G.hb
  have ne := G.ne
  replace G := Lib.hid G
  have hlv : lv + 1 ≤ 200000 := by omega
  generalize g (lv + 1) (L.drop (k + 1)) (max d (lv + 1)) = res at *
  generalize decide (20 < d) = lim at *
  generalize decide (20 < max d (lv + 1)) = lim1 at *
  clear h hv hn hp e20
  go_enter Tryz.func175, Tryz.ntmps175
  go_wp2_with (first | (go_at_call 139; refine Calls_cast hY.out ?_; refine (HS.out _ G.out).mono ?_; rintro e w1 ⟨rfl, hk1, ho1⟩; obtain ⟨Y1, rfl, G1, _⟩ := G.out.next hk1 ho1; replace G1 := Lib.hid G1) | (go_at_call 195; refine (HI.out _ G1.out).mono ?_; rintro e w3 ⟨rfl, hk3, ho3⟩; obtain ⟨Y3, rfl, G3, _⟩ := G1.out.next hk3 ho3; replace G3 := Lib.hid G3) | (go_at_call 194; refine (HP.out _ G3.out).mono ?_; rintro e w2 ⟨kd, a2, n2, c2, sA, sB, op, y, kids, k2, bad2, lim2, rfl, hk2, ho2, hn2, hp2⟩; obtain ⟨Y2, rfl, G2, hs2, _⟩ := G3.out.next hk2 ho2; obtain ⟨r0, r1, r2, r3, r4, r5, r6, r7, r8, r9, r10, r11, r12, r13⟩ := G2.cells; have rf := G2.fr; have rl := G2.rl; have hb2 := G2.hb; replace G2 := Lib.hid G2; replace hn2 := Lib.hid hn2; replace hp2 := Lib.hid hp2; clear hk2 ho2))
  rw [store14 G2.out.res]
  refine bodyPost_ret (v := .agg (nodeA 3 (.slice (some ⟨Y2.heap.size, 0, none⟩) 1 1) zSide zSide ⟨#[]⟩ false)) (by simp [results, Tryz.results175, go_sem, rl, zSide]) rfl ?_
  exact nd_fin_not G2.out (by rw [size_sb]; exact G3.out.rl) hn2.out (nd_not hp2.out) rfl
/-- not. -/
theorem rnot_does {b : Nat} {L : List Bs} {v : Value} {g : Int → List Bs → Int → PRes} {K : Nat} (hp : DoesR 194 b L v g K) : DoesR 175 b L v (pNot g) K := by
  intro lv k d w h hv hk hK h0 h1
  unfold pNot
  split
  · rename_i hn
    rw [tail_drop]
    have hlt : k < L.length := by
      rcases Nat.lt_or_ge k L.length with h | h
      · exact h
      · rw [List.drop_eq_nil_of_le h] at hn; cases hn
    exact rnot_yes hp h hv hlt hK h0 h1 hn
  · rename_i hn
    exact rnot_no hp h hv hk hK h0 h1 hn
end Go.Proofs.YtpmheafccfnfjaaGreatDoor
namespace Go.Proofs.YtpmheafccfnfjaaGreatDoor
open Go Go.RowKit
theorem Gd.grown {w Y W' : World} {b r : Nat} {o A : Obj} {row : Option Nat} (G : Gd w b r Y) (hg : ((sb Y b o).alloc A).grownBy W' row) (hb : row ≠ some b) (hr : row ≠ some r) (hw : ∀ k, row = some k → w.heap.size ≤ k) : ∃ Y2, W' = sb Y2 b o ∧ Gd w b r Y2 ∧ Y.heap.size ≤ Y2.heap.size := by
  have h1 : ((sb Y b o).alloc A).heap.size = Y.heap.size + 1 := by simp
  have hs : Y.heap.size ≤ W'.heap.size := by have := hg.size; omega
  have hold : ∀ k, k < Y.heap.size → some k ≠ row → W'.heap[k]? = (sb Y b o).heap[k]? := fun k h2 h3 => by
    rw [hg.block k (by omega) h3, Lib.alloc_old _ _ _ (by simpa using h2)]
  have hbo : W'.heap[b]? = some o := (hold b G.hb (Ne.symm hb)).trans G.is
  refine ⟨W', sb_self hbo, ⟨⟨?_, ?_, ?_, ?_, fun k h2 h3 => ?_⟩, Nat.lt_of_lt_of_le G.hb hs, ?_, G.ne, G.wr, G.bw⟩, hs⟩
  · exact Nat.le_trans G.kb.size hs
  · exact hg.os.trans G.kb.os
  · exact hg.tape.trans G.kb.tape
  · exact hg.output.trans G.kb.output
  · rw [hold k (Nat.lt_of_lt_of_le h2 G.kb.size) (fun e => by have := hw k e.symm; omega), heap_sb_other _ _ _ h3]
    exact G.kb.block k h2 h3
  · rw [hold r G.rl (Ne.symm hr), heap_sb_other _ _ _ G.ne]
    exact G.zr
theorem NodeIs.slice {P : Nat → Prop} {W : World} {vs : Array Value} {t : RT} (h : NodeIs P W vs t) : ∃ kd a2 n2 c2 sA sB op y kids, vs = nodeA kd (.slice a2 n2 c2) sA sB op y ∧ t = .mk kd sA sB op y kids := by
  obtain ⟨k, a, b, op, y, kids, sl, f, rfl, rfl, hka, _⟩ := h.form
  obtain ⟨a2, n2, c2, rfl⟩ : ∃ a n c, sl = .slice a n c := by
    rcases hka with ⟨rfl, _⟩ | ⟨_, g, c, rfl, _⟩
    · exact ⟨_, _, _, rfl⟩
    · exact ⟨_, _, _, rfl⟩
  exact ⟨k, a2, n2, c2, a, b, op, y, kids, rfl, rfl⟩
/-- The first of sides, in a row. -/
theorem own_one {P : Nat → Prop} {W : World} {vs : Array Value} {t : RT} {B : Nat} (h : NodeIs P W vs t) (hB : B ≤ W.heap.size) : OwnN (fun g => P g ∧ g < W.heap.size) B (W.alloc (.cells vs 69)) (.slice (some ⟨W.heap.size, 0, none⟩) 1 1) [t] := by
  refine ⟨[vs], rfl, fun j v' t' h1 h2 => ?_, ?_, .inr ⟨W.heap.size, 1, vs, rfl, hB, World.alloc_heap_new _ _, Nat.le_refl _, by decide, by rw [h.size], ?_⟩⟩
  · match j, h1, h2 with
    | 0, h1, h2 =>
      simp only [List.getElem?_cons_zero, Option.some.injEq] at h1 h2
      subst h1 h2
      exact h.mono (by simp) fun g hp hg => ⟨⟨hp, hg⟩, Lib.alloc_old _ _ _ hg⟩
  · simp [cellsOf, h.size]
  · rw [List.take_of_length_le (by simp [h.size])]
    simp [cellsOf]
theorem rdN_rf {W : World} {b k : Nat} {v : Value} {d : Int} {bad lim : Bool} (hb : b < W.heap.size) : rdN (sb W b (rfO v k d bad lim)) b = k := by
  unfold rdN
  rw [cell_sb_same _ _ _ _ _ _ hb]
  exact Int.toNat_natCast k
theorem OwnN.step {P : Nat → Prop} {B b : Nat} {Y Y2 : World} {o o' : Obj} {row : Value} {ts : List RT} (h : OwnN P B (sb Y b o) row ts) (hs : Y.heap.size ≤ Y2.heap.size) (hold : ∀ k, k < Y.heap.size → k ≠ b → Y2.heap[k]? = Y.heap[k]?) (hP : ∀ g, P g → b < g) (hB : b < B) : OwnN P B (sb Y2 b o') row ts := by
  have key : ∀ g, b < g → g < Y.heap.size → (sb Y2 b o').heap[g]? = (sb Y b o).heap[g]? := fun g h1 h2 => by
    rw [heap_sb_other _ _ _ (by omega), heap_sb_other _ _ _ (by omega), hold g h2 (by omega)]
  refine h.mono (by simpa using hs) (fun g hp hg => ⟨hp, key g (hP g hp) (by simpa using hg)⟩) fun g hg => ?_
  have := h.blk g hg
  rw [size_sb] at this
  exact key g (by omega) this.2
theorem alloc_sb_new (Y : World) (b : Nat) (o z : Obj) : ((sb Y b o).alloc z).heap[Y.heap.size]? = some z := by
  have := World.alloc_heap_new (sb Y b o) z
  rwa [size_sb] at this
/-- A row that has grown. -/
theorem own_grown {B N : Nat} {W : World} {row : Value} {g5 n c : Nat} {ts : List RT} (h : OwnN (fun g => (B ≤ g ∧ row.ownBlock ≠ some g) ∧ g < N) B W (.slice (some ⟨g5, 0, none⟩) n c) ts) (hat : row.ownBlock = some g5 ∨ g5 = N) : OwnN (fun g => B ≤ g ∧ (Value.slice (some ⟨g5, 0, none⟩) n c).ownBlock ≠ some g) B W (.slice (some ⟨g5, 0, none⟩) n c) ts :=
  h.weaken fun g ⟨⟨q1, q2⟩, q3⟩ => ⟨q1, fun e => by
    have e9 : g5 = g := by simpa [Value.ownBlock] using e
    rcases hat with e | e
    · rw [e9] at e; exact q2 e
    · omega⟩
set_option maxHeartbeats 4000000 in
set_option maxRecDepth 100000 in
theorem rand_does {b : Nat} {L : List Bs} {v : Value} {g : Int → List Bs → Int → PRes} {K : Nat} (hp : DoesR 175 b L v g K) : DoesR 138 b L v (fun lv => pMany (g lv) wAnd 2) K := by
  intro lv k d w h hv hk hK h0 h1
  show Calls _ _ _ _ (NdRes w b v L lv k (pMany (g lv) wAnd 2 (L.drop k) d))
  have hLen : L.length ≤ 100000 := hv.1
  obtain ⟨Y, hY, G⟩ := Gd.start h
  have HS1 := Lib.hid (fun (Y : World) (G : Gd w b w.heap.size Y) (k1 : Nat) (lim : Bool) (hk1 : k1 ≤ L.length) (hn : hd (L.drop k1) = wAnd) => skip_yes (w := sb Y b (rfO v k1 lv false lim)) ⟨#[97, 110, 100]⟩ G.is (G.wds hv) hk1 hn (by decide))
  have HS2 := Lib.hid (fun (Y : World) (G : Gd w b w.heap.size Y) (k1 : Nat) (bad lim : Bool) (hk1 : k1 ≤ L.length) (hn : bad = true ∨ hd (L.drop k1) ≠ wAnd) => skip_no (w := sb Y b (rfO v k1 lv bad lim)) ⟨#[97, 110, 100]⟩ G.is (G.wds hv) hk1 hn)
  have HP := Lib.hid (fun (Y : World) (G : Gd w b w.heap.size Y) (k1 : Nat) (d1 : Int) (hk0 : k ≤ k1) (hk1 : k1 ≤ L.length) => hp lv k1 d1 (sb Y b (rfO v k1 lv false (decide (20 < d1)))) G.is (G.wds hv) hk1 (by rw [List.length_drop] at hK ⊢; omega) h0 (by rw [List.length_drop] at h1 ⊢; omega))
  replace hY := Lib.hid hY
  have ne := G.ne
  have hrl := G.rl
  have hbw := G.bw
  replace G := Lib.hid G
  clear h hv hp hK h0 h1
  go_enter Tryz.func138, Tryz.ntmps138
  go_wp2_with (go_at_call 175; refine Calls_cast hY.out ?_; refine (HP.out _ G.out k d (Nat.le_refl _) hk).mono ?_; rintro e w1 ⟨kd, a2, n2, c2, sA, sB, op, y, kids, k1, bad1, lim1, rfl, hk1, ho1, hn1, hp1⟩; obtain ⟨Y1, rfl, G1, hs1, _⟩ := G.out.next hk1 ho1; have hb1 := G1.hb; replace G1 := Lib.hid G1; replace hn1 := Lib.hid hn1; replace hp1 := Lib.hid hp1; clear hk1 ho1)
  obtain ⟨Z, hZ, GZ, hsZ, _⟩ := G1.out.next (o := rfO v k1 lv bad1 lim1) (X := (sb Y1 b (rfO v k1 lv bad1 lim1)).alloc (.cells (nodeA kd (.slice a2 n2 c2) sA sB op y) 69)) ((Kb.refl _ _).alloc _) (by rw [Lib.alloc_old _ _ _ (by simpa using hb1)]; exact G1.out.is)
  have HO1 := own_one (B := w.heap.size + 1) (hn1.out) (by rw [size_sb]; omega)
  rw [hZ] at HO1
  simp only [size_sb] at HO1
  replace hZ := Lib.hid hZ
  replace GZ := Lib.hid GZ
  have HO1' := Lib.hid (HO1.weaken (Q := fun g => w.heap.size + 1 ≤ g ∧ (Value.slice (some ⟨Y1.heap.size, 0, none⟩) 1 1).ownBlock ≠ some g) fun g h => by
    obtain ⟨q1, q2⟩ := h
    refine ⟨by omega, ?_⟩
    intro e
    have : Y1.heap.size = g := by simpa [Value.ownBlock] using e
    omega)
  have HM1 : Hid (MnP (g lv) wAnd 2 L k (pMany (g lv) wAnd 2 (L.drop k) d) [.mk kd sA sB op y kids] k1 bad1 lim1) := MnP.first hp1.out
  generalize pMany (g lv) wAnd 2 (L.drop k) d = res at *
  clear HO1 hn1 hp1
  go_loopw [3] (fun u wr => ∃ (k1 : Nat) (bad lim : Bool) (row : Value) (ts : List RT) (Y : World), u = row ∧ wr = sb Y b (rfO v k1 lv bad lim) ∧ Hid (Gd w b w.heap.size Y) ∧ Hid (OwnN (fun g => w.heap.size + 1 ≤ g ∧ row.ownBlock ≠ some g) (w.heap.size + 1) wr row ts) ∧ Hid (MnP (g lv) wAnd 2 L k res ts k1 bad lim)) (fun _ wr => L.length - rdN wr b)
  case atStart => exact ⟨k1, bad1, lim1, _, _, Z, rfl, hZ.out, GZ, by rw [hZ.out]; exact HO1', HM1⟩
  case round =>
    clear HO1' HM1 hZ GZ hb1 G1
    obtain ⟨k2, bad, lim, row, ts, Y2, hu, rfl, G2, HO, HM⟩ := hrel
    have hu' := hu.symm
    subst hu'
    have hb2 := G2.out.hb
    have hkl := HM.out.le
    have hk0 := HM.out.ge
    have htl : ts.length ≤ 150000 := by have := HM.out.len; omega
    by_cases hgo : bad = false ∧ hd (L.drop k2) = wAnd
    · obtain ⟨rfl, hd1⟩ := hgo
      obtain ⟨n, d1, f, hl, hfl, hres, hf⟩ := HM.out.no rfl
      have hlt : k2 < L.length := by
        rcases Nat.lt_or_ge k2 L.length with h | h
        · exact h
        · rw [List.drop_eq_nil_of_le h] at hd1; cases hd1
      obtain ⟨f', rfl⟩ : ∃ f', f = f' + 1 := ⟨f - 1, by omega⟩
      subst hl
      have HS := Lib.hid (HS1.out Y2 G2.out k2 (decide (20 < d1)) hkl hd1)
      have HP2 := Lib.hid (fun (Y : World) (G : Gd w b w.heap.size Y) => HP.out Y G (k2 + 1) d1 (by omega) hlt)
      have HMn := Lib.hid (fun t k' bad' lim' (h : NdP L (k2 + 1) (g lv (L.drop (k2 + 1)) d1) t k' bad' lim') => HM.out.next hd1 hlt rfl hfl hres hf h)
      have hrd : rdN (sb Y2 b (rfO v k2 lv false (decide (20 < d1)))) b = k2 := rdN_rf hb2
      replace hrd := Lib.hid hrd
      have hPb : Hid (∀ g, (w.heap.size + 1 ≤ g ∧ row.ownBlock ≠ some g) → b < g) := fun g hp => by have := hp.1; omega
      have hbw1 : b < w.heap.size + 1 := by omega
      have hQ4 : Hid (∀ (Y3 : World), Y2.heap.size ≤ Y3.heap.size → ∀ (o : Obj) (g : Nat), (sb Y3 b o).heap.size ≤ g → (w.heap.size + 1 ≤ g ∧ row.ownBlock ≠ some g)) := fun Y3 h3 o g hg => by
        rw [size_sb] at hg
        have := G2.out.rl
        refine ⟨by omega, fun e => ?_⟩
        have := HO.out.blk g e
        rw [size_sb] at this
        omega
      have hB4 : Hid (∀ (Y3 Y4 : World) (o z : Obj), Y2.heap.size ≤ Y3.heap.size → Y3.heap.size ≤ Y4.heap.size → w.heap.size + 1 ≤ ((sb Y4 b o).alloc z).heap.size) := fun Y3 Y4 o z h3 h4 => by
        have := G2.out.rl
        simp
        omega
      clear hd1 hfl hres hf HM
      go_wp2_with (first | (go_at_call 139; refine HS.out.mono ?_; rintro e w3 ⟨rfl, hk3, ho3⟩; obtain ⟨Y3, rfl, G3, hs3, hold3⟩ := G2.out.next hk3 ho3; replace G3 := Lib.hid G3; replace hold3 := Lib.hid hold3) | (go_at_call 175; refine (HP2.out _ G3.out).mono ?_; rintro e w4 ⟨kd4, a4, n4, c4, sA4, sB4, op4, y4, kids4, k4, bad4, lim4, rfl, hk4, ho4, hn4, hp4⟩; obtain ⟨Y4, rfl, G4, hs4, hold4⟩ := G3.out.next hk4 ho4; replace G4 := Lib.hid G4; replace hold4 := Lib.hid hold4; replace hn4 := Lib.hid hn4; replace hp4 := Lib.hid hp4; have HO4 := Lib.hid ((HO.out.step (o' := rfO v (k2 + 1 : Nat) lv false (decide (20 < d1))) hs3 hold3.out hPb.out hbw1).step (o' := rfO v k4 lv bad4 lim4) hs4 hold4.out hPb.out hbw1); have HN4 := Lib.hid (hn4.out.mono (Q := fun g => w.heap.size + 1 ≤ g ∧ row.ownBlock ≠ some g) (Nat.le_refl _) (fun g hp hg => ⟨hQ4.out Y3 hs3 _ g hp, rfl⟩)); clear hk3 ho3 hk4 ho4) | (at_builtin; refine app_nodes (v := row) (u := .slice (some ⟨Y4.heap.size, 0, none⟩) 1 1) (ms := [.mk kd4 sA4 sB4 op4 y4 kids4]) rfl _ _ rfl (HO4.out.kp ((Kp.refl _).alloc _)) (hB4.out _ _ _ _ hs3 hs4) rfl rfl (one_nodes (HN4.out.kp ((Kp.refl _).alloc _)) (alloc_sb_new _ _ _ _)) (by simp) (by simp; omega) (fun g hp _ => hp.2) ?_; intro g5 cap5 W5 hg5 hat5 ho5))
      obtain ⟨Y5, rfl, G5, hs5⟩ := G4.out.grown hg5 (fun e => by have := HO.out.blk _ e; omega) (fun e => by have := HO.out.blk _ e; omega) (fun k e => by have := HO.out.blk k e; omega)
      have ho6 := own_grown ho5 hat5
      go_roundw
      case rel => exact ⟨k4, bad4, lim4, _, ts ++ [RT.mk kd4 sA4 sB4 op4 y4 kids4], Y5, rfl, rfl, G5, Lib.hid ho6, HMn.out _ _ _ _ hp4.out⟩
      case measure =>
        have := hp4.out.ge
        have := hp4.out.le
        rw [hrd.out, rdN_rf G5.hb]
        omega
    · have hstop : bad = true ∨ hd (L.drop k2) ≠ wAnd := by
        cases bad with
        | true => exact .inl rfl
        | false => exact .inr fun e => hgo ⟨rfl, e⟩
      have HS := Lib.hid (HS2.out Y2 G2.out k2 bad lim hkl hstop)
      have hMl := Lib.hid (HM.out.last (.inr rfl) hstop)
      have hwt : ∀ t ∈ ts, t.kd = 2 → t.ks ≠ [] := fun t ht e h0 => by
        have := (HM.out.wt t ht).1 (.inr e)
        rw [h0] at this
        simp at this
      have hfl : (ts.flatMap (rKids 2)).length ≤ 150000 := by have := HM.out.fl; omega
      have hHO := HO.out
      have HJ := Lib.hid (fun (W : World) (h : OwnN (fun g => w.heap.size + 1 ≤ g ∧ row.ownBlock ≠ some g) (w.heap.size + 1) W row ts) (R : Ending → World → Prop) => joined_ret 2 _ ts row W (h.nodes HM.out.ne) HM.out.ne hwt hfl htl R)
      have hPb : Hid (∀ g, (w.heap.size + 1 ≤ g ∧ row.ownBlock ≠ some g) → b < g) := fun g hp => by have := hp.1; omega
      have hbw1 : b < w.heap.size + 1 := by omega
      clear hgo hstop HM hwt hfl
      go_wp2_with (first | (go_at_call 139; refine HS.out.mono ?_; rintro e w3 ⟨rfl, hk3⟩; obtain ⟨Y3, rfl, G3, hs3, hold3⟩ := G2.out.next (.of_kp hk3) ((hk3.block _ (by simpa using hb2)).trans G2.out.is); replace G3 := Lib.hid G3; have HO3 := Lib.hid (HO.out.step (o' := rfO v k2 lv bad lim) hs3 hold3 hPb.out hbw1)) | (go_at_call 111; refine HJ.out _ HO3.out _ (Lib.hid ?_); intro vs w5 hk5 hn5; obtain ⟨kd5, a5, n5, c5, sA5, sB5, op5, y5, kids5, rfl, e5⟩ := hn5.slice; obtain ⟨Y5, rfl, G5, hs5, _⟩ := G3.out.next (.of_kp hk5) ((hk5.block _ (by have := G3.out.hb; simpa using this)).trans G3.out.is); obtain ⟨r0, r1, r2, r3, r4, r5, r6, r7, r8, r9, r10, r11, r12, r13⟩ := G5.cells; have rf := G5.fr; have rl := G5.rl; have hb5 := G5.hb; replace G5 := Lib.hid G5; replace hn5 := Lib.hid hn5; replace e5 := Lib.hid e5; clear hk5 hk3))
      have h9 := hMl.out
      rw [e5.out] at h9
      have hn6 := hn5.out
      rw [e5.out] at hn6
      rw [store14 G5.out.res]
      refine bodyPost_ret (v := .agg (nodeA kd5 (.slice a5 n5 c5) sA5 sB5 op5 y5)) (by simp [results, Tryz.results138, go_sem, rl]) rfl ?_
      refine nd_fin (lo := w.heap.size + 1) G5.out (Nat.lt_succ_self _) (hn6.mono (Nat.le_refl _) fun g hp hg => ⟨?_, rfl⟩) h9 rfl
      rcases hp with hp | hp
      · exact hp.1
      · have := G3.out.rl
        rw [size_sb] at hp
        omega
end Go.Proofs.YtpmheafccfnfjaaGreatDoor
namespace Go.Proofs.YtpmheafccfnfjaaGreatDoor
open Go Go.RowKit
set_option maxHeartbeats 4000000 in
set_option maxRecDepth 100000 in
theorem ror_does {b : Nat} {L : List Bs} {v : Value} {g : Int → List Bs → Int → PRes} {K : Nat} (hp : DoesR 138 b L v g K) : DoesR 96 b L v (fun lv => pMany (g lv) wOr 1) K := by
  intro lv k d w h hv hk hK h0 h1
  show Calls _ _ _ _ (NdRes w b v L lv k (pMany (g lv) wOr 1 (L.drop k) d))
  have hLen : L.length ≤ 100000 := hv.1
  obtain ⟨Y, hY, G⟩ := Gd.start h
  have HS1 := Lib.hid (fun (Y : World) (G : Gd w b w.heap.size Y) (k1 : Nat) (lim : Bool) (hk1 : k1 ≤ L.length) (hn : hd (L.drop k1) = wOr) => skip_yes (w := sb Y b (rfO v k1 lv false lim)) ⟨#[111, 114]⟩ G.is (G.wds hv) hk1 hn (by decide))
  have HS2 := Lib.hid (fun (Y : World) (G : Gd w b w.heap.size Y) (k1 : Nat) (bad lim : Bool) (hk1 : k1 ≤ L.length) (hn : bad = true ∨ hd (L.drop k1) ≠ wOr) => skip_no (w := sb Y b (rfO v k1 lv bad lim)) ⟨#[111, 114]⟩ G.is (G.wds hv) hk1 hn)
  have HP := Lib.hid (fun (Y : World) (G : Gd w b w.heap.size Y) (k1 : Nat) (d1 : Int) (hk0 : k ≤ k1) (hk1 : k1 ≤ L.length) => hp lv k1 d1 (sb Y b (rfO v k1 lv false (decide (20 < d1)))) G.is (G.wds hv) hk1 (by rw [List.length_drop] at hK ⊢; omega) h0 (by rw [List.length_drop] at h1 ⊢; omega))
  replace hY := Lib.hid hY
  have ne := G.ne
  have hrl := G.rl
  have hbw := G.bw
  replace G := Lib.hid G
  clear h hv hp hK h0 h1
  go_enter Tryz.func96, Tryz.ntmps96
  go_wp2_with (go_at_call 138; refine Calls_cast hY.out ?_; refine (HP.out _ G.out k d (Nat.le_refl _) hk).mono ?_; rintro e w1 ⟨kd, a2, n2, c2, sA, sB, op, y, kids, k1, bad1, lim1, rfl, hk1, ho1, hn1, hp1⟩; obtain ⟨Y1, rfl, G1, hs1, _⟩ := G.out.next hk1 ho1; have hb1 := G1.hb; replace G1 := Lib.hid G1; replace hn1 := Lib.hid hn1; replace hp1 := Lib.hid hp1; clear hk1 ho1)
  obtain ⟨Z, hZ, GZ, hsZ, _⟩ := G1.out.next (o := rfO v k1 lv bad1 lim1) (X := (sb Y1 b (rfO v k1 lv bad1 lim1)).alloc (.cells (nodeA kd (.slice a2 n2 c2) sA sB op y) 69)) ((Kb.refl _ _).alloc _) (by rw [Lib.alloc_old _ _ _ (by simpa using hb1)]; exact G1.out.is)
  have HO1 := own_one (B := w.heap.size + 1) (hn1.out) (by rw [size_sb]; omega)
  rw [hZ] at HO1
  simp only [size_sb] at HO1
  replace hZ := Lib.hid hZ
  replace GZ := Lib.hid GZ
  have HO1' := Lib.hid (HO1.weaken (Q := fun g => w.heap.size + 1 ≤ g ∧ (Value.slice (some ⟨Y1.heap.size, 0, none⟩) 1 1).ownBlock ≠ some g) fun g h => by
    obtain ⟨q1, q2⟩ := h
    refine ⟨by omega, ?_⟩
    intro e
    have : Y1.heap.size = g := by simpa [Value.ownBlock] using e
    omega)
  have HM1 : Hid (MnP (g lv) wOr 1 L k (pMany (g lv) wOr 1 (L.drop k) d) [.mk kd sA sB op y kids] k1 bad1 lim1) := MnP.first hp1.out
  generalize pMany (g lv) wOr 1 (L.drop k) d = res at *
  clear HO1 hn1 hp1
  go_loopw [3] (fun u wr => ∃ (k1 : Nat) (bad lim : Bool) (row : Value) (ts : List RT) (Y : World), u = row ∧ wr = sb Y b (rfO v k1 lv bad lim) ∧ Hid (Gd w b w.heap.size Y) ∧ Hid (OwnN (fun g => w.heap.size + 1 ≤ g ∧ row.ownBlock ≠ some g) (w.heap.size + 1) wr row ts) ∧ Hid (MnP (g lv) wOr 1 L k res ts k1 bad lim)) (fun _ wr => L.length - rdN wr b)
  case atStart => exact ⟨k1, bad1, lim1, _, _, Z, rfl, hZ.out, GZ, by rw [hZ.out]; exact HO1', HM1⟩
  case round =>
    clear HO1' HM1 hZ GZ hb1 G1
    obtain ⟨k2, bad, lim, row, ts, Y2, hu, rfl, G2, HO, HM⟩ := hrel
    have hu' := hu.symm
    subst hu'
    have hb2 := G2.out.hb
    have hkl := HM.out.le
    have hk0 := HM.out.ge
    have htl : ts.length ≤ 150000 := by have := HM.out.len; omega
    by_cases hgo : bad = false ∧ hd (L.drop k2) = wOr
    · obtain ⟨rfl, hd1⟩ := hgo
      obtain ⟨n, d1, f, hl, hfl, hres, hf⟩ := HM.out.no rfl
      have hlt : k2 < L.length := by
        rcases Nat.lt_or_ge k2 L.length with h | h
        · exact h
        · rw [List.drop_eq_nil_of_le h] at hd1; cases hd1
      obtain ⟨f', rfl⟩ : ∃ f', f = f' + 1 := ⟨f - 1, by omega⟩
      subst hl
      have HS := Lib.hid (HS1.out Y2 G2.out k2 (decide (20 < d1)) hkl hd1)
      have HP2 := Lib.hid (fun (Y : World) (G : Gd w b w.heap.size Y) => HP.out Y G (k2 + 1) d1 (by omega) hlt)
      have HMn := Lib.hid (fun t k' bad' lim' (h : NdP L (k2 + 1) (g lv (L.drop (k2 + 1)) d1) t k' bad' lim') => HM.out.next hd1 hlt rfl hfl hres hf h)
      have hrd : rdN (sb Y2 b (rfO v k2 lv false (decide (20 < d1)))) b = k2 := rdN_rf hb2
      replace hrd := Lib.hid hrd
      have hPb : Hid (∀ g, (w.heap.size + 1 ≤ g ∧ row.ownBlock ≠ some g) → b < g) := fun g hp => by have := hp.1; omega
      have hbw1 : b < w.heap.size + 1 := by omega
      have hQ4 : Hid (∀ (Y3 : World), Y2.heap.size ≤ Y3.heap.size → ∀ (o : Obj) (g : Nat), (sb Y3 b o).heap.size ≤ g → (w.heap.size + 1 ≤ g ∧ row.ownBlock ≠ some g)) := fun Y3 h3 o g hg => by
        rw [size_sb] at hg
        have := G2.out.rl
        refine ⟨by omega, fun e => ?_⟩
        have := HO.out.blk g e
        rw [size_sb] at this
        omega
      have hB4 : Hid (∀ (Y3 Y4 : World) (o z : Obj), Y2.heap.size ≤ Y3.heap.size → Y3.heap.size ≤ Y4.heap.size → w.heap.size + 1 ≤ ((sb Y4 b o).alloc z).heap.size) := fun Y3 Y4 o z h3 h4 => by
        have := G2.out.rl
        simp
        omega
      clear hd1 hfl hres hf HM
      go_wp2_with (first | (go_at_call 139; refine HS.out.mono ?_; rintro e w3 ⟨rfl, hk3, ho3⟩; obtain ⟨Y3, rfl, G3, hs3, hold3⟩ := G2.out.next hk3 ho3; replace G3 := Lib.hid G3; replace hold3 := Lib.hid hold3) | (go_at_call 138; refine (HP2.out _ G3.out).mono ?_; rintro e w4 ⟨kd4, a4, n4, c4, sA4, sB4, op4, y4, kids4, k4, bad4, lim4, rfl, hk4, ho4, hn4, hp4⟩; obtain ⟨Y4, rfl, G4, hs4, hold4⟩ := G3.out.next hk4 ho4; replace G4 := Lib.hid G4; replace hold4 := Lib.hid hold4; replace hn4 := Lib.hid hn4; replace hp4 := Lib.hid hp4; have HO4 := Lib.hid ((HO.out.step (o' := rfO v (k2 + 1 : Nat) lv false (decide (20 < d1))) hs3 hold3.out hPb.out hbw1).step (o' := rfO v k4 lv bad4 lim4) hs4 hold4.out hPb.out hbw1); have HN4 := Lib.hid (hn4.out.mono (Q := fun g => w.heap.size + 1 ≤ g ∧ row.ownBlock ≠ some g) (Nat.le_refl _) (fun g hp hg => ⟨hQ4.out Y3 hs3 _ g hp, rfl⟩)); clear hk3 ho3 hk4 ho4) | (at_builtin; refine app_nodes (v := row) (u := .slice (some ⟨Y4.heap.size, 0, none⟩) 1 1) (ms := [.mk kd4 sA4 sB4 op4 y4 kids4]) rfl _ _ rfl (HO4.out.kp ((Kp.refl _).alloc _)) (hB4.out _ _ _ _ hs3 hs4) rfl rfl (one_nodes (HN4.out.kp ((Kp.refl _).alloc _)) (alloc_sb_new _ _ _ _)) (by simp) (by simp; omega) (fun g hp _ => hp.2) ?_; intro g5 cap5 W5 hg5 hat5 ho5))
      obtain ⟨Y5, rfl, G5, hs5⟩ := G4.out.grown hg5 (fun e => by have := HO.out.blk _ e; omega) (fun e => by have := HO.out.blk _ e; omega) (fun k e => by have := HO.out.blk k e; omega)
      have ho6 := own_grown ho5 hat5
      go_roundw
      case rel => exact ⟨k4, bad4, lim4, _, ts ++ [RT.mk kd4 sA4 sB4 op4 y4 kids4], Y5, rfl, rfl, G5, Lib.hid ho6, HMn.out _ _ _ _ hp4.out⟩
      case measure =>
        have := hp4.out.ge
        have := hp4.out.le
        rw [hrd.out, rdN_rf G5.hb]
        omega
    · have hstop : bad = true ∨ hd (L.drop k2) ≠ wOr := by
        cases bad with
        | true => exact .inl rfl
        | false => exact .inr fun e => hgo ⟨rfl, e⟩
      have HS := Lib.hid (HS2.out Y2 G2.out k2 bad lim hkl hstop)
      have hMl := Lib.hid (HM.out.last (.inl rfl) hstop)
      have hwt : ∀ t ∈ ts, t.kd = 1 → t.ks ≠ [] := fun t ht e h0 => by
        have := (HM.out.wt t ht).1 (.inl e)
        rw [h0] at this
        simp at this
      have hfl : (ts.flatMap (rKids 1)).length ≤ 150000 := by have := HM.out.fl; omega
      have hHO := HO.out
      have HJ := Lib.hid (fun (W : World) (h : OwnN (fun g => w.heap.size + 1 ≤ g ∧ row.ownBlock ≠ some g) (w.heap.size + 1) W row ts) (R : Ending → World → Prop) => joined_ret 1 _ ts row W (h.nodes HM.out.ne) HM.out.ne hwt hfl htl R)
      have hPb : Hid (∀ g, (w.heap.size + 1 ≤ g ∧ row.ownBlock ≠ some g) → b < g) := fun g hp => by have := hp.1; omega
      have hbw1 : b < w.heap.size + 1 := by omega
      clear hgo hstop HM hwt hfl
      cases bad with
      | true =>
        go_wp2_with (first | (go_at_call 111; refine HJ.out _ HO.out _ (Lib.hid ?_); intro vs w5 hk5 hn5; obtain ⟨kd5, a5, n5, c5, sA5, sB5, op5, y5, kids5, rfl, e5⟩ := hn5.slice; obtain ⟨Y5, rfl, G5, hs5, _⟩ := G2.out.next (.of_kp hk5) ((hk5.block _ (by have := G2.out.hb; simpa using this)).trans G2.out.is); obtain ⟨r0, r1, r2, r3, r4, r5, r6, r7, r8, r9, r10, r11, r12, r13⟩ := G5.cells; have rf := G5.fr; have rl := G5.rl; have hb5 := G5.hb; replace G5 := Lib.hid G5; replace hn5 := Lib.hid hn5; replace e5 := Lib.hid e5; clear hk5))
        have h9 := hMl.out
        rw [e5.out] at h9
        have hn6 := hn5.out
        rw [e5.out] at hn6
        rw [store14 G5.out.res]
        refine bodyPost_ret (v := .agg (nodeA kd5 (.slice a5 n5 c5) sA5 sB5 op5 y5)) (by simp [results, Tryz.results96, go_sem, rl]) rfl ?_
        refine nd_fin (lo := w.heap.size + 1) G5.out (Nat.lt_succ_self _) (hn6.mono (Nat.le_refl _) fun g hp hg => ⟨?_, rfl⟩) h9 rfl
        rcases hp with hp | hp
        · exact hp.1
        · have := G2.out.rl
          rw [size_sb] at hp
          omega
      | false =>
        go_wp2_with (first | (go_at_call 139; refine HS.out.mono ?_; rintro e w3 ⟨rfl, hk3⟩; obtain ⟨Y3, rfl, G3, hs3, hold3⟩ := G2.out.next (.of_kp hk3) ((hk3.block _ (by simpa using hb2)).trans G2.out.is); replace G3 := Lib.hid G3; have HO3 := Lib.hid (HO.out.step (o' := rfO v k2 lv false lim) hs3 hold3 hPb.out hbw1)) | (go_at_call 111; refine HJ.out _ HO3.out _ (Lib.hid ?_); intro vs w5 hk5 hn5; obtain ⟨kd5, a5, n5, c5, sA5, sB5, op5, y5, kids5, rfl, e5⟩ := hn5.slice; obtain ⟨Y5, rfl, G5, hs5, _⟩ := G3.out.next (.of_kp hk5) ((hk5.block _ (by have := G3.out.hb; simpa using this)).trans G3.out.is); obtain ⟨r0, r1, r2, r3, r4, r5, r6, r7, r8, r9, r10, r11, r12, r13⟩ := G5.cells; have rf := G5.fr; have rl := G5.rl; have hb5 := G5.hb; replace G5 := Lib.hid G5; replace hn5 := Lib.hid hn5; replace e5 := Lib.hid e5; clear hk5 hk3))
        have h9 := hMl.out
        rw [e5.out] at h9
        have hn6 := hn5.out
        rw [e5.out] at hn6
        rw [store14 G5.out.res]
        refine bodyPost_ret (v := .agg (nodeA kd5 (.slice a5 n5 c5) sA5 sB5 op5 y5)) (by simp [results, Tryz.results96, go_sem, rl]) rfl ?_
        refine nd_fin (lo := w.heap.size + 1) G5.out (Nat.lt_succ_self _) (hn6.mono (Nat.le_refl _) fun g hp hg => ⟨?_, rfl⟩) h9 rfl
        rcases hp with hp | hp
        · exact hp.1
        · have := G3.out.rl
          rw [size_sb] at hp
          omega
end Go.Proofs.YtpmheafccfnfjaaGreatDoor
namespace Go.Proofs.YtpmheafccfnfjaaGreatDoor
open Go Go.RowKit
def SdP (res : Option (Trm × List Bs)) (sd : Sd) (T : List Bs) (bad : Bool) : Prop := match res with
  | some (x, T') => bad = false ∧ sd = sdOf x ∧ T = T'
  | none => bad = true ∧ sd = zSide
theorem sv_sd (x : Trm) : sv x = sd5 (sdOf x).i (sdOf x).v (sdOf x).k (sdOf x).n (sdOf x).s := by cases x <;> rfl
section
variable {b : Nat} {w : World} {v : Value} {L : List Bs} {k : Nat} {d : Int} {bad lim : Bool}
theorem side_u (h : w.heap[b]? = some (rfO v k d bad lim)) (hv : WdsX b w v L) (hk : k ≤ L.length) (hw : ∀ x ∈ L, x.length ≤ 100000) :
    Calls Tryz.prog 80 #[.pointer (some ⟨b, 0, none⟩)] w fun e w' => ∃ (sd : Sd) (k' : Nat) (bad' : Bool), e = .returned (sd5 sd.i sd.v sd.k sd.n sd.s) ∧ Kb b w w' ∧ w'.heap[b]? = some (rfO v k' d bad' lim) ∧ k ≤ k' ∧ k' ≤ L.length ∧ SdP (if bad then none else pTerm (L.drop k)) sd (L.drop k') bad' := by
  refine (side_ret h hv hk hw).mono fun e w' hh => ?_
  cases hr : (if bad then none else pTerm (L.drop k)) with
  | none =>
    rw [hr] at hh
    obtain ⟨rfl, hk2, k', h1, h2, h3⟩ := hh
    exact ⟨zSide, k', true, rfl, hk2, h3, h1, h2, rfl, rfl⟩
  | some r =>
    obtain ⟨x, T'⟩ := r
    rw [hr] at hh
    obtain ⟨rfl, hk2, k', h1, h2, h3⟩ := hh
    refine ⟨sdOf x, k', false, by rw [sv_sd], hk2, h3, ?_, h1, rfl, rfl, h2⟩
    have hp : pTerm (L.drop k) = some (x, T') := by
      cases bad with
      | true => cases hr
      | false => exact hr
    have hl := pTerm_len hp
    rw [← h2, List.length_drop, List.length_drop] at hl
    omega
/-- skip, whatever is next. -/
theorem skip_u (t : ByteArray) (h : w.heap[b]? = some (rfO v k d bad lim)) (hv : WdsX b w v L) (hk : k ≤ L.length) (hne : t.data.toList ≠ []) :
    Calls Tryz.prog 139 #[.pointer (some ⟨b, 0, none⟩), .string t] w fun e w' => (e = .returned (.bool true) ∧ bad = false ∧ hd (L.drop k) = t.data.toList ∧ Kb b w w' ∧ w'.heap[b]? = some (rfO v (k + 1 : Nat) d false lim)) ∨ (e = .returned (.bool false) ∧ (bad = true ∨ hd (L.drop k) ≠ t.data.toList) ∧ Kb b w w' ∧ w'.heap[b]? = some (rfO v k d bad lim)) := by
  have hb : b < w.heap.size := (Array.getElem?_eq_some_iff.1 h).1
  by_cases hgo : bad = false ∧ hd (L.drop k) = t.data.toList
  · obtain ⟨rfl, h1⟩ := hgo
    refine (skip_yes t h hv hk h1 hne).mono fun e w' hh => .inl ?_
    obtain ⟨rfl, h2, h3⟩ := hh
    exact ⟨rfl, rfl, h1, h2, h3⟩
  · have hs : bad = true ∨ hd (L.drop k) ≠ t.data.toList := by
      cases bad with
      | true => exact .inl rfl
      | false => exact .inr fun e => hgo ⟨rfl, e⟩
    refine (skip_no t h hv hk hs).mono fun e w' hh => .inr ?_
    obtain ⟨rfl, h2⟩ := hh
    exact ⟨rfl, hs, .of_kp h2, (h2.block _ hb).trans h⟩
end
theorem nd_leaf {L : List Bs} {k k2 : Nat} {res : PRes} {kd : Int} {sA sB : Sd} {op : ByteArray} {y bad lim : Bool} (h1 : k ≤ k2) (h2 : k2 ≤ L.length) (hk : kd ≠ 1 ∧ kd ≠ 2) (hr : Rel res (.mk kd sA sB op y []) (L.drop k2) bad lim) : NdP L k res (.mk kd sA sB op y []) k2 bad lim :=
  ⟨h1, h2, Nat.zero_le _, fun h => by rcases h with h | h; exact absurd h hk.1; exact absurd h hk.2, hr⟩
theorem node_leaf (P : Nat → Prop) (W : World) (kd : Int) (sA sB : Sd) (op : ByteArray) (y : Bool) : NodeIs P W (nodeA kd (.slice none 0 0) sA sB op y) (.mk kd sA sB op y []) :=
  .mk kd sA sB op y [] _ (fun _ => #[]) (.inl ⟨rfl, rfl⟩) fun j hj => absurd hj (Nat.not_lt_zero _)
set_option maxHeartbeats 2000000 in
set_option maxRecDepth 100000 in
theorem rprim_true {b : Nat} {L : List Bs} {v : Value} {lv : Int} {k : Nat} {d : Int} {w : World} (h : w.heap[b]? = some (rfO v k lv false (decide (20 < d)))) (hv : WdsX b w v L) (hk : k < L.length) (hn : hd (L.drop k) = wTrue) :
    Calls Tryz.prog 194 #[.pointer (some ⟨b, 0, none⟩)] w (NdRes w b v L lv k (some (.truth true, L.drop (k + 1), d))) := by
  obtain ⟨Y, hY, G⟩ := Gd.start h
  have HS0 := Lib.hid (fun (Y : World) (G : Gd w b w.heap.size Y) => skip_no (w := sb Y b (rfO v k lv false (decide (20 < d)))) ⟨#[40]⟩ G.is (G.wds hv) (Nat.le_of_lt hk) (.inr (by rw [hn]; decide)))
  have HS1 := Lib.hid (fun (Y : World) (G : Gd w b w.heap.size Y) => skip_yes (w := sb Y b (rfO v k lv false (decide (20 < d)))) ⟨#[116, 114, 117, 101]⟩ G.is (G.wds hv) (Nat.le_of_lt hk) hn (by decide))
  replace hY := Lib.hid hY
  have ne := G.ne
  replace G := Lib.hid G
  have HE := Lib.hid (nd_leaf (k := k) (k2 := k + 1) (L := L) (res := some (.truth true, L.drop (k + 1), d)) (kd := 5) (sA := zSide) (sB := zSide) (op := ⟨#[]⟩) (y := true) (bad := false) (lim := decide (20 < d)) (by omega) (by omega) (by decide) ⟨rfl, rfl, rfl, rfl⟩)
  generalize decide (20 < d) = lim at *
  clear h hv hn
  go_enter Tryz.func194, Tryz.ntmps194
  go_wp2_with (go_at_call 139; first | (refine Calls_cast hY.out ?_; refine (HS0.out _ G.out).mono ?_; rintro e w1 ⟨rfl, hk1⟩; obtain ⟨Y1, rfl, G1, _⟩ := G.out.next (.of_kp hk1) ((hk1.block _ (by simpa using G.out.hb)).trans G.out.is); replace G1 := Lib.hid G1) | (refine (HS1.out _ G1.out).mono ?_; rintro e w2 ⟨rfl, hk2, ho2⟩; obtain ⟨Y2, rfl, G2, _⟩ := G1.out.next hk2 ho2; obtain ⟨r0, r1, r2, r3, r4, r5, r6, r7, r8, r9, r10, r11, r12, r13⟩ := G2.cells; have rf := G2.fr; have rl := G2.rl; replace G2 := Lib.hid G2; clear hk2 ho2))
  rw [store14 G2.out.res]
  refine bodyPost_ret (v := .agg (nodeA 5 (.slice none 0 0) zSide zSide ⟨#[]⟩ true)) (by simp [results, Tryz.results194, go_sem, rl, zSide]) rfl ?_
  exact nd_fin (lo := w.heap.size + 1) G2.out (Nat.lt_succ_self _) (node_leaf _ _ _ _ _ _ _) HE.out rfl
end Go.Proofs.YtpmheafccfnfjaaGreatDoor
namespace Go.Proofs.YtpmheafccfnfjaaGreatDoor
open Go Go.RowKit
set_option maxHeartbeats 2000000 in
set_option maxRecDepth 100000 in
theorem rprim_false {b : Nat} {L : List Bs} {v : Value} {lv : Int} {k : Nat} {d : Int} {w : World} (h : w.heap[b]? = some (rfO v k lv false (decide (20 < d)))) (hv : WdsX b w v L) (hk : k < L.length) (hn : hd (L.drop k) = wFalse) :
    Calls Tryz.prog 194 #[.pointer (some ⟨b, 0, none⟩)] w (NdRes w b v L lv k (some (.truth false, L.drop (k + 1), d))) := by
  obtain ⟨Y, hY, G⟩ := Gd.start h
  have HS0 := Lib.hid (fun (Y : World) (G : Gd w b w.heap.size Y) => skip_no (w := sb Y b (rfO v k lv false (decide (20 < d)))) ⟨#[40]⟩ G.is (G.wds hv) (Nat.le_of_lt hk) (.inr (by rw [hn]; decide)))
  have HSt := Lib.hid (fun (Y : World) (G : Gd w b w.heap.size Y) => skip_no (w := sb Y b (rfO v k lv false (decide (20 < d)))) ⟨#[116, 114, 117, 101]⟩ G.is (G.wds hv) (Nat.le_of_lt hk) (.inr (by rw [hn]; decide)))
  have HS1 := Lib.hid (fun (Y : World) (G : Gd w b w.heap.size Y) => skip_yes (w := sb Y b (rfO v k lv false (decide (20 < d)))) ⟨#[102, 97, 108, 115, 101]⟩ G.is (G.wds hv) (Nat.le_of_lt hk) hn (by decide))
  replace hY := Lib.hid hY
  have ne := G.ne
  replace G := Lib.hid G
  have HE := Lib.hid (nd_leaf (k := k) (k2 := k + 1) (L := L) (res := some (.truth false, L.drop (k + 1), d)) (kd := 5) (sA := zSide) (sB := zSide) (op := ⟨#[]⟩) (y := false) (bad := false) (lim := decide (20 < d)) (by omega) (by omega) (by decide) ⟨rfl, rfl, rfl, rfl⟩)
  generalize decide (20 < d) = lim at *
  clear h hv hn
  go_enter Tryz.func194, Tryz.ntmps194
  go_wp2_with (go_at_call 139; first | (refine (HS1.out _ G5.out).mono ?_; rintro e w2 ⟨rfl, hk2, ho2⟩; obtain ⟨Y2, rfl, G2, _⟩ := G5.out.next hk2 ho2; obtain ⟨r0, r1, r2, r3, r4, r5, r6, r7, r8, r9, r10, r11, r12, r13⟩ := G2.cells; have rf := G2.fr; have rl := G2.rl; replace G2 := Lib.hid G2; clear hk2 ho2) | (refine (HSt.out _ G1.out).mono ?_; rintro e w5 ⟨rfl, hk5⟩; obtain ⟨Y5, rfl, G5, _⟩ := G1.out.next (.of_kp hk5) ((hk5.block _ (by simpa using G1.out.hb)).trans G1.out.is); replace G5 := Lib.hid G5) | (refine Calls_cast hY.out ?_; refine (HS0.out _ G.out).mono ?_; rintro e w1 ⟨rfl, hk1⟩; obtain ⟨Y1, rfl, G1, _⟩ := G.out.next (.of_kp hk1) ((hk1.block _ (by simpa using G.out.hb)).trans G.out.is); replace G1 := Lib.hid G1))
  rw [store14 G2.out.res]
  refine bodyPost_ret (v := .agg (nodeA 5 (.slice none 0 0) zSide zSide ⟨#[]⟩ false)) (by simp [results, Tryz.results194, go_sem, rl, zSide]) rfl ?_
  exact nd_fin (lo := w.heap.size + 1) G2.out (Nat.lt_succ_self _) (node_leaf _ _ _ _ _ _ _) HE.out rfl
/-- What stands between parentheses. -/
def parR (r : PRes) : PRes := match r with
  | some (n, T', d') => if hd T' = [41] then some (n, T'.tail, d') else none
  | none => none
theorem nd_par {L : List Bs} {k k4 : Nat} {res : PRes} {t : RT} {bad lim : Bool} (h : NdP L (k + 1) res t k4 bad lim) :
    (bad = false ∧ hd (L.drop k4) = [41] → NdP L k (parR res) t (k4 + 1) false lim) ∧ (bad = true ∨ hd (L.drop k4) ≠ [41] → NdP L k (parR res) t k4 true lim) := by
  have hg := h.ge
  have hr := h.rel
  unfold Rel at hr
  refine ⟨fun ⟨h1, h2⟩ => ?_, fun h1 => ?_⟩
  · have hlt : k4 < L.length := by
      rcases Nat.lt_or_ge k4 L.length with h | h
      · exact h
      · rw [List.drop_eq_nil_of_le h] at h2; cases h2
    refine ⟨by omega, hlt, by have := h.wd; omega, h.wt, ?_⟩
    split at hr
    · obtain ⟨q1, q2, q3, q4⟩ := hr
      unfold parR
      simp only
      rw [← q3, if_pos h2, tail_drop]
      exact ⟨rfl, q2, rfl, q4⟩
    · rw [h1] at hr; cases hr
  · refine ⟨by omega, h.le, by have := h.wd; omega, h.wt, ?_⟩
    split at hr
    · obtain ⟨q1, q2, q3, q4⟩ := hr
      unfold parR
      simp only
      rw [← q3, if_neg (by rcases h1 with h1 | h1; rw [q1] at h1; cases h1; exact h1)]
      exact rfl
    · exact rfl
theorem NodeIs.sb {P : Nat → Prop} {b : Nat} {Y Y' : World} {o o' : Obj} {vs : Array Value} {t : RT} (h : NodeIs P (Go.Proofs.YtpmheafccfnfjaaGreatDoor.sb Y b o) vs t) (hP : ∀ g, P g → b < g) (hs : Y.heap.size ≤ Y'.heap.size) (hold : ∀ k, k < Y.heap.size → k ≠ b → Y'.heap[k]? = Y.heap[k]?) : NodeIs P (Go.Proofs.YtpmheafccfnfjaaGreatDoor.sb Y' b o') vs t :=
  h.mono (by simpa using hs) fun g hp hg => ⟨hp, by
    have := hP g hp
    rw [heap_sb_other _ _ _ (by omega), heap_sb_other _ _ _ (by omega), hold g (by simpa using hg) (by omega)]⟩
theorem cells14 {X : World} {g : Nat} {k : Int} {sl : Value} {a b : Sd} {op : ByteArray} {y : Bool} {T : TypeId} (h : X.heap[g]? = some (.cells (nodeA k sl a b op y) T (0, 0))) :
    X.cell? ⟨g, 0, none⟩ = some (Value.int .i64 k) ∧ X.cell? ⟨g, 1, none⟩ = some (sl) ∧ X.cell? ⟨g, 2, none⟩ = some (.string a.i) ∧ X.cell? ⟨g, 3, none⟩ = some (.string a.v) ∧ X.cell? ⟨g, 4, none⟩ = some (.int .i64 a.k) ∧ X.cell? ⟨g, 5, none⟩ = some (.int .i64 a.n) ∧ X.cell? ⟨g, 6, none⟩ = some (.string a.s) ∧ X.cell? ⟨g, 7, none⟩ = some (.string b.i) ∧ X.cell? ⟨g, 8, none⟩ = some (.string b.v) ∧ X.cell? ⟨g, 9, none⟩ = some (.int .i64 b.k) ∧ X.cell? ⟨g, 10, none⟩ = some (.int .i64 b.n) ∧ X.cell? ⟨g, 11, none⟩ = some (.string b.s) ∧ X.cell? ⟨g, 12, none⟩ = some (.string op) ∧ X.cell? ⟨g, 13, none⟩ = some (.bool y) := by
  refine ⟨?_, ?_, ?_, ?_, ?_, ?_, ?_, ?_, ?_, ?_, ?_, ?_, ?_, ?_⟩ <;> exact Lib.cell_of_heap h _
/-- A node laid in a new block beside the reader's. -/
theorem Gd.lay {w Y : World} {b r : Nat} {o : Obj} (G : Gd w b r Y) (vs : Array Value) (T : TypeId) : ∃ Z, (Go.Proofs.YtpmheafccfnfjaaGreatDoor.sb Y b o).alloc (.cells vs T) = Go.Proofs.YtpmheafccfnfjaaGreatDoor.sb Z b o ∧ Gd w b r Z ∧ Y.heap.size < Z.heap.size ∧ (∀ k, k < Y.heap.size → k ≠ b → Z.heap[k]? = Y.heap[k]?) ∧ Z.heap[Y.heap.size]? = some (.cells vs T (0, 0)) ∧ Y.heap.size ≠ b := by
  have hb := G.hb
  obtain ⟨Z, hZ, GZ, hs, hold⟩ := G.next (o := o) (o' := o) (X := (Go.Proofs.YtpmheafccfnfjaaGreatDoor.sb Y b o).alloc (.cells vs T)) ((Kb.refl _ _).alloc _) (by rw [Lib.alloc_old _ _ _ (by simpa using hb)]; exact G.is)
  have hne : Y.heap.size ≠ b := by omega
  refine ⟨Z, hZ, GZ, ?_, hold, ?_, hne⟩
  · have := congrArg (fun W : World => W.heap.size) hZ
    simp at this
    omega
  · have h1 := alloc_sb_new Y b o (.cells vs T)
    rw [hZ, heap_sb_other _ _ _ hne] at h1
    exact h1
set_option maxHeartbeats 4000000 in
set_option maxRecDepth 100000 in
theorem rprim_par {b : Nat} {L : List Bs} {v : Value} {g : Int → List Bs → Int → PRes} {K : Nat} (hp : DoesR 96 b L v g K) {lv : Int} {k : Nat} {d : Int} {w : World} (h : w.heap[b]? = some (rfO v k lv false (decide (20 < d)))) (hv : WdsX b w v L) (hk : k < L.length) (hK : (L.drop (k + 1)).length < K) (h0 : 0 ≤ lv) (h1 : lv ≤ 100000 - (L.drop k).length) (hn : hd (L.drop k) = [40]) :
    Calls Tryz.prog 194 #[.pointer (some ⟨b, 0, none⟩)] w (NdRes w b v L lv k (parR (g (lv + 1) (L.drop (k + 1)) (max d (lv + 1))))) := by
  obtain ⟨Y, hY, G⟩ := Gd.start h
  have hl : (L.drop (k + 1)).length + 1 = (L.drop k).length := by rw [List.length_drop, List.length_drop]; omega
  have e20 : (decide (20 < d) || decide (20 < lv + 1)) = decide (20 < max d (lv + 1)) := by
    rw [← Bool.decide_or]
    congr 1
    rw [eq_iff_iff]
    omega
  have HS := Lib.hid (fun (Y : World) (G : Gd w b w.heap.size Y) => skip_yes (w := sb Y b (rfO v k lv false (decide (20 < d)))) ⟨#[40]⟩ G.is (G.wds hv) (Nat.le_of_lt hk) hn (by decide))
  have HI := Lib.hid (fun (Y : World) (G : Gd w b w.heap.size Y) => in_ret (w := sb Y b (rfO v (k + 1 : Nat) lv false (decide (20 < d)))) (v := v) h0 (by omega) G.is)
  have HP := Lib.hid (fun (Y : World) (G : Gd w b w.heap.size Y) => hp (lv + 1) (k + 1) (max d (lv + 1)) (sb Y b (rfO v (k + 1 : Nat) (lv + 1) false (decide (20 < max d (lv + 1))))) G.is (G.wds hv) hk hK (by omega) (by omega))
  have HCy := Lib.hid (fun (Y : World) (G : Gd w b w.heap.size Y) (k4 : Nat) (lim : Bool) (hk4 : k4 ≤ L.length) (hn4 : hd (L.drop k4) = [41]) => skip_yes (w := sb Y b (rfO v k4 lv false lim)) ⟨#[41]⟩ G.is (G.wds hv) hk4 hn4 (by decide))
  have HCn := Lib.hid (fun (Y : World) (G : Gd w b w.heap.size Y) (k4 : Nat) (bad lim : Bool) (hk4 : k4 ≤ L.length) (hn4 : bad = true ∨ hd (L.drop k4) ≠ [41]) => skip_no (w := sb Y b (rfO v k4 lv bad lim)) ⟨#[41]⟩ G.is (G.wds hv) hk4 hn4)
  rw [e20] at HI
  replace hY := Lib.hid hY
  have hb1 := G.hb
  have ne := G.ne
  replace G := Lib.hid G
  have hlv : lv + 1 ≤ 200000 := by omega
  generalize g (lv + 1) (L.drop (k + 1)) (max d (lv + 1)) = res at *
  generalize decide (20 < d) = lim at *
  generalize decide (20 < max d (lv + 1)) = lim1 at *
  clear h hv hn hp e20
  go_enter Tryz.func194, Tryz.ntmps194
  go_wp2_with (first | (go_at_call 96; refine (HP.out _ G3.out).mono ?_; rintro e w2 ⟨kd, a2, n2, c2, sA, sB, op, y, kids, k2, bad2, lim2, rfl, hk2, ho2, hn2, hp2⟩; obtain ⟨Y2, rfl, G2, hs2, hold2⟩ := G3.out.next hk2 ho2; obtain ⟨Z, hZ, GZ, hsZ, holdZ, hcZ, hNb⟩ := G2.lay (o := rfO v k2 lv bad2 lim2) (nodeA kd (.slice a2 n2 c2) sA sB op y) 69; have hb2 := G2.hb; have hkl2 := hp2.le; replace hcZ := Lib.hid hcZ; replace holdZ := Lib.hid holdZ; replace GZ := Lib.hid GZ; replace hZ := Lib.hid hZ; replace G2 := Lib.hid G2; replace hn2 := Lib.hid hn2; replace hp2 := Lib.hid (nd_par hp2); clear hk2 ho2 hold2 hs2) | (go_at_call 195; refine (HI.out _ G1.out).mono ?_; rintro e w3 ⟨rfl, hk3, ho3⟩; obtain ⟨Y3, rfl, G3, _⟩ := G1.out.next hk3 ho3; replace G3 := Lib.hid G3; clear hk3 ho3) | (go_at_call 139; refine Calls_cast hY.out ?_; refine (HS.out _ G.out).mono ?_; rintro e w1 ⟨rfl, hk1, ho1⟩; obtain ⟨Y1, rfl, G1, _⟩ := G.out.next hk1 ho1; replace G1 := Lib.hid G1; clear hk1 ho1))
  have hn3 := hn2.out
  rw [size_sb] at hn3
  have hr3 := G3.out.rl
  have hb3 := G3.out.hb
  have hn4 : ∀ (Y4 : World) (o : Obj), Y2.heap.size ≤ Y4.heap.size → (∀ k, k < Y2.heap.size → k ≠ b → Y4.heap[k]? = Y2.heap[k]?) → NodeIs (fun g => Y3.heap.size ≤ g) (sb Y4 b o) (nodeA kd (.slice a2 n2 c2) sA sB op y) (.mk kd sA sB op y kids) := fun Y4 o h1 h2 => hn3.sb (fun g hg => Nat.lt_of_lt_of_le hb3 hg) h1 h2
  replace hn4 := Lib.hid hn4
  clear hn3 hn2
  by_cases hgo : bad2 = false ∧ hd (L.drop k2) = [41]
  · obtain ⟨rfl, h41⟩ := hgo
    have hp4 := Lib.hid (hp2.out.1 ⟨rfl, h41⟩)
    have HC := Lib.hid (HCy.out Z GZ.out k2 lim2 hkl2 h41)
    clear HCy HCn hp2 h41
    go_wp2_with (go_at_call 139; refine Calls_cast hZ.out ?_; refine HC.out.mono ?_; rintro e w4 ⟨rfl, hk4, ho4⟩; obtain ⟨Y4, rfl, G4, hs4, hold4⟩ := GZ.out.next hk4 ho4; have hc4 := (hold4 _ hsZ hNb).trans hcZ.out; have hn5 := Lib.hid (hn4.out Y4 (rfO v (k2 + 1 : Nat) lv false lim2) (Nat.le_trans (Nat.le_of_lt hsZ) hs4) (fun k h1 h2 => (hold4 k (Nat.lt_trans h1 hsZ) h2).trans (holdZ.out k h1 h2))); obtain ⟨m0, m1, m2, m3, m4, m5, m6, m7, m8, m9, m10, m11, m12, m13⟩ := cells14 hc4; obtain ⟨r0, r1, r2, r3, r4, r5, r6, r7, r8, r9, r10, r11, r12, r13⟩ := G4.cells; have rf := G4.fr; have rl := G4.rl; have nl : Y2.heap.size < Y4.heap.size := Nat.lt_of_lt_of_le hsZ hs4; have hb4 := G4.hb; replace G4 := Lib.hid G4; clear hk4 ho4 hold4 hc4)
    rw [store14 G4.out.res]
    refine bodyPost_ret (v := .agg (nodeA kd (.slice a2 n2 c2) sA sB op y)) (by simp [results, Tryz.results194, go_sem, rl]) rfl ?_
    exact nd_fin G4.out hr3 hn5.out hp4.out rfl
  · have hstop : bad2 = true ∨ hd (L.drop k2) ≠ [41] := by
      cases bad2 with
      | true => exact .inl rfl
      | false => exact .inr fun e => hgo ⟨rfl, e⟩
    have hp4 := Lib.hid (hp2.out.2 hstop)
    have HC := Lib.hid (HCn.out Z GZ.out k2 bad2 lim2 hkl2 hstop)
    clear HCy HCn hp2 hstop hgo
    go_wp2_with (go_at_call 139; refine Calls_cast hZ.out ?_; refine HC.out.mono ?_; rintro e w4 ⟨rfl, hk4⟩; obtain ⟨Y4, rfl, G4, hs4, hold4⟩ := GZ.out.next (.of_kp hk4) ((hk4.block _ (by have := GZ.out.hb; simpa using this)).trans GZ.out.is); have hc4 := (hold4 _ hsZ hNb).trans hcZ.out; have hn5 := Lib.hid (hn4.out Y4 (rfO v k2 lv true lim2) (Nat.le_trans (Nat.le_of_lt hsZ) hs4) (fun k h1 h2 => (hold4 k (Nat.lt_trans h1 hsZ) h2).trans (holdZ.out k h1 h2))); obtain ⟨m0, m1, m2, m3, m4, m5, m6, m7, m8, m9, m10, m11, m12, m13⟩ := cells14 hc4; obtain ⟨r0, r1, r2, r3, r4, r5, r6, r7, r8, r9, r10, r11, r12, r13⟩ := G4.cells; have rf := G4.fr; have rl := G4.rl; have nl : Y2.heap.size < Y4.heap.size := Nat.lt_of_lt_of_le hsZ hs4; have hb4 := G4.hb; replace G4 := Lib.hid G4; clear hk4 hold4 hc4)
    rw [store14 G4.out.res]
    refine bodyPost_ret (v := .agg (nodeA kd (.slice a2 n2 c2) sA sB op y)) (by simp [results, Tryz.results194, go_sem, rl]) rfl ?_
    exact nd_fin G4.out hr3 hn5.out hp4.out rfl
end Go.Proofs.YtpmheafccfnfjaaGreatDoor
