/- cond's reader: prim at a parenthesis. Decimal numerals and texts between quotes: what is canonical, and who reads it. Lists alone. Values as words: the program's way and the reference's agree. Lists alone. Conditions' words: writing a flat condition as words and reading these back. Lists alone. Conditions' texts: the words of the text of a condition. Lists alone. Conditions laid flat: sides of one word group from the left. Lists alone. The reference's words and the program's. Lists alone. Nodes as values: what kind one is, its level; a term's text. plain and show: a condition's text. -/
import Derived.Lib.AtoiAll
import Derived.Lib.ItoaNum
import Derived.Test.YtpmheafccfnfjaaGreatDoorPart04
set_option linter.unusedSimpArgs false
set_option linter.unusedVariables false
namespace Go.Proofs.YtpmheafccfnfjaaGreatDoor
open Go Go.RowKit
set_option maxHeartbeats 1000000 in
set_option maxRecDepth 100000 in
theorem prim_par (b : Nat) (s : ByteArray) (hb8 : 8 ≤ b) (hs : s.size ≤ 1000) (g : Int → List Bs → Int → PRes) (k : Nat) (hp : Does 136 b s g k) (lv : Int) (T : List Bs) (n : Nat) (d : Int) (w : World) (h : w.heap[b]? = some (rdO s n d)) (hn : n ≤ s.size) (hT : toks (sfx s n) = T) (hg : Glob w) (hk : T.length < k + 1) (h0 : 0 ≤ lv) (h1 : lv ≤ 100000 - T.length) (h2 : 0 ≤ d) (h3 : d ≤ 1000000) (hpar : hd T = [40]) (hat : atE rdsL (st (hd T)) = some 228) (R : Ending → World → Prop) (HR : Hid (∀ e w', NodeOK w b s (pPar g lv T.tail d) e w' → R e w')) :
    Calls Tryz.prog 207 #[.pointer (some ⟨b, 0, none⟩), .int .i64 lv] w R := by
  have hb : b < w.heap.size := (Array.getElem?_eq_some_iff.1 h).1
  have hl : T.tail.length + 1 = T.length := by
    cases T with
    | nil => simp [hd] at hpar
    | cons a u => simp
  obtain ⟨m, HW, hm1, hm2, hm3, hm4⟩ := word_hd h hn hs hT
  have HL := Lib.hid (fun (W : World) (r : Nat) (hr : W.heap[r]? = some (Obj.map (rdsE 3) 3)) => by have := look_rds W r hr (st (hd T)); rw [hat] at this; exact this)
  have HP := Lib.hid (fun y R HR => rd3_walk b s hb8 hs g k hp lv T.tail (m + (st (hd T)).size) d _ (sb_is (w := w) (x := y) (b := b) (o := rdO s (m + (st (hd T)).size : Nat) d) hb) hm1 hm2 ((hg.xt y).sb hb8 _) (by omega) h0 (by omega) h2 h3 R HR)
  replace HW := Lib.hid HW
  clear h hT hat hm4 hm2 hp hg hpar
  generalize st (hd T) = q at *
  cases hr : pPar g lv T.tail d with
  | none =>
    rw [hr] at HR
    have HB : Hid (∀ w', Kb b w w' → R (.panicked [{ v := wrongC, recovered := false }]) w') := fun w' hk => HR.out _ _ ⟨rfl, hk⟩
    have HP2 : Hid (∀ y, Calls Tryz.prog 228 #[.pointer (some ⟨b, 0, none⟩), .int .i64 lv] (sb (xt w y) b (rdO s (m + q.size : Nat) d)) (PanB (sb (xt w y) b (rdO s (m + q.size : Nat) d)) b wrongC)) := fun y => HP.out y _ (Lib.hid fun e w' hh => by rw [hr] at hh; exact hh)
    clear hr HP
    go_enter Tryz.func207, Tryz.ntmps207
    go_wp2_with (first | (go_at_call 119; refine Calls_retB HW.out hb ?_; intro y1) | (go_at_call 218; refine (readers_ret _).mono ?_; rintro e w' ⟨r, rfl, hk, hr, hm⟩; obtain ⟨y2, rfl, _⟩ := sb_kp (F := fun _ => True) (fun _ _ => trivial) hb trivial hk; have hlk := HL.out _ r hm; clear hk hr hm) | (go_at_call 228; refine Calls_panBS (HP2.out _) ?_; intro w3 hk3))
    exact ⟨rfl, HB.out _ hk3⟩
  | some r =>
    obtain ⟨m0, T', d'⟩ := r
    rw [hr] at HR
    have HP2 : Hid (∀ y, Calls Tryz.prog 228 #[.pointer (some ⟨b, 0, none⟩), .int .i64 lv] (sb (xt w y) b (rdO s (m + q.size : Nat) d)) (RetT (sb (xt w y) b (rdO s (m + q.size : Nat) d)) b s T' d' (nv m0))) := fun y => HP.out y _ (Lib.hid fun e w' hh => by rw [hr] at hh; exact hh)
    have HB : Hid (∀ e w', RetT w b s T' d' (nv m0) e w' → R e w') := fun e w' hh => HR.out e w' hh
    obtain ⟨ty, v, hv⟩ := nv_iface m0
    rw [hv] at HP2 HB
    clear hr HP HR hv
    go_enter Tryz.func207, Tryz.ntmps207
    go_wp2_with (first | (go_at_call 119; refine Calls_retB HW.out hb ?_; intro y1) | (go_at_call 218; refine (readers_ret _).mono ?_; rintro e w' ⟨r, rfl, hk, hr, hm⟩; obtain ⟨y2, rfl, _⟩ := sb_kp (F := fun _ => True) (fun _ _ => trivial) hb trivial hk; have hlk := HL.out _ r hm; clear hk hr hm) | (go_at_call 228; refine Calls_retT hb (HP2.out _) ?_; intro y3 n3 hn3 ht3))
    exact HB.out _ _ (retT_1 hb rfl hn3 ht3 rfl)
end Go.Proofs.YtpmheafccfnfjaaGreatDoor
namespace Go.Proofs.YtpmheafccfnfjaaGreatDoor
open Go Go.RowKit
abbrev dgB (c : UInt8) : Bool := digitZ (c.toNat : Int)
theorem dgB_nat {c : UInt8} : dgB c = true ↔ 48 ≤ c.toNat ∧ c.toNat ≤ 57 := by
  simp only [dgB, digitZ, decide_eq_true_eq]
  omega
def dv (c : UInt8) : Nat := c.toNat - 48
def valA (acc : Nat) (l : Bs) : Nat := l.foldl (fun a c => a * 10 + dv c) acc
def val (l : Bs) : Nat := valA 0 l
theorem val_snoc (l : Bs) (c : UInt8) : val (l ++ [c]) = val l * 10 + dv c := by simp [val, valA]
theorem valA_eq (acc : Nat) : ∀ l : Bs, valA acc l = acc * 10 ^ l.length + val l := by
  intro l
  induction l generalizing acc with
  | nil => simp [valA, val]
  | cons c t ih =>
    have h1 : valA acc (c :: t) = valA (acc * 10 + dv c) t := rfl
    have h2 : val (c :: t) = valA (0 * 10 + dv c) t := rfl
    rw [h1, h2, ih, ih (0 * 10 + dv c), List.length_cons, Nat.pow_succ]
    simp only [Nat.zero_mul, Nat.zero_add, Nat.add_mul]
    rw [Nat.mul_assoc, Nat.mul_comm 10, Nat.add_assoc]
theorem val_lt : ∀ l : Bs, l.all dgB = true → val l < 10 ^ l.length := by
  intro l h
  induction l with
  | nil => simp [val, valA]
  | cons c t ih =>
    simp only [List.all_cons, Bool.and_eq_true] at h
    have := ih h.2
    have e : val (c :: t) = valA (dv c) t := by simp [val, valA]
    rw [e, valA_eq, List.length_cons, Nat.pow_succ]
    have hd : dv c ≤ 9 := by have := dgB_nat.1 h.1; unfold dv; omega
    have : dv c * 10 ^ t.length ≤ 9 * 10 ^ t.length := Nat.mul_le_mul_right _ hd
    omega
/-- Digits, not none, and no zero ahead of another. -/
def canon (l : Bs) : Bool := l.all dgB && (match l with | [] => false | [_] => true | c :: _ => c != 48)
theorem canon_iff {l : Bs} : canon l = true ↔ l.all dgB = true ∧ l ≠ [] ∧ (1 < l.length → l.head? ≠ some 48) := by
  unfold canon
  rw [Bool.and_eq_true]
  cases l with
  | nil => simp
  | cons c t => cases t <;> simp
theorem dec_digit {u : Nat} (h : u < 10) : dgB (UInt8.ofNat (48 + u)) = true ∧ dv (UInt8.ofNat (48 + u)) = u := by
  have e : (UInt8.ofNat (48 + u)).toNat = 48 + u := by
    rw [UInt8.toNat_ofNat']
    omega
  refine ⟨dgB_nat.2 (by rw [e]; omega), by unfold dv; rw [e]; omega⟩
theorem dec_spec (u : Nat) : canon (Lib.decDigits u) = true ∧ val (Lib.decDigits u) = u ∧ (u ≠ 0 → (Lib.decDigits u).head? ≠ some 48) := by
  induction u using Nat.strongRecOn with
  | _ u ih =>
    rw [Lib.decDigits]
    split
    · rename_i h
      have hd := dec_digit h
      generalize UInt8.ofNat (48 + u) = z at *
      refine ⟨by simp [canon, hd.1], by simp [val, valA, hd.2], fun hu e => ?_⟩
      simp only [List.head?_cons, Option.some.injEq] at e
      have h48 : dv (48 : UInt8) = 0 := rfl
      rw [e, h48] at hd
      omega
    · rename_i h
      have hd := dec_digit (u := u % 10) (by omega)
      obtain ⟨h1, h2, h3⟩ := ih (u / 10) (by omega)
      obtain ⟨h4, h5, h6⟩ := canon_iff.1 h1
      have h7 := h3 (by omega)
      generalize UInt8.ofNat (48 + u % 10) = z at *
      have hh : (Lib.decDigits (u / 10) ++ [z]).head? = (Lib.decDigits (u / 10)).head? := by
        cases hq : Lib.decDigits (u / 10) with
        | nil => exact absurd hq h5
        | cons => rfl
      refine ⟨canon_iff.2 ⟨by simp [h4, hd.1], by simp, fun _ => by rw [hh]; exact h7⟩, by rw [val_snoc, h2, hd.2]; omega, fun _ => by rw [hh]; exact h7⟩
theorem val_pos {l : Bs} (h : l.all dgB = true) (hn : l ≠ []) (h0 : l.head? ≠ some 48) : 1 ≤ val l := by
  obtain ⟨c, t, rfl⟩ := List.exists_cons_of_ne_nil hn
  have e : val (c :: t) = valA (dv c) t := by simp [val, valA]
  simp only [List.all_cons, Bool.and_eq_true] at h
  have hc := dgB_nat.1 h.1
  have : c.toNat ≠ 48 := fun e => h0 (by simp; exact UInt8.toNat_inj.1 e)
  have hd : 1 ≤ dv c := by unfold dv; omega
  rw [e, valA_eq]
  have : 1 * 1 ≤ dv c * 10 ^ t.length := Nat.mul_le_mul hd (Nat.one_le_pow _ _ (by decide))
  omega
theorem dec_val (n : Nat) : ∀ {l : Bs}, l.length ≤ n → canon l = true → Lib.decDigits (val l) = l := by
  induction n with
  | zero =>
    intro l hl h
    have : l = [] := List.eq_nil_of_length_eq_zero (by omega)
    exact absurd this (canon_iff.1 h).2.1
  | succ n ih =>
    intro l hl h
    obtain ⟨h1, h2, h3⟩ := canon_iff.1 h
    rcases List.eq_nil_or_concat l with rfl | ⟨m, c, rfl⟩
    · exact absurd rfl h2
    · rw [List.concat_eq_append] at *
      rw [List.all_append, Bool.and_eq_true] at h1
      have hc : dgB c = true := by simpa using h1.2
      have hcn := dgB_nat.1 hc
      have hcc : UInt8.ofNat (48 + dv c) = c := by
        have : 48 + dv c = c.toNat := by unfold dv; omega
        rw [this, UInt8.ofNat_toNat]
      have hd : dv c ≤ 9 := by unfold dv; omega
      rw [val_snoc]
      by_cases hm : m = []
      · subst hm
        have : val [] = 0 := rfl
        rw [this, Lib.decDigits, dif_pos (by omega)]
        simp [hcc]
      · have hml : 1 ≤ m.length := List.length_pos_iff.2 hm
        have hh : m.head? ≠ some 48 := by
          have := h3 (by simp; omega)
          cases m with
          | nil => exact absurd rfl hm
          | cons a b => simpa using this
        have hv := val_pos h1.1 hm hh
        have := ih (l := m) (by simp at hl; omega) (canon_iff.2 ⟨h1.1, hm, fun _ => hh⟩)
        rw [Lib.decDigits, dif_neg (by omega)]
        have e1 : (val m * 10 + dv c) / 10 = val m := by omega
        have e2 : (val m * 10 + dv c) % 10 = dv c := by omega
        rw [e1, e2, this, hcc]
theorem parse10 : ∀ (l : Bs) (acc : Nat), l.all dgB = true → valA acc l < 1844674407370955162 → Lib.parseUint10 acc l = .ok (valA acc l)
  | [], acc, _, _ => rfl
  | c :: t, acc, h, hv => by
    simp only [List.all_cons, Bool.and_eq_true] at h
    have hc := dgB_nat.1 h.1
    have e : valA acc (c :: t) = valA (acc * 10 + dv c) t := rfl
    rw [e] at hv ⊢
    have h2 : acc * 10 + dv c ≤ valA (acc * 10 + dv c) t := by
      rw [valA_eq]
      have : (acc * 10 + dv c) * 1 ≤ (acc * 10 + dv c) * 10 ^ t.length := Nat.mul_le_mul_left _ (Nat.one_le_pow _ _ (by decide))
      omega
    have hd : dv c = c.toNat - 48 := rfl
    rw [Lib.parseUint10, if_pos hc, if_neg (by omega), if_neg (by omega), ← hd]
    exact parse10 t _ h.2 hv
theorem parse_dec (u : Nat) (h : u < 1844674407370955162) : Lib.parseMag (Lib.decDigits u) = .ok u := by
  obtain ⟨h1, h2, h3⟩ := dec_spec u
  obtain ⟨h4, h5, h6⟩ := canon_iff.1 h1
  rw [Lib.parseMag, if_neg h5, parse10 _ _ h4 (by rw [show valA 0 _ = val _ from rfl, h2]; exact h)]
  rw [show valA 0 _ = val _ from rfl, h2]
/-- Reading what Itoa writes. -/
theorem atoi_itoa (n : Int) (h0 : -1000000000000000000 ≤ n) (h1 : n ≤ 1000000000000000000) : Lib.atoiAll (Lib.itoa n) = .ok n := by
  unfold Lib.itoa
  obtain ⟨h2, h3, h4⟩ := dec_spec n.toNat
  split
  · rename_i hn
    simp only [Lib.atoiAll]
    rw [show (45 : UInt8).toNat = 45 from rfl]
    simp only [or_true, if_true]
    rw [parse_dec _ (by omega)]
    simp only
    rw [if_neg (by simp), if_neg (by omega)]
    congr 1
    omega
  · rename_i hn
    obtain ⟨h5, h6, h7⟩ := canon_iff.1 h2
    have hp := parse_dec n.toNat (by omega)
    cases hd : Lib.decDigits n.toNat with
    | nil => exact absurd hd h6
    | cons c t =>
      rw [hd] at h5 hp
      simp only [List.all_cons, Bool.and_eq_true] at h5
      have hc := dgB_nat.1 h5.1
      simp only [Lib.atoiAll]
      have e1 : ¬ (c.toNat = 43 ∨ c.toNat = 45) := by omega
      have e2 : ¬ c.toNat = 45 := by omega
      rw [if_neg e1, hp]
      simp only [e2, if_false, not_false_eq_true, true_and, false_and]
      rw [if_neg (by omega)]
      congr 1
      omega
/-- ref01.Number: the number at the head of a text, and its length; 0, 0 if there is none. -/
def rNumD (m : Bool) (d : Bs) : Int × Nat :=
  if d.length = 0 ∨ (1 < d.length ∧ d.head? = some 48) ∨ (m = true ∧ val d = 0) ∨ 17 ≤ d.length then (0, 0)
  else (if m then -(val d : Int) else val d, if m then d.length + 1 else d.length)
def rNum (r : Bs) : Int × Nat := rNumD (r.head? == some 45) (((if (r.head? == some 45) = true then r.tail else r).takeWhile dgB).take 17)
theorem rNum_itoa {n : Int} (h0 : -1000000000 ≤ n) (h1 : n ≤ 1000000000) : rNum (Lib.itoa n) = (n, (Lib.itoa n).length) := by
  have key : ∀ u : Nat, u ≤ 1000000000 → (Lib.decDigits u).length ≤ 11 := fun u hu => by
    obtain ⟨h2, h3, h4⟩ := dec_spec u
    obtain ⟨h5, h6, h7⟩ := canon_iff.1 h2
    by_cases hl : (Lib.decDigits u).length ≤ 11
    · exact hl
    · exfalso
      obtain ⟨c, t, hct⟩ := List.exists_cons_of_ne_nil h6
      rw [hct] at h5 h3 h7 hl
      simp only [List.all_cons, Bool.and_eq_true] at h5
      have hc := dgB_nat.1 h5.1
      have hh := h7 (by omega)
      have : c.toNat ≠ 48 := fun e => hh (by simp; exact UInt8.toNat_inj.1 e)
      have e : val (c :: t) = valA (dv c) t := by simp [val, valA]
      rw [e, valA_eq] at h3
      have hd : 1 ≤ dv c := by unfold dv; omega
      have h9 : 10 ^ 11 ≤ 10 ^ t.length := Nat.pow_le_pow_right (by decide) (by simp at hl; omega)
      have : 1 * 10 ^ t.length ≤ dv c * 10 ^ t.length := Nat.mul_le_mul_right _ hd
      omega
  have tw : ∀ {l : Bs}, l.all dgB = true → l.takeWhile dgB = l := fun {l} h => by
    induction l with
    | nil => rfl
    | cons c t ih =>
      simp only [List.all_cons, Bool.and_eq_true] at h
      simp [h.1, ih h.2]
  unfold Lib.itoa
  split
  · rename_i hn
    obtain ⟨h2, h3, h4⟩ := dec_spec n.natAbs
    obtain ⟨h5, h6, h7⟩ := canon_iff.1 h2
    have hk := key n.natAbs (by omega)
    have h8 := h4 (by omega)
    have hl : 1 ≤ (Lib.decDigits n.natAbs).length := List.length_pos_iff.2 h6
    simp only [rNum, rNumD, List.head?_cons, beq_self_eq_true, if_true, List.tail_cons, tw h5]
    rw [List.take_of_length_le (by omega), if_neg (by
      simp only [not_or, not_and]
      exact ⟨by omega, fun _ => h8, fun _ => by omega, by omega⟩), h3]
    simp
    omega
  · rename_i hn
    obtain ⟨h2, h3, h4⟩ := dec_spec n.toNat
    obtain ⟨h5, h6, h7⟩ := canon_iff.1 h2
    have hk := key n.toNat (by omega)
    have hl : 1 ≤ (Lib.decDigits n.toNat).length := List.length_pos_iff.2 h6
    have hm : ((Lib.decDigits n.toNat).head? == some 45) = false := by
      cases hd : Lib.decDigits n.toNat with
      | nil => exact absurd hd h6
      | cons c t =>
        rw [hd] at h5
        simp only [List.all_cons, Bool.and_eq_true] at h5
        have hc := dgB_nat.1 h5.1
        simp only [List.head?_cons, beq_eq_false_iff_ne, ne_eq, Option.some.injEq]
        rintro rfl
        revert hc
        decide
    simp only [rNum, rNumD, hm, Bool.false_eq_true, if_false, tw h5]
    rw [List.take_of_length_le (by omega), if_neg (by
      simp only [not_or, not_and]
      refine ⟨by omega, fun h => h7 h, fun h => by simp at h, by omega⟩), h3]
    simp
    omega
theorem rNum_whole {r : Bs} {n : Int} (h : rNum r = (n, r.length)) (h0 : r ≠ []) : r = Lib.itoa n ∧ canon (if r.head? = some 45 then r.tail else r) = true := by
  have hl : 1 ≤ r.length := List.length_pos_iff.2 h0
  have hall : ∀ q : Bs, ((q.takeWhile dgB).take 17).length = q.length → (q.takeWhile dgB).take 17 = q ∧ q.all dgB = true := fun q hq => by
    have hs : ((q.takeWhile dgB).take 17).Sublist q := (List.take_sublist _ _).trans (List.takeWhile_sublist _)
    have e := hs.eq_of_length hq
    refine ⟨e, List.all_eq_true.2 fun x hx => ?_⟩
    rw [← e] at hx
    exact List.all_eq_true.1 (List.all_takeWhile (p := dgB) (l := q)) x (List.mem_of_mem_take hx)
  unfold rNum at h
  by_cases hm : r.head? = some 45
  · obtain ⟨c, t, rfl⟩ := List.exists_cons_of_ne_nil h0
    simp only [List.head?_cons, Option.some.injEq] at hm
    subst hm
    simp only [List.head?_cons, beq_self_eq_true, if_true, List.tail_cons, List.length_cons] at h ⊢
    unfold rNumD at h
    split at h
    · have := congrArg Prod.snd h
      simp only at this
      omega
    · rename_i hc
      simp only [not_or, not_and, Nat.not_le] at hc
      obtain ⟨hc1, hc2, hc3, hc4⟩ := hc
      simp only [if_true, Prod.mk.injEq, Nat.add_right_cancel_iff] at h
      obtain ⟨e, ha⟩ := hall t h.2
      rw [e] at h hc1 hc2 hc3 hc4
      have hcan : canon t = true := canon_iff.2 ⟨ha, by intro e; subst e; simp at hc1, fun hl => hc2 hl⟩
      refine ⟨?_, hcan⟩
      have hv : 1 ≤ val t := by have := hc3 trivial; omega
      rw [← h.1, Lib.itoa, if_pos (by omega)]
      have : (-(val t : Int)).natAbs = val t := by omega
      rw [this, dec_val _ (Nat.le_refl _) hcan]
  · have hm' : (r.head? == some 45) = false := by simpa using hm
    simp only [hm', Bool.false_eq_true, if_false] at h
    unfold rNumD at h
    split at h
    · have := congrArg Prod.snd h
      simp only at this
      omega
    · rename_i hc
      simp only [not_or, not_and, Nat.not_le] at hc
      obtain ⟨hc1, hc2, hc3, hc4⟩ := hc
      simp only [Bool.false_eq_true, if_false, Prod.mk.injEq] at h
      obtain ⟨e, ha⟩ := hall r h.2
      rw [e] at h hc1 hc2 hc3 hc4
      have hcan : canon r = true := canon_iff.2 ⟨ha, h0, fun hl => hc2 hl⟩
      rw [if_neg hm]
      refine ⟨?_, hcan⟩
      rw [← h.1, Lib.itoa, if_neg (by omega)]
      have : (val r : Int).toNat = val r := by omega
      rw [this, dec_val _ (Nat.le_refl _) hcan]
/-- ref01.nibble. -/
def nib (c : UInt8) : Int := if 48 ≤ c ∧ c ≤ 57 then (c.toNat : Int) - 48 else if 97 ≤ c ∧ c ≤ 102 then (c.toNat : Int) - 97 + 10 else -1
/-- ref01.Quote behind the opening quote: the text, and what stands behind the closing one. -/
def rQ : Bs → Option (Bs × Bs)
  | [] => none
  | c :: t => if c = 34 then some ([], t) else if c < 32 ∨ 126 < c then none else if c ≠ 92 then (rQ t).map (fun r => (c :: r.1, r.2)) else
      (match t with
        | [] => none
        | d :: t1 => if d = 34 ∨ d = 92 then (rQ t1).map (fun r => (d :: r.1, r.2)) else
          (match t1 with
            | a :: b :: t2 => if d = 120 ∧ 0 ≤ nib a ∧ 0 ≤ nib b then
                (if 32 ≤ 16 * nib a + nib b ∧ 16 * nib a + nib b ≤ 126 then none else (rQ t2).map (fun r => (UInt8.ofNat (16 * nib a + nib b).toNat :: r.1, r.2))) else none
            | _ => none))
theorem rQ_c (c : UInt8) (t : Bs) : rQ (c :: t) = if c = 34 then some ([], t) else if c < 32 ∨ 126 < c then none else if c ≠ 92 then (rQ t).map (fun r => (c :: r.1, r.2)) else
      (match t with
        | [] => none
        | d :: t1 => if d = 34 ∨ d = 92 then (rQ t1).map (fun r => (d :: r.1, r.2)) else
          (match t1 with
            | a :: b :: t2 => if d = 120 ∧ 0 ≤ nib a ∧ 0 ≤ nib b then
                (if 32 ≤ 16 * nib a + nib b ∧ 16 * nib a + nib b ≤ 126 then none else (rQ t2).map (fun r => (UInt8.ofNat (16 * nib a + nib b).toNat :: r.1, r.2))) else none
            | _ => none)) := by
  rw [rQ.eq_def]
  rfl
theorem nib_hex : ∀ c : _root_.Fin 256, 0 ≤ nib (hexB (UInt8.ofNat c.val / 16)) ∧ 0 ≤ nib (hexB (UInt8.ofNat c.val % 16)) ∧ 16 * nib (hexB (UInt8.ofNat c.val / 16)) + nib (hexB (UInt8.ofNat c.val % 16)) = c.val := by decide +kernel
theorem hex_nib : ∀ a : _root_.Fin 256, 0 ≤ nib (UInt8.ofNat a.val) → nib (UInt8.ofNat a.val) < 16 ∧ hexB (UInt8.ofNat (nib (UInt8.ofNat a.val)).toNat) = UInt8.ofNat a.val := by decide +kernel
theorem hex_nib' (a : UInt8) (h : 0 ≤ nib a) : nib a < 16 ∧ hexB (UInt8.ofNat (nib a).toNat) = a := by
  have := hex_nib ⟨a.toNat, UInt8.toNat_lt a⟩
  simp only [UInt8.ofNat_toNat] at this
  exact this h
theorem rQ_escB (c : UInt8) (r : Bs) : rQ (escB c ++ r) = (rQ r).map (fun q => (c :: q.1, q.2)) := by
  unfold escB
  split
  · rename_i h
    have h' : c = 34 ∨ c = 92 := h
    rw [show [92, c] ++ r = 92 :: c :: r from rfl, rQ_c, if_neg (by decide), if_neg (by decide), if_neg (by decide)]
    simp only [h', if_true]
  · rename_i h
    simp only [not_or] at h
    split
    · rename_i h2
      have hx := nib_hex ⟨c.toNat, UInt8.toNat_lt c⟩
      simp only [UInt8.ofNat_toNat] at hx
      obtain ⟨x1, x2, x3⟩ := hx
      rw [show [92, 120, hexB (c / 16), hexB (c % 16)] ++ r = 92 :: 120 :: hexB (c / 16) :: hexB (c % 16) :: r from rfl, rQ_c, if_neg (by decide), if_neg (by decide), if_neg (by decide)]
      simp only
      rw [if_neg (by decide), if_pos ⟨trivial, x1, x2⟩, x3, if_neg (by
        rcases h2 with h2 | h2
        · have : c.toNat < 32 := by simpa [UInt8.lt_iff_toNat_lt] using h2
          omega
        · have : 126 < c.toNat := by simpa [UInt8.lt_iff_toNat_lt] using h2
          omega)]
      simp
    · rename_i h2
      rw [show [c] ++ r = c :: r from rfl, rQ_c, if_neg h.1, if_neg h2, if_pos h.2]
theorem rQ_escL (l r : Bs) : rQ (escL l ++ 34 :: r) = some (l, r) := by
  induction l with
  | nil => rw [show escL [] ++ 34 :: r = 34 :: r from rfl, rQ_c, if_pos rfl]
  | cons c t ih =>
    have e : escL (c :: t) = escB c ++ escL t := rfl
    rw [e, List.append_assoc, rQ_escB, ih]
    rfl
theorem rQ_some (n : Nat) : ∀ {r l rest : Bs}, r.length ≤ n → rQ r = some (l, rest) → r = escL l ++ 34 :: rest := by
  induction n with
  | zero =>
    intro r l rest hr h
    have : r = [] := List.eq_nil_of_length_eq_zero (by omega)
    subst this
    cases h
  | succ n ih =>
    intro r l rest hr h
    have mp : ∀ {c : UInt8} {t : Bs}, t.length ≤ n → (rQ t).map (fun r => (c :: r.1, r.2)) = some (l, rest) → ∃ l', l = c :: l' ∧ t = escL l' ++ 34 :: rest := by
      intro c t ht hm
      cases hq : rQ t with
      | none => rw [hq] at hm; cases hm
      | some q =>
        obtain ⟨l', r'⟩ := q
        rw [hq] at hm
        simp only [Option.map_some, Option.some.injEq, Prod.mk.injEq] at hm
        obtain ⟨h1, h2⟩ := hm
        subst h2
        exact ⟨l', h1.symm, ih ht hq⟩
    cases r with
    | nil => cases h
    | cons c t =>
      simp only [List.length_cons] at hr
      rw [rQ_c] at h
      split at h
      · rename_i h34
        simp only [Option.some.injEq, Prod.mk.injEq] at h
        rw [← h.1, ← h.2, h34]
        rfl
      · rename_i h34
        split at h
        · cases h
        · rename_i hp
          split at h
          · rename_i h92
            obtain ⟨l', rfl, ht⟩ := mp (by omega) h
            have e : escB c = [c] := by unfold escB; rw [if_neg (by simp [h34, h92]), if_neg hp]
            have e2 : escL (c :: l') = escB c ++ escL l' := rfl
            rw [e2, e, ht]
            rfl
          · rename_i h92
            have h92 : c = 92 := by simpa using h92
            subst h92
            cases t with
            | nil => cases h
            | cons d t1 =>
              simp only [List.length_cons] at hr
              simp only at h
              split at h
              · rename_i hd
                obtain ⟨l', rfl, ht⟩ := mp (by omega) h
                have e : escB d = [92, d] := by unfold escB; rw [if_pos hd]
                have e2 : escL (d :: l') = escB d ++ escL l' := rfl
                rw [e2, e, ht]
                rfl
              · rename_i hd
                split at h
                · rename_i a b t2
                  simp only [List.length_cons] at hr
                  split at h
                  · rename_i hx
                    obtain ⟨rfl, ha, hb⟩ := hx
                    split at h
                    · cases h
                    · rename_i hv
                      have na := hex_nib' a ha
                      have nb := hex_nib' b hb
                      obtain ⟨l', rfl, ht⟩ := mp (by omega) h
                      generalize hc : UInt8.ofNat (16 * nib a + nib b).toNat = v at *
                      have hvn : v.toNat = (16 * nib a + nib b).toNat := by
                        rw [← hc, UInt8.toNat_ofNat']
                        omega
                      have e34 : ¬ (v = 34 ∨ v = 92) := by
                        rintro (rfl | rfl)
                        · have : (34 : UInt8).toNat = 34 := rfl
                          omega
                        · have : (92 : UInt8).toNat = 92 := rfl
                          omega
                      have e32 : v < 32 ∨ 126 < v := by
                        rw [UInt8.lt_iff_toNat_lt, UInt8.lt_iff_toNat_lt]
                        have h1 : (32 : UInt8).toNat = 32 := rfl
                        have h2 : (126 : UInt8).toNat = 126 := rfl
                        omega
                      have ea : v / 16 = UInt8.ofNat (nib a).toNat := by
                        apply UInt8.toNat_inj.1
                        rw [UInt8.toNat_div, hvn, UInt8.toNat_ofNat', show (16 : UInt8).toNat = 16 from rfl]
                        omega
                      have eb : v % 16 = UInt8.ofNat (nib b).toNat := by
                        apply UInt8.toNat_inj.1
                        rw [UInt8.toNat_mod, hvn, UInt8.toNat_ofNat', show (16 : UInt8).toNat = 16 from rfl]
                        omega
                      have e : escB v = [92, 120, a, b] := by
                        unfold escB
                        rw [if_neg e34, if_pos e32, ea, eb, na.2, nb.2]
                      have e2 : escL (v :: l') = escB v ++ escL l' := rfl
                      rw [e2, e, ht]
                      rfl
                  · cases h
                · cases h
end Go.Proofs.YtpmheafccfnfjaaGreatDoor
namespace Go.Proofs.YtpmheafccfnfjaaGreatDoor
open Go Go.RowKit
/-- A value as it is written. -/
def wrB (x : Vl) : Bs := (wrX x).data.toList
theorem beq_iff_toList {s t : ByteArray} : (s == t) = true ↔ s.data.toList = t.data.toList := by
  obtain ⟨a⟩ := s
  obtain ⟨b⟩ := t
  show (a == b) = true ↔ a.toList = b.toList
  rw [beq_iff_eq]
  exact ⟨fun h => by rw [h], fun h => Array.toList_inj.1 h⟩
theorem isRel_cases {t : Bs} (h : isRel t = true) : t = [61] ∨ t = [60, 62] ∨ t = [60] ∨ t = [60, 61] ∨ t = [62] ∨ t = [62, 61] := by
  have key : ∀ (l : List (ByteArray × FuncId)), (atE l (st t)).isSome = true → ∃ p ∈ l, t = p.1.data.toList := by
    intro l
    induction l with
    | nil => intro h; cases h
    | cons p l ih =>
      obtain ⟨k, f⟩ := p
      intro h
      unfold atE at h
      split at h
      · rename_i he
        have := beq_iff_toList.1 he
        rw [st_list] at this
        exact ⟨(k, f), by simp, this⟩
      · obtain ⟨p, hp, e⟩ := ih h
        exact ⟨p, by simp [hp], e⟩
  obtain ⟨p, hp, e⟩ := key relL h
  simp only [relL, List.mem_cons, List.not_mem_nil, or_false] at hp
  rcases hp with rfl | rfl | rfl | rfl | rfl | rfl <;> simp [e]
theorem ok_cases {x : Vl} (h : x.ok = true) : (∃ n, x = ⟨1, n, ⟨#[]⟩⟩ ∧ -1000000000 ≤ n ∧ n ≤ 1000000000) ∨ (∃ l, x = ⟨2, 0, st l⟩ ∧ l.length ≤ 40) := by
  obtain ⟨k, n, s⟩ := x
  simp only [Vl.ok, validV, decide_eq_true_eq] at h
  rcases h with ⟨rfl, h1, h2, h3⟩ | ⟨rfl, rfl, h1⟩
  · left
    have : s = ⟨#[]⟩ := toList_inj (by
      have := size_data s
      have e : s.data.toList = [] := List.eq_nil_of_length_eq_zero (by omega)
      rw [toList_data, e, toList_data])
    subst this
    exact ⟨n, rfl, h2, h3⟩
  · right
    exact ⟨s.data.toList, by rw [st_self], by rw [size_data]; exact h1⟩
theorem wrB_num (n : Int) : wrB ⟨1, n, ⟨#[]⟩⟩ = Lib.itoa n := by
  simp [wrB, wrX, wrV, itoaS]
theorem wrB_txt (l : Bs) : wrB ⟨2, 0, st l⟩ = quoted l := by
  simp [wrB, wrX, wrV, st_list]
theorem litI_quote (l : Bs) : litI (34 :: l) = litP (34 :: l) := by
  have e : Lib.atoiAll (34 :: l) = Lib.atoiAll [] := by
    simp only [Lib.atoiAll]
    rw [show (34 : UInt8).toNat = 34 from rfl]
    rw [if_neg (by omega), Lib.parseMag, if_neg (by simp), Lib.parseUint10]
    rw [show (34 : UInt8).toNat = 34 from rfl, if_neg (by omega)]
  unfold litI
  rw [e]
  rfl
theorem textR_one {x : Vl} (h : x.ok = true) : (textR [x]).toList = wrB x := by
  have e : rowOK [x] = true := by simp [rowOK, h]
  unfold textR
  rw [if_pos e, toList_data]
  simp [Lib.join, wrB]
theorem lit_ok {x : Vl} (h : x.ok = true) : litI (wrB x) = some x := by
  rcases ok_cases h with ⟨n, rfl, h0, h1⟩ | ⟨l, rfl, hl⟩
  · rw [wrB_num]
    unfold litI
    rw [atoi_itoa n (by omega) (by omega)]
    have e : validV 1 n ⟨#[]⟩ = true := h
    have e2 : ((itoaS n).toList == Lib.itoa n) = true := by rw [toList_data]; simp [itoaS]
    simp only [e, e2, Bool.and_self, if_true]
  · rw [wrB_txt]
    unfold quoted
    rw [litI_quote]
    show litP (quoted l) = _
    have hs : (st (quoted l)).size = (quoted l).length := st_size _
    have hq : (quoted l).length = (escL l).length + 2 := by simp [quoted]
    have hb : bt (st (quoted l)) 0 = 34 := by
      rw [bt_list (by omega)]
      simp [st_list, quoted]
    have hi : ival (st (quoted l)) 0 = some (⟨2, 0, st l⟩, (st (quoted l)).size) := by
      unfold ival
      rw [if_pos hb]
      have e : sfx (st (quoted l)) (0 + 1) = escL l ++ 34 :: [] := by simp [sfx, st_list, quoted]
      rw [e, rtx_escL]
      simp
    have hr : rowsI (st (quoted l)) = some [⟨2, 0, st l⟩] := by
      unfold rowsI
      rw [if_neg (by omega), rowsF, hi]
      simp
    have hp : parseI (st (quoted l)) = some [⟨2, 0, st l⟩] := by
      unfold parseI
      rw [hr]
      have e : rowOK [⟨2, 0, st l⟩] = true := by simp [rowOK, h]
      simp only [e, Bool.true_and]
      rw [textR_one h, wrB_txt, st_list', beq_self_eq_true, if_pos rfl]
    have e : (34 :: (escL l ++ [34])) = quoted l := rfl
    show litP (quoted l) = _
    unfold litP
    rw [hp]
    simp [quoted]
theorem lit_of {t : Bs} {x : Vl} (h : litI t = some x) : x.ok = true ∧ t = wrB x := by
  have hP : litP t = some x → x.ok = true ∧ t = wrB x := by
    intro h
    unfold litP at h
    split at h
    · rename_i y hp
      split at h
      · cases h
        unfold parseI at hp
        split at hp
        · cases hp
        · rename_i l hr
          split at hp
          · rename_i hc
            cases hp
            simp only [Bool.and_eq_true] at hc
            have hx : x.ok = true := by
              have := hc.1
              simp [rowOK] at this
              exact this
            refine ⟨hx, ?_⟩
            have := eq_of_beq hc.2
            rw [textR_one hx, st_list'] at this
            exact this.symm
          · cases hp
      · cases h
    · cases h
  unfold litI at h
  split at h
  · split at h
    · rename_i v hv hc
      cases h
      simp only [Bool.and_eq_true] at hc
      refine ⟨hc.2, ?_⟩
      rw [wrB_num]
      have := eq_of_beq hc.1
      rw [toList_data] at this
      rw [← this]
      simp [itoaS]
    · exact hP h
  · exact hP h
theorem itoa_shape (n : Int) : ∃ d u, (∀ c ∈ d :: u, digitZ (c.toNat : Int) = true) ∧ (Lib.itoa n = d :: u ∨ Lib.itoa n = 45 :: d :: u) := by
  have key : ∀ m, ∃ d u, (∀ c ∈ d :: u, digitZ (c.toNat : Int) = true) ∧ Lib.decDigits m = d :: u := fun m => by
    obtain ⟨h2, h3, h4⟩ := dec_spec m
    obtain ⟨h5, h6, h7⟩ := canon_iff.1 h2
    obtain ⟨d, u, e⟩ := List.exists_cons_of_ne_nil h6
    exact ⟨d, u, fun c hc => List.all_eq_true.1 h5 c (by rw [e]; exact hc), e⟩
  unfold Lib.itoa
  split
  · obtain ⟨d, u, h, e⟩ := key n.natAbs
    exact ⟨d, u, h, .inr (by rw [e])⟩
  · obtain ⟨d, u, h, e⟩ := key n.toNat
    exact ⟨d, u, h, .inl e⟩
theorem wrB_shape {x : Vl} (h : x.ok = true) : (∃ d u, (∀ c ∈ d :: u, digitZ (c.toNat : Int) = true) ∧ (wrB x = d :: u ∨ wrB x = 45 :: d :: u)) ∨ ∃ l, wrB x = quoted l := by
  rcases ok_cases h with ⟨n, rfl, h0, h1⟩ | ⟨l, rfl, hl⟩
  · left
    rw [wrB_num]
    exact itoa_shape n
  · exact .inr ⟨l, wrB_txt l⟩
theorem wrB_head {x : Vl} (h : x.ok = true) : ∃ c t, wrB x = c :: t ∧ (c = 34 ∨ c = 45 ∨ (48 ≤ c ∧ c ≤ 57)) := by
  rcases wrB_shape h with ⟨d, u, hd, e | e⟩ | ⟨l, e⟩
  · have := dgB_nat.1 (show dgB d = true from hd d (by simp))
    exact ⟨d, u, e, .inr (.inr ⟨UInt8.le_iff_toNat_le.2 this.1, UInt8.le_iff_toNat_le.2 this.2⟩)⟩
  · exact ⟨45, d :: u, e, .inr (.inl rfl)⟩
  · exact ⟨34, _, e, .inl rfl⟩
/-- The reference's reading of a word as a value. -/
def rLit (t : Bs) : Option Vl :=
  if t.head? = some 34 then (match rQ t.tail with
    | some (l, rest) => if rest = [] ∧ validV 2 0 (st l) = true then some ⟨2, 0, st l⟩ else none
    | none => none)
  else if t ≠ [] ∧ (rNum t).2 = t.length ∧ validV 1 (rNum t).1 ⟨#[]⟩ = true then some ⟨1, (rNum t).1, ⟨#[]⟩⟩ else none
theorem itoa_head {n : Int} : (Lib.itoa n).head? ≠ some 34 ∧ Lib.itoa n ≠ [] := by
  obtain ⟨d, u, h, e | e⟩ := itoa_shape n
  · rw [e]
    refine ⟨?_, by simp⟩
    simp only [List.head?_cons, ne_eq, Option.some.injEq]
    rintro rfl
    have := h 34 (by simp)
    revert this
    decide
  · rw [e]; simp
theorem rLit_ok {x : Vl} (h : x.ok = true) : rLit (wrB x) = some x := by
  rcases ok_cases h with ⟨n, rfl, h0, h1⟩ | ⟨l, rfl, hl⟩
  · rw [wrB_num]
    unfold rLit
    rw [if_neg itoa_head.1, rNum_itoa h0 h1, if_pos ⟨itoa_head.2, rfl, h⟩]
  · rw [wrB_txt]
    unfold rLit
    rw [if_pos (show (quoted l).head? = some 34 from rfl)]
    have e : (quoted l).tail = escL l ++ 34 :: [] := rfl
    rw [e, rQ_escL]
    have e2 : validV 2 0 (st l) = true := h
    simp [e2]
theorem rLit_of {t : Bs} {x : Vl} (h : rLit t = some x) : x.ok = true ∧ t = wrB x := by
  unfold rLit at h
  split at h
  · rename_i h34
    split at h
    · rename_i l rest hq
      split at h
      · rename_i hc
        cases h
        refine ⟨hc.2, ?_⟩
        rw [wrB_txt]
        have := rQ_some _ (Nat.le_refl _) hq
        rw [hc.1] at this
        cases t with
        | nil => cases h34
        | cons c u =>
          simp only [List.head?_cons, Option.some.injEq] at h34
          rw [h34]
          rw [List.tail_cons] at this
          rw [this]
          rfl
      · cases h
    · cases h
  · split at h
    · rename_i hc
      cases h
      refine ⟨hc.2.2, ?_⟩
      rw [wrB_num]
      exact (rNum_whole (n := (rNum t).1) (by rw [← hc.2.1]) hc.1).1
    · cases h
theorem rLit_eq (t : Bs) : rLit t = litI t := by
  cases h : litI t with
  | some x =>
    obtain ⟨h1, h2⟩ := lit_of h
    rw [h2, rLit_ok h1]
  | none =>
    cases h2 : rLit t with
    | none => rfl
    | some x =>
      obtain ⟨h3, h4⟩ := rLit_of h2
      rw [h4, lit_ok h3] at h
      cases h
end Go.Proofs.YtpmheafccfnfjaaGreatDoor
namespace Go.Proofs.YtpmheafccfnfjaaGreatDoor
open Go Go.RowKit
/-- The words of a term. -/
def tmW : Trm → List Bs
  | .nm a => [a]
  | .vr a => [[58], a]
  | .vl x => [wrB x]
def lvl : Nd → Int
  | .pair op _ _ => op
  | .no _ => 3
  | _ => 4
def shw (least l : Int) (W : List Bs) : List Bs := if l < least then [40] :: (W ++ [[41]]) else W
def cw (op : Int) : Bs := if op = 2 then wAnd else wOr
/-- The words of a condition. -/
def plW : Nd → List Bs
  | .pair op l r => shw op (lvl l) (plW l) ++ cw op :: shw op (lvl r) (plW r)
  | .no n => wNot :: shw 4 (lvl n) (plW n)
  | .test op a b => tmW a ++ op :: tmW b
  | .truth b => [if b then wTrue else wFalse]
abbrev shW (n : Nd) (least : Int) : List Bs := shw least (lvl n) (plW n)
def pz (least l : Int) : Int := if l < least then 1 else 0
/-- How deep a condition's text is. -/
def dp : Nd → Int
  | .pair op l r => max (pz op (lvl l) + dp l) (pz op (lvl r) + dp r)
  | .no n => 1 + (pz 4 (lvl n) + dp n)
  | _ => 0
abbrev dpS (n : Nd) (least : Int) : Int := pz least (lvl n) + dp n
def OkT : Trm → Prop
  | .nm a => nameOK a = true ∧ keptB a = false
  | .vr a => nameOK a = true ∧ keptB a = false
  | .vl x => x.ok = true
def OkN : Nd → Prop
  | .pair op l r => (op = 1 ∨ op = 2) ∧ OkN l ∧ OkN r
  | .no n => OkN n
  | .test op a b => isRel op = true ∧ OkT a ∧ OkT b
  | .truth _ => True
def isP (op : Int) : Nd → Bool
  | .pair o _ _ => o == op
  | _ => false
def FlatN : Nd → Prop
  | .pair op l r => FlatN l ∧ FlatN r ∧ isP op r = false
  | .no n => FlatN n
  | _ => True
theorem name_ne {a : Bs} (h : nameOK a = true) : a ≠ [58] ∧ a ≠ [40] ∧ a ≠ [] := by
  refine ⟨?_, ?_, ?_⟩ <;> (rintro rfl; revert h; decide)
theorem kept_ne {a : Bs} (h : keptB a = false) : a ≠ wTrue ∧ a ≠ wFalse ∧ a ≠ wNot ∧ a ≠ wAnd ∧ a ≠ wOr := by
  refine ⟨?_, ?_, ?_, ?_, ?_⟩ <;> (rintro rfl; revert h; decide +kernel)
theorem pTerm_W {x : Trm} (hx : OkT x) (T : List Bs) : pTerm (tmW x ++ T) = some (x, T) := by
  cases x with
  | nm a =>
    obtain ⟨h1, h2⟩ := hx
    simp [tmW, pTerm, (name_ne h1).1, h1, h2]
  | vr a =>
    obtain ⟨h1, h2⟩ := hx
    simp [tmW, pTerm, (name_ne h1).1, (name_ne h1).2.2, h1, h2]
  | vl x =>
    obtain ⟨c, t, he, hc⟩ := wrB_head hx
    have h1 : wrB x ≠ [58] := by rw [he]; rintro ⟨⟩; revert hc; decide
    have h2 : nameOK (wrB x) = false := by
      rw [he]
      simp only [nameOK, Bool.and_eq_false_iff]
      left; right
      rcases hc with rfl | rfl | ⟨h3, h4⟩
      · decide
      · decide
      · simp only [smallZ, decide_eq_false_iff_not]
        have : c.toNat ≤ 57 := by simpa [UInt8.le_iff_toNat_le] using h4
        omega
    simp [tmW, pTerm, h1, h2, lit_ok hx]
theorem tmW_hd {x : Trm} (hx : OkT x) : ∃ t u, tmW x = t :: u ∧ t ≠ wTrue ∧ t ≠ wFalse ∧ t ≠ [40] ∧ t ≠ wNot := by
  cases x with
  | nm a => exact ⟨a, [], rfl, (kept_ne hx.2).1, (kept_ne hx.2).2.1, (name_ne hx.1).2.1, (kept_ne hx.2).2.2.1⟩
  | vr a => exact ⟨[58], [a], rfl, by decide, by decide, by decide, by decide⟩
  | vl x =>
    obtain ⟨c, t, he, hc⟩ := wrB_head hx
    refine ⟨wrB x, [], rfl, ?_, ?_, ?_, ?_⟩ <;> (rw [he]; rintro ⟨⟩; revert hc; decide)
theorem pMore_fuel {side : List Bs → Int → PRes} (hs : Shr side) {w : Bs} (hw0 : w ≠ []) {op : Int} : ∀ (f g : Nat) (n : Nd) (T : List Bs) (d : Int), T.length < f → T.length < g → pMore side w op f n T d = pMore side w op g n T d
  | 0, _, _, _, _, h, _ => absurd h (Nat.not_lt_zero _)
  | _ + 1, 0, _, _, _, _, h => absurd h (Nat.not_lt_zero _)
  | f + 1, g + 1, n, T, d, hf, hg => by
    unfold pMore
    split
    · rename_i hw
      cases hr : side T.tail d with
      | none => rfl
      | some r =>
        obtain ⟨m, T', d'⟩ := r
        have h1 := hs _ _ _ _ _ hr
        cases T with
        | nil => exact absurd hw.symm hw0
        | cons a u =>
          simp only [List.tail_cons] at h1
          simp only [List.length_cons] at hf hg
          exact pMore_fuel hs hw0 f g _ _ _ (by omega) (by omega)
    · rfl
theorem pMore_stop {side : List Bs → Int → PRes} {w : Bs} {op : Int} {f : Nat} {n : Nd} {T : List Bs} {d : Int} (hf : T.length < f) (h : hd T ≠ w) : pMore side w op f n T d = some (n, T, d) := by
  obtain ⟨f, rfl⟩ : ∃ g, f = g + 1 := ⟨f - 1, by omega⟩
  rw [pMore, if_neg h]
theorem shrN (k : Nat) (lv : Int) : Shr (pNot (pPrim k) lv) := pNot_len (fun lv => pPrim_len k lv) lv
theorem shrA (k : Nat) (lv : Int) : Shr (pAnd (pPrim k) lv) := pMany_len (shrN k lv)
def PA (n : Nd) : Prop := ∀ (k : Nat) (lv : Int) (T : List Bs) (d : Int), lv ≤ d → (shW n 4 ++ T).length < k → pPrim k lv (shW n 4 ++ T) d = some (n, T, max d (lv + dpS n 4))
def PB (n : Nd) : Prop := ∀ (k : Nat) (lv : Int) (T : List Bs) (d : Int), lv ≤ d → (shW n 3 ++ T).length < k → pNot (pPrim k) lv (shW n 3 ++ T) d = some (n, T, max d (lv + dpS n 3))
def PC (n : Nd) : Prop := ∀ (k : Nat) (lv : Int) (T : List Bs) (d : Int), lv ≤ d → (shW n 2 ++ T).length < k → ∀ f, T.length < f → pAnd (pPrim k) lv (shW n 2 ++ T) d = pMore (pNot (pPrim k) lv) wAnd 2 f n T (max d (lv + dpS n 2))
def PD (n : Nd) : Prop := ∀ (k : Nat) (lv : Int) (T : List Bs) (d : Int), lv ≤ d → hd T ≠ wAnd → (plW n ++ T).length < k → ∀ f, T.length < f → pOr (pPrim k) lv (plW n ++ T) d = pMore (pAnd (pPrim k) lv) wOr 1 f n T (max d (lv + dp n))
theorem dp_pos : ∀ n : Nd, 0 ≤ dp n
  | .pair op l r => by
    have := dp_pos l
    have := dp_pos r
    simp only [dp, pz]
    split <;> split <;> omega
  | .no n => by
    have := dp_pos n
    simp only [dp, pz]
    split <;> omega
  | .test _ _ _ => Int.le_refl _
  | .truth _ => Int.le_refl _
theorem a_paren {n : Nd} (h : PD n) (hl : lvl n < 4) : PA n := by
  intro k lv T d hd0 hk
  have e : shW n 4 = [40] :: (plW n ++ [[41]]) := by simp only [shW, shw, if_pos hl]
  have e2 : dpS n 4 = 1 + dp n := by simp only [dpS, pz, if_pos hl]
  rw [e] at hk ⊢
  rw [e2]
  obtain ⟨k, rfl⟩ : ∃ k', k = k' + 1 := ⟨k - 1, by omega⟩
  have e3 : [40] :: (plW n ++ [[41]]) ++ T = [40] :: (plW n ++ ([41] :: T)) := by simp
  rw [e3] at hk ⊢
  have H := h k (lv + 1) ([41] :: T) (max d (lv + 1)) (by omega) (by simp [hd]) (by simp only [List.length_cons] at hk; omega) (T.length + 2) (by simp)
  rw [pMore_stop (by simp) (by simp [hd])] at H
  have := dp_pos n
  rw [pPrim]
  simp only [hd, List.headD_cons, List.tail_cons, H]
  rw [if_neg (by decide), if_neg (by decide), if_pos trivial, if_pos trivial]
  congr 3
  omega
theorem b_paren {n : Nd} (h : PA n) (hl : lvl n < 3) : PB n := by
  intro k lv T d hd0 hk
  have e : shW n 3 = shW n 4 := by simp only [shW, shw, if_pos hl, if_pos (show lvl n < 4 by omega)]
  have e2 : dpS n 3 = dpS n 4 := by simp only [dpS, pz, if_pos hl, if_pos (show lvl n < 4 by omega)]
  have e3 : hd (shW n 4 ++ T) = [40] := by simp only [shW, shw, if_pos (show lvl n < 4 by omega)]; rfl
  rw [e] at hk ⊢
  rw [e2, pNot, if_neg (by rw [e3]; decide)]
  exact h k lv T d hd0 hk
theorem c_of_b {n : Nd} (h : PB n) (hl : lvl n < 2 ∨ 3 ≤ lvl n) : PC n := by
  intro k lv T d hd0 hk f hf
  have e : shW n 2 = shW n 3 := by
    simp only [shW, shw]
    rcases hl with hl | hl
    · rw [if_pos hl, if_pos (by omega)]
    · rw [if_neg (by omega), if_neg (by omega)]
  have e2 : dpS n 2 = dpS n 3 := by
    simp only [dpS, pz]
    rcases hl with hl | hl
    · rw [if_pos hl, if_pos (by omega)]
    · rw [if_neg (by omega), if_neg (by omega)]
  rw [e] at hk ⊢
  rw [e2, pAnd, pMany, h k lv T d hd0 hk]
  exact pMore_fuel (shrN k lv) (by decide) _ _ _ _ _ (by omega) hf
theorem d_of_c {n : Nd} (h : PC n) (hl : 2 ≤ lvl n) : PD n := by
  intro k lv T d hd0 hT hk f hf
  have e : shW n 2 = plW n := by simp only [shW, shw, if_neg (show ¬ lvl n < 2 by omega)]
  have e2 : dpS n 2 = dp n := by simp only [dpS, pz, if_neg (show ¬ lvl n < 2 by omega)]; omega
  have H := h k lv T d hd0 (by rw [e]; exact hk) (T.length + 1) (by omega)
  rw [e, e2, pMore_stop (by omega) hT] at H
  rw [pOr, pMany, H]
  exact pMore_fuel (shrA k lv) (by decide) _ _ _ _ _ (by omega) hf
theorem a_test {op : Bs} {a b : Trm} (h : OkN (.test op a b)) : PA (.test op a b) := by
  intro k lv T d hd0 hk
  obtain ⟨h1, h2, h3⟩ := h
  obtain ⟨k, rfl⟩ : ∃ k', k = k' + 1 := ⟨k - 1, by omega⟩
  obtain ⟨t, u, ht, n1, n2, n3, n4⟩ := tmW_hd h2
  have e : shW (.test op a b) 4 ++ T = tmW a ++ (op :: (tmW b ++ T)) := by simp [shw, lvl, plW]
  have e2 : hd (tmW a ++ (op :: (tmW b ++ T))) = t := by rw [ht]; rfl
  rw [e, pPrim, e2, if_neg n1, if_neg n2, if_neg n3, pTerm_W h2]
  simp only [hd, List.headD_cons, h1, if_true, List.tail_cons, pTerm_W h3]
  congr 3
  simp [dpS, pz, lvl, dp]
  omega
theorem a_truth (v : Bool) : PA (.truth v) := by
  intro k lv T d hd0 hk
  obtain ⟨k, rfl⟩ : ∃ k', k = k' + 1 := ⟨k - 1, by omega⟩
  have e : max d (lv + dpS (.truth v) 4) = d := by simp [dpS, pz, lvl, dp]; omega
  rw [e]
  cases v
  · simp [shw, lvl, plW, pPrim, hd]
  · simp [shw, lvl, plW, pPrim, hd]
theorem b_leaf {n : Nd} (h : PA n) (hl : lvl n = 4) (hn : ∀ T, hd (plW n ++ T) ≠ wNot) : PB n := by
  intro k lv T d hd0 hk
  have e : shW n 3 = plW n := by simp only [shW, shw, hl]; rfl
  have e2 : shW n 4 = plW n := by simp only [shW, shw, hl]; rfl
  have e3 : dpS n 3 = dpS n 4 := by simp only [dpS, pz, hl]; rfl
  have := h k lv T d hd0 (by rw [e2]; rwa [e] at hk)
  rw [e2] at this
  rw [e, e3, pNot, if_neg (hn T), this]
theorem b_no {n : Nd} (h : PA n) : PB (.no n) := by
  intro k lv T d hd0 hk
  have e : shW (.no n) 3 ++ T = wNot :: (shW n 4 ++ T) := by simp [shw, lvl, plW]
  rw [e] at hk ⊢
  have H := h k (lv + 1) T (max d (lv + 1)) (by omega) (by simp only [List.length_cons] at hk; omega)
  rw [pNot]
  simp only [hd, List.headD_cons, if_true, List.tail_cons, H, Option.map_some]
  congr 3
  have := dp_pos n
  have e4 : dpS (.no n) 3 = 1 + dpS n 4 := by simp [dpS, dp, pz, lvl]
  have e5 : 0 ≤ dpS n 4 := by simp only [dpS, pz]; split <;> omega
  rw [e4]
  omega
theorem c_and {l r : Nd} (hl : PC l) (hr : PB r) (hr2 : isP 2 r = false) (ok : OkN r) : PC (.pair 2 l r) := by
  intro k lv T d hd0 hk f hf
  have hlv : lvl r < 2 ∨ 3 ≤ lvl r := by
    cases r with
    | pair o a b =>
      simp only [isP, beq_eq_false_iff_ne] at hr2
      rcases ok.1 with rfl | rfl
      · left; simp [lvl]
      · exact absurd rfl hr2
    | no _ => right; simp [lvl]
    | test _ _ _ => right; simp [lvl]
    | truth _ => right; simp [lvl]
  have e : shW r 2 = shW r 3 := by
    simp only [shW, shw]
    rcases hlv with hl | hl
    · rw [if_pos hl, if_pos (by omega)]
    · rw [if_neg (by omega), if_neg (by omega)]
  have e2 : dpS r 2 = dpS r 3 := by
    simp only [dpS, pz]
    rcases hlv with hl | hl
    · rw [if_pos hl, if_pos (by omega)]
    · rw [if_neg (by omega), if_neg (by omega)]
  have e3 : shW (.pair 2 l r) 2 ++ T = shW l 2 ++ (wAnd :: (shW r 3 ++ T)) := by rw [← e]; simp [shw, lvl, plW, cw]
  rw [e3] at hk ⊢
  have hk2 : (shW r 3 ++ T).length < k := by simp only [List.length_append, List.length_cons] at hk ⊢; omega
  rw [hl k lv _ d hd0 hk ((shW r 3 ++ T).length + 2) (by simp)]
  rw [pMore]
  simp only [hd, List.headD_cons, if_true, List.tail_cons]
  have e5 : 0 ≤ dpS r 3 := by have := dp_pos r; simp only [dpS, pz]; split <;> omega
  have e6 : 0 ≤ dpS l 2 := by have := dp_pos l; simp only [dpS, pz]; split <;> omega
  rw [hr k lv T _ (by omega) hk2]
  have e4 : dpS (.pair 2 l r) 2 = max (dpS l 2) (dpS r 3) := by rw [← e2]; simp [dpS, dp, pz, lvl]
  rw [e4]
  have e7 : max (max d (lv + dpS l 2)) (lv + dpS r 3) = max d (lv + max (dpS l 2) (dpS r 3)) := by omega
  rw [e7]
  exact pMore_fuel (shrN k lv) (by decide) _ _ _ _ _ (by simp; omega) hf
theorem d_or {l r : Nd} (hl : PD l) (hr : PC r) (hr2 : isP 1 r = false) (ok : OkN r) (okl : OkN l) : PD (.pair 1 l r) := by
  intro k lv T d hd0 hT hk f hf
  have hlv : 2 ≤ lvl r := by
    cases r with
    | pair o a b =>
      simp only [isP, beq_eq_false_iff_ne] at hr2
      rcases ok.1 with rfl | rfl
      · exact absurd rfl hr2
      · simp [lvl]
    | no _ => simp [lvl]
    | test _ _ _ => simp [lvl]
    | truth _ => simp [lvl]
  have hll : 1 ≤ lvl l := by
    cases l with
    | pair o a b => rcases okl.1 with rfl | rfl <;> simp [lvl]
    | no _ => simp [lvl]
    | test _ _ _ => simp [lvl]
    | truth _ => simp [lvl]
  have e : shW r 1 = plW r := by simp only [shW, shw, if_neg (show ¬ lvl r < 1 by omega)]
  have e' : shW r 2 = plW r := by simp only [shW, shw, if_neg (show ¬ lvl r < 2 by omega)]
  have e1 : shW l 1 = plW l := by simp only [shW, shw, if_neg (show ¬ lvl l < 1 by omega)]
  have e2 : dpS r 2 = dp r := by simp only [dpS, pz, if_neg (show ¬ lvl r < 2 by omega)]; omega
  have e2' : dpS r 1 = dp r := by simp only [dpS, pz, if_neg (show ¬ lvl r < 1 by omega)]; omega
  have e2'' : dpS l 1 = dp l := by simp only [dpS, pz, if_neg (show ¬ lvl l < 1 by omega)]; omega
  have e3 : plW (.pair 1 l r) ++ T = plW l ++ (wOr :: (plW r ++ T)) := by
    have : plW (.pair 1 l r) = shW l 1 ++ cw 1 :: shW r 1 := rfl
    rw [this, e, e1]; simp [cw]
  rw [e3] at hk ⊢
  have hk2 : (plW r ++ T).length < k := by simp only [List.length_append, List.length_cons] at hk ⊢; omega
  rw [hl k lv _ d hd0 (by simp [hd]) hk ((plW r ++ T).length + 2) (by simp)]
  rw [pMore]
  simp only [hd, List.headD_cons, if_true, List.tail_cons]
  have := dp_pos r
  have := dp_pos l
  have H := hr k lv T (max d (lv + dp l)) (by omega) (by rw [e']; exact hk2) (T.length + 1) (by omega)
  rw [e', e2, pMore_stop (by omega) hT] at H
  rw [H]
  have e4 : dp (.pair 1 l r) = max (dp l) (dp r) := by
    have : dp (.pair 1 l r) = max (dpS l 1) (dpS r 1) := rfl
    rw [this, e2', e2'']
  rw [e4]
  have e7 : max (max d (lv + dp l)) (lv + dp r) = max d (lv + max (dp l) (dp r)) := by omega
  rw [e7]
  exact pMore_fuel (shrA k lv) (by decide) _ _ _ _ _ (by simp; omega) hf
/-- Reading back the words of a flat condition. -/
theorem parse_W : ∀ n : Nd, OkN n → FlatN n → PA n ∧ PB n ∧ PC n ∧ PD n
  | .test op a b, ok, _ => by
    have hA := a_test ok
    have hB : PB (.test op a b) := b_leaf hA rfl (fun T => by
      obtain ⟨t, u, ht, n1, n2, n3, n4⟩ := tmW_hd ok.2.1
      have : hd (plW (.test op a b) ++ T) = t := by simp only [plW]; rw [ht]; rfl
      rw [this]
      exact n4)
    have hC := c_of_b hB (by right; simp [lvl])
    exact ⟨hA, hB, hC, d_of_c hC (by simp [lvl])⟩
  | .truth v, _, _ => by
    have hA := a_truth v
    have hB : PB (.truth v) := b_leaf hA rfl (fun T => by cases v <;> simp [plW, hd])
    have hC := c_of_b hB (by right; simp [lvl])
    exact ⟨hA, hB, hC, d_of_c hC (by simp [lvl])⟩
  | .no n, ok, fl => by
    have ih := parse_W n ok fl
    have hB := b_no ih.1
    have hC := c_of_b hB (by right; simp [lvl])
    have hD := d_of_c hC (by simp [lvl])
    exact ⟨a_paren hD (by simp [lvl]), hB, hC, hD⟩
  | .pair op l r, ok, fl => by
    have hl := parse_W l ok.2.1 fl.1
    have hr := parse_W r ok.2.2 fl.2.1
    rcases ok.1 with rfl | rfl
    · have hD := d_or hl.2.2.2 hr.2.2.1 fl.2.2 ok.2.2 ok.2.1
      have hA := a_paren hD (by simp [lvl])
      have hB := b_paren hA (by simp [lvl])
      exact ⟨hA, hB, c_of_b hB (by left; simp [lvl]), hD⟩
    · have hC := c_and hl.2.2.1 hr.2.1 fl.2.2 ok.2.2
      have hD := d_of_c hC (by simp [lvl])
      have hA := a_paren hD (by simp [lvl])
      exact ⟨hA, b_paren hA (by simp [lvl]), hC, hD⟩
/-- Reading a whole flat condition back. -/
theorem parse_back {n : Nd} (ok : OkN n) (fl : FlatN n) {k : Nat} (hk : (plW n).length < k) : pOr (pPrim k) 0 (plW n) 0 = some (n, [], dp n) := by
  have H := (parse_W n ok fl).2.2.2 k 0 [] 0 (Int.le_refl _) (by simp [hd]) (by simpa using hk) 1 (by simp)
  rw [pMore_stop (by simp) (by simp [hd])] at H
  rw [List.append_nil] at H
  rw [H]
  have := dp_pos n
  congr 3
  omega
end Go.Proofs.YtpmheafccfnfjaaGreatDoor
namespace Go.Proofs.YtpmheafccfnfjaaGreatDoor
open Go Go.RowKit
/-- The text of a term. -/
def tmB : Trm → Bs
  | .nm a => a
  | .vr a => 58 :: a
  | .vl x => wrB x
def shB (least l : Int) (s : Bs) : Bs := if l < least then 40 :: (s ++ [41]) else s
/-- The text of a condition. -/
def plB : Nd → Bs
  | .pair op l r => shB op (lvl l) (plB l) ++ (32 :: (cw op ++ 32 :: shB op (lvl r) (plB r)))
  | .no n => wNot ++ 32 :: shB 4 (lvl n) (plB n)
  | .test op a b => tmB a ++ 32 :: (op ++ 32 :: tmB b)
  | .truth b => if b then wTrue else wFalse
def Stop (R : Bs) : Prop := ∀ c t, R = c :: t → c = 32 ∨ c = 41
theorem stop_nil : Stop [] := fun _ _ h => by cases h
theorem stop_32 (R : Bs) : Stop (32 :: R) := fun c t h => by cases h; exact .inl rfl
theorem stop_41 (R : Bs) : Stop (41 :: R) := fun c t h => by cases h; exact .inr rfl
def Word (t : Bs) : Prop := ∀ R, Stop R → toks (t ++ R) = t :: toks R
theorem toks_32 (R : Bs) : toks (32 :: R) = toks R := by
  rw [toks_eq, toks_eq R]
  rfl
theorem tok1 {c : UInt8} {u R : Bs} (h : c ≠ 32) (hw : wordLen (c :: u ++ R) = u.length + 1) : toks (c :: u ++ R) = (c :: u) :: toks R := by
  have e : dropB (c :: u ++ R) = c :: u ++ R := by
    unfold dropB
    rw [List.cons_append, List.dropWhile_cons]
    simp [h]
  rw [toks_eq, e, hw, if_neg (by simp)]
  have e2 : u.length + 1 = (c :: u).length := rfl
  rw [e2, List.take_left, List.drop_left]
theorem inn_not {c : UInt8} (h : inn c = true) : c ≠ 60 ∧ c ≠ 62 ∧ c ≠ 32 := by
  refine ⟨?_, ?_, ?_⟩ <;> (rintro rfl; revert h; decide)
theorem stop_take {R : Bs} (h : Stop R) {u : Bs} (hu : u.all inn = true) : (u ++ R).takeWhile inn = u := by
  induction u with
  | nil =>
    cases R with
    | nil => rfl
    | cons c t =>
      have : inn c = false := by rcases h c t rfl with rfl | rfl <;> decide
      simp [this]
  | cons c t ih =>
    simp only [List.all_cons, Bool.and_eq_true] at hu
    simp [hu.1, ih hu.2]
theorem len_inner {c : UInt8} {u R : Bs} (hc : inn c = true ∨ (c = 45 ∧ ∃ d t, u = d :: t ∧ digitZ (d.toNat : Int) = true)) (hu : u.all inn = true) (hR : Stop R) : wordLen (c :: u ++ R) = u.length + 1 := by
  have e : (u ++ R).takeWhile inn = u := stop_take hR hu
  have c60 : c ≠ 60 ∧ c ≠ 62 := by
    rcases hc with h | ⟨rfl, _⟩
    · exact ⟨(inn_not h).1, (inn_not h).2.1⟩
    · decide
  rw [List.cons_append]
  cases hq : u ++ R with
  | nil =>
    have : u = [] := (List.append_eq_nil_iff.1 hq).1
    subst this
    rfl
  | cons d t =>
    simp only [wordLen]
    rw [if_neg (by simp [c60.1, c60.2]), if_pos, ← hq, e, Nat.add_comm]
    rcases hc with h | ⟨rfl, d', t', rfl, hd⟩
    · simp [h]
    · have : d' = d := by simp only [List.cons_append, List.cons.injEq] at hq; exact hq.1
      subst this
      simp [hd]
theorem word_inner {c : UInt8} {u : Bs} (hc : inn c = true ∨ (c = 45 ∧ ∃ d t, u = d :: t ∧ digitZ (d.toNat : Int) = true)) (hu : u.all inn = true) : Word (c :: u) := fun R hR => by
  refine tok1 ?_ (len_inner hc hu hR)
  rcases hc with h | ⟨rfl, _⟩
  · exact (inn_not h).2.2
  · decide
theorem word_name {a : Bs} (h : nameOK a = true) : Word a := by
  cases a with
  | nil => cases h
  | cons c u =>
    simp only [nameOK, Bool.and_eq_true, List.all_cons] at h
    exact word_inner (.inl h.2.1) h.2.2
/-- A sign that nothing joins. -/
theorem tok_sign {c : UInt8} (h : c = 40 ∨ c = 41 ∨ c = 58 ∨ c = 61) (R : Bs) : toks (c :: R) = [c] :: toks R := by
  have hw : wordLen ([c] ++ R) = 1 := by
    cases R with
    | nil => rfl
    | cons d t =>
      simp only [List.cons_append, List.nil_append, wordLen]
      rcases h with rfl | rfl | rfl | rfl <;> (rw [if_neg (by simp), if_neg (by simp; decide), if_neg (by decide)])
  exact tok1 (u := []) (by rcases h with rfl | rfl | rfl | rfl <;> decide) hw
theorem word_rel {t : Bs} (h : isRel t = true) : Word t := by
  intro R hR
  rcases isRel_cases h with rfl | rfl | rfl | rfl | rfl | rfl
  · exact tok_sign (by simp) R
  · exact tok1 (by decide) (by rfl)
  · refine tok1 (u := []) (by decide) ?_
    cases R with
    | nil => rfl
    | cons d t =>
      rcases hR d t rfl with rfl | rfl <;> rfl
  · exact tok1 (by decide) (by rfl)
  · refine tok1 (u := []) (by decide) ?_
    cases R with
    | nil => rfl
    | cons d t =>
      rcases hR d t rfl with rfl | rfl <;> rfl
  · exact tok1 (by decide) (by rfl)
theorem qn_app {u R : Bs} (h : ∀ R, qn (u ++ R) = u.length + qn R) : qn (u ++ 34 :: R) = u.length + 1 := by
  rw [h, qn_c, if_pos rfl]
theorem qn_escB (c : UInt8) (R : Bs) : qn (escB c ++ R) = (escB c).length + qn R := by
  unfold escB
  split
  · rename_i h
    rw [show [92, c] ++ R = 92 :: c :: R from rfl, qn_c, if_neg (by decide), if_pos rfl]
    rfl
  · rename_i h
    simp only [not_or] at h
    split
    · have hx : ∀ d : UInt8, d ≠ 34 → d ≠ 92 → ∀ R, qn (d :: R) = 1 + qn R := fun d h1 h2 R => by rw [qn_c, if_neg h1, if_neg h2]
      have hh : ∀ n : UInt8, n < 16 → hexB n ≠ 34 ∧ hexB n ≠ 92 := fun n hn => by
        have hn' : n.toNat < 16 := by simpa [UInt8.lt_iff_toNat_lt] using hn
        have key : ∀ m : _root_.Fin 16, hexB (UInt8.ofNat m.val) ≠ 34 ∧ hexB (UInt8.ofNat m.val) ≠ 92 := by decide
        have := key ⟨n.toNat, hn'⟩
        simpa using this
      have h1 := hh (c / 16) (by
        rw [UInt8.lt_iff_toNat_lt, UInt8.toNat_div]
        have := UInt8.toNat_lt c
        show c.toNat / 16 < 16
        omega)
      have h2 := hh (c % 16) (by
        rw [UInt8.lt_iff_toNat_lt, UInt8.toNat_mod]
        show c.toNat % 16 < 16
        omega)
      rw [show [92, 120, hexB (c / 16), hexB (c % 16)] ++ R = 92 :: 120 :: hexB (c / 16) :: hexB (c % 16) :: R from rfl, qn_c, if_neg (by decide), if_pos rfl]
      simp only [hx _ h1.1 h1.2, hx _ h2.1 h2.2, List.length_cons, List.length_nil]
      omega
    · rw [show [c] ++ R = c :: R from rfl, qn_c, if_neg h.1, if_neg h.2]
      rfl
theorem qn_escL (l R : Bs) : qn (escL l ++ R) = (escL l).length + qn R := by
  induction l with
  | nil => simp [escL]
  | cons c t ih =>
    have e : escL (c :: t) = escB c ++ escL t := rfl
    rw [e, List.append_assoc, qn_escB, ih, List.length_append]
    omega
theorem word_quoted (l : Bs) : Word (quoted l) := by
  intro R hR
  have hw : wordLen (34 :: (escL l ++ [34]) ++ R) = (escL l ++ [34]).length + 1 := by
    have e : 34 :: (escL l ++ [34]) ++ R = 34 :: (escL l ++ 34 :: R) := by simp
    rw [e]
    have hne : escL l ++ 34 :: R ≠ [] := by simp
    obtain ⟨d, t, hd⟩ := List.exists_cons_of_ne_nil hne
    have hq := qn_app (R := R) (qn_escL l)
    rw [hd] at hq ⊢
    simp only [wordLen]
    rw [if_neg (by simp), if_neg (by simp; decide), if_pos trivial, hq]
    simp
    omega
  exact tok1 (by decide) hw
theorem word_lit {x : Vl} (h : x.ok = true) : Word (wrB x) := by
  rcases wrB_shape h with ⟨d, u, hu, hs⟩ | ⟨l, hl⟩
  · have hd : digitZ (d.toNat : Int) = true := hu d (by simp)
    have hi : ∀ c : UInt8, digitZ (c.toNat : Int) = true → inn c = true := fun c hc => by
      simp only [digitZ, decide_eq_true_eq] at hc
      simp only [inn, innerZ, decide_eq_true_eq]
      omega
    have hall : u.all inn = true := List.all_eq_true.2 fun c hc => hi c (hu c (by simp [hc]))
    rcases hs with hs | hs
    · rw [hs]; exact word_inner (.inl (hi d hd)) hall
    · rw [hs]; exact word_inner (.inr ⟨rfl, d, u, rfl, hd⟩) (by simp [hi d hd]; simpa using hall)
  · rw [hl]; exact word_quoted l
theorem toks_tm {x : Trm} (h : OkT x) (R : Bs) (hR : Stop R) : toks (tmB x ++ R) = tmW x ++ toks R := by
  cases x with
  | nm a => exact word_name h.1 R hR
  | vr a =>
    rw [show tmB (.vr a) ++ R = 58 :: (a ++ R) from rfl, tok_sign (by simp), word_name h.1 R hR]
    rfl
  | vl x => exact word_lit h R hR
theorem toks_sh {n : Nd} {least : Int} (ih : ∀ R, Stop R → toks (plB n ++ R) = plW n ++ toks R) (R : Bs) (hR : Stop R) : toks (shB least (lvl n) (plB n) ++ R) = shW n least ++ toks R := by
  unfold shB shW shw
  split
  · rw [List.cons_append, tok_sign (by simp), List.append_assoc, List.singleton_append, ih _ (stop_41 R), tok_sign (by simp)]
    simp
  · exact ih R hR
theorem word_cw (op : Int) : Word (cw op) := by
  unfold cw
  split
  · exact word_inner (.inl (by decide)) (by decide)
  · exact word_inner (.inl (by decide)) (by decide)
/-- The words of a condition's text. -/
theorem toks_plB : ∀ {n : Nd}, OkN n → ∀ R, Stop R → toks (plB n ++ R) = plW n ++ toks R
  | .pair op l r, ok, R, hR => by
    have h1 := toks_plB ok.2.1
    have h2 := toks_plB ok.2.2
    rw [plB, List.append_assoc, List.cons_append, toks_sh h1 _ (stop_32 _), toks_32, List.append_assoc, List.cons_append, word_cw op _ (stop_32 _), toks_32, toks_sh h2 _ hR]
    simp [plW]
  | .no n, ok, R, hR => by
    have h1 := toks_plB (n := n) ok
    have hn : Word wNot := word_inner (.inl (by decide)) (by decide)
    have e : plB (.no n) ++ R = wNot ++ (32 :: (shB 4 (lvl n) (plB n) ++ R)) := rfl
    rw [e, hn _ (stop_32 _), toks_32, toks_sh h1 _ hR]
    rfl
  | .test op a b, ok, R, hR => by
    rw [plB, List.append_assoc, List.cons_append, toks_tm ok.2.1 _ (stop_32 _), toks_32, List.append_assoc, List.cons_append, word_rel ok.1 _ (stop_32 _), toks_32, toks_tm ok.2.2 _ hR]
    simp [plW]
  | .truth b, ok, R, hR => by
    have h1 : Word wTrue := word_inner (.inl (by decide)) (by decide)
    have h2 : Word wFalse := word_inner (.inl (by decide)) (by decide)
    cases b
    · exact h2 R hR
    · exact h1 R hR
theorem toks_text {n : Nd} (ok : OkN n) : toks (plB n) = plW n := by
  have := toks_plB ok [] stop_nil
  rwa [List.append_nil, show toks [] = [] from rfl, List.append_nil] at this
end Go.Proofs.YtpmheafccfnfjaaGreatDoor
namespace Go.Proofs.YtpmheafccfnfjaaGreatDoor
open Go Go.RowKit
/-- The sides of the outermost words of a kind. -/
def sidesL (op : Int) : Nd → List Nd
  | .pair o l r => if o = op then sidesL op l ++ sidesL op r else [.pair o l r]
  | n => [n]
/-- A condition with another one's sides behind it. -/
def graft (op : Int) (a : Nd) : Nd → Nd
  | .pair o l r => if o = op then .pair op (graft op a l) r else .pair op a (.pair o l r)
  | n => .pair op a n
/-- Laid flat. -/
def fl : Nd → Nd
  | .pair op l r => graft op (fl l) (fl r)
  | .no n => .no (fl n)
  | n => n
def chain (op : Int) : List Nd → Nd
  | [] => .truth false
  | x :: xs => xs.foldl (.pair op) x
theorem chain_snoc (op : Int) {l : List Nd} (h : l ≠ []) (r : Nd) : chain op (l ++ [r]) = .pair op (chain op l) r := by
  cases l with
  | nil => exact absurd rfl h
  | cons x xs => simp [chain]
theorem sidesL_ne (op : Int) : ∀ n, sidesL op n ≠ []
  | .pair o l r => by
    unfold sidesL
    split
    · simp [sidesL_ne op l]
    · simp
  | .no _ => by simp [sidesL]
  | .test _ _ _ => by simp [sidesL]
  | .truth _ => by simp [sidesL]
theorem sidesL_one {op : Int} {n : Nd} (h : isP op n = false) : sidesL op n = [n] := by
  cases n with
  | pair o l r =>
    simp only [isP, beq_eq_false_iff_ne] at h
    rw [sidesL, if_neg h]
  | _ => rfl
theorem sidesL_not {op : Int} : ∀ {n x : Nd}, x ∈ sidesL op n → isP op x = false
  | .pair o l r, x, hx => by
    unfold sidesL at hx
    split at hx
    · rcases List.mem_append.1 hx with h | h
      · exact sidesL_not h
      · exact sidesL_not h
    · rename_i h
      simp only [List.mem_singleton] at hx
      subst hx
      simpa [isP] using h
  | .no _, x, hx => by simp only [sidesL, List.mem_singleton] at hx; subst hx; rfl
  | .test _ _ _, x, hx => by simp only [sidesL, List.mem_singleton] at hx; subst hx; rfl
  | .truth _, x, hx => by simp only [sidesL, List.mem_singleton] at hx; subst hx; rfl
theorem sides_graft (op : Int) (a : Nd) : ∀ b, sidesL op (graft op a b) = sidesL op a ++ sidesL op b
  | .pair o l r => by
    unfold graft
    split
    · rename_i h
      subst h
      simp only [sidesL, if_true, sides_graft o a l, List.append_assoc]
    · rename_i h
      simp only [sidesL, if_true, if_neg h]
  | .no _ => by simp [graft, sidesL]
  | .test _ _ _ => by simp [graft, sidesL]
  | .truth _ => by simp [graft, sidesL]
theorem graft_pair (op : Int) (a b : Nd) : ∃ l r, graft op a b = .pair op l r := by
  cases b with
  | pair o l r =>
    unfold graft
    split
    · exact ⟨_, _, rfl⟩
    · exact ⟨_, _, rfl⟩
  | _ => exact ⟨_, _, rfl⟩
theorem isP_fl {op : Int} : ∀ {n : Nd}, isP op (fl n) = isP op n
  | .pair o l r => by
    obtain ⟨l', r', h⟩ := graft_pair o (fl l) (fl r)
    rw [fl, h]
    rfl
  | .no _ => rfl
  | .test _ _ _ => rfl
  | .truth _ => rfl
theorem graft_flat {op : Int} {a : Nd} (ha : FlatN a) : ∀ {b : Nd}, FlatN b → FlatN (graft op a b)
  | .pair o l r, h => by
    unfold graft
    split
    · rename_i e
      subst e
      exact ⟨graft_flat ha h.1, h.2.1, h.2.2⟩
    · rename_i e
      exact ⟨ha, h, by simpa [isP] using e⟩
  | .no _, h => ⟨ha, h, rfl⟩
  | .test _ _ _, h => ⟨ha, h, rfl⟩
  | .truth _, h => ⟨ha, h, rfl⟩
theorem fl_flat : ∀ n, FlatN (fl n)
  | .pair op l r => graft_flat (fl_flat l) (fl_flat r)
  | .no n => fl_flat n
  | .test _ _ _ => trivial
  | .truth _ => trivial
theorem graft_ok {op : Int} (ho : op = 1 ∨ op = 2) {a : Nd} (ha : OkN a) : ∀ {b : Nd}, OkN b → OkN (graft op a b)
  | .pair o l r, h => by
    unfold graft
    split
    · rename_i e
      subst e
      exact ⟨ho, graft_ok ho ha h.2.1, h.2.2⟩
    · exact ⟨ho, ha, h⟩
  | .no _, h => ⟨ho, ha, h⟩
  | .test _ _ _, h => ⟨ho, ha, h⟩
  | .truth _, h => ⟨ho, ha, h⟩
theorem fl_ok : ∀ {n}, OkN n → OkN (fl n)
  | .pair op l r, h => graft_ok h.1 (fl_ok h.2.1) (fl_ok h.2.2)
  | .no n, h => fl_ok (n := n) h
  | .test _ _ _, h => h
  | .truth _, h => h
theorem sides_fl (op : Int) : ∀ n, sidesL op (fl n) = (sidesL op n).map fl
  | .pair o l r => by
    by_cases h : o = op
    · subst h
      rw [fl, sides_graft, sides_fl o l, sides_fl o r]
      simp [sidesL]
    · obtain ⟨l', r', e⟩ := graft_pair o (fl l) (fl r)
      have e2 : fl (.pair o l r) = .pair o l' r' := e
      rw [sidesL, if_neg h, e2, sidesL, if_neg h]
      simp [e2]
  | .no _ => rfl
  | .test _ _ _ => rfl
  | .truth _ => rfl
theorem chain_sides {op : Int} : ∀ {n : Nd}, FlatN n → chain op (sidesL op n) = n
  | .pair o l r, h => by
    unfold sidesL
    split
    · rename_i e
      subst e
      rw [sidesL_one h.2.2, chain_snoc _ (sidesL_ne _ _), chain_sides h.1]
    · rfl
  | .no _, h => rfl
  | .test _ _ _, h => rfl
  | .truth _, h => rfl
/-- As the program lays a condition flat. -/
theorem fl_eq (op : Int) (n : Nd) : fl n = chain op ((sidesL op n).map fl) := by
  rw [← sides_fl, chain_sides (fl_flat n)]
theorem graft_id {op : Int} {a b : Nd} (h : isP op b = false) : graft op a b = .pair op a b := by
  cases b with
  | pair o l r =>
    simp only [isP, beq_eq_false_iff_ne] at h
    rw [graft, if_neg h]
  | _ => rfl
theorem fl_id : ∀ {n : Nd}, FlatN n → fl n = n
  | .pair op l r, h => by rw [fl, fl_id h.1, fl_id h.2.1, graft_id h.2.2]
  | .no n, h => by rw [fl, fl_id (n := n) h]
  | .test _ _ _, h => rfl
  | .truth _, h => rfl
/-- Flat conditions put together. -/
def joinN (op : Int) (l : List Nd) : Nd := chain op (l.flatMap (sidesL op))
theorem graft_chain {op : Int} {a b : Nd} (ha : FlatN a) (hb : FlatN b) : graft op a b = chain op (sidesL op a ++ sidesL op b) := by
  rw [← sides_graft, chain_sides (graft_flat ha hb)]
theorem joinN_one {op : Int} {n : Nd} (h : FlatN n) : joinN op [n] = n := by simp [joinN, chain_sides h]
theorem chain_app {op : Int} {l m : List Nd} (hl : l ≠ []) : chain op (l ++ m) = m.foldl (.pair op) (chain op l) := by
  cases l with
  | nil => exact absurd rfl hl
  | cons x xs => simp [chain]
theorem sides_chain {op : Int} : ∀ {l : List Nd}, l ≠ [] → (∀ x ∈ l, isP op x = false) → sidesL op (chain op l) = l := by
  intro l hl h
  obtain ⟨x, xs, rfl⟩ := List.exists_cons_of_ne_nil hl
  have key : ∀ (xs : List Nd) (x : Nd), (∀ y ∈ xs, isP op y = false) → sidesL op (xs.foldl (.pair op) x) = sidesL op x ++ xs := by
    intro xs
    induction xs with
    | nil => intro x _; simp
    | cons y ys ih =>
      intro x hy
      rw [List.foldl_cons, ih _ (fun z hz => hy z (by simp [hz])), sidesL, if_pos rfl, sidesL_one (hy y (by simp))]
      simp
  rw [chain, key xs x (fun y hy => h y (by simp [hy])), sidesL_one (h x (by simp))]
  rfl
theorem joinN_snoc {op : Int} {l : List Nd} (hl : l ≠ []) {n : Nd} (hm : FlatN (joinN op l)) (hn : FlatN n) : joinN op (l ++ [n]) = graft op (joinN op l) n := by
  rw [graft_chain hm hn]
  have e : sidesL op (joinN op l) = l.flatMap (sidesL op) := by
    refine sides_chain ?_ ?_
    · obtain ⟨x, xs, rfl⟩ := List.exists_cons_of_ne_nil hl
      simp [sidesL_ne op x]
    · intro x hx
      obtain ⟨y, _, hy⟩ := List.mem_flatMap.1 hx
      exact sidesL_not hy
  rw [e]
  simp [joinN]
/-- The text of a chain. -/
def sepB (op : Int) : Bs := 32 :: (cw op ++ [32])
theorem plB_chain {op : Int} (k0 : Nd) : ∀ (ks : List Nd), ks ≠ [] → plB (chain op (k0 :: ks)) = ks.foldl (fun s k => s ++ sepB op ++ shB op (lvl k) (plB k)) (shB op (lvl k0) (plB k0)) := by
  have key : ∀ (ks : List Nd) (x : Nd), lvl x = op → plB (ks.foldl (.pair op) x) = ks.foldl (fun s k => s ++ sepB op ++ shB op (lvl k) (plB k)) (plB x) := by
    intro ks
    induction ks with
    | nil => intro x _; rfl
    | cons k t ih =>
      intro x hx
      rw [List.foldl_cons, ih _ rfl, List.foldl_cons]
      congr 1
      rw [plB, hx, shB, if_neg (by omega)]
      simp [sepB]
  intro ks hk
  obtain ⟨k, t, rfl⟩ := List.exists_cons_of_ne_nil hk
  rw [chain, List.foldl_cons, key t _ rfl, List.foldl_cons]
  congr 1
  simp [plB, sepB]
/-- The terms of a condition, in the order of the text. -/
def termsL : Nd → List Trm
  | .pair _ l r => termsL l ++ termsL r
  | .no n => termsL n
  | .test _ a b => [a, b]
  | .truth _ => []
theorem terms_sides (op : Int) : ∀ n, termsL n = (sidesL op n).flatMap termsL
  | .pair o l r => by
    unfold sidesL
    split
    · rw [List.flatMap_append, ← terms_sides op l, ← terms_sides op r]; rfl
    · simp
  | .no _ => by simp [sidesL]
  | .test _ _ _ => by simp [sidesL]
  | .truth _ => by simp [sidesL]
theorem terms_graft (op : Int) (a : Nd) : ∀ b, termsL (graft op a b) = termsL a ++ termsL b
  | .pair o l r => by
    unfold graft
    split
    · simp [termsL, terms_graft op a l]
    · simp [termsL]
  | .no _ => rfl
  | .test _ _ _ => rfl
  | .truth _ => rfl
theorem terms_fl : ∀ n, termsL (fl n) = termsL n
  | .pair op l r => by rw [fl, terms_graft, terms_fl l, terms_fl r]; rfl
  | .no n => terms_fl n
  | .test _ _ _ => rfl
  | .truth _ => rfl
end Go.Proofs.YtpmheafccfnfjaaGreatDoor
namespace Go.Proofs.YtpmheafccfnfjaaGreatDoor
open Go Go.RowKit
/-- A word that the program's reader can take. -/
def tokOK (t : Bs) : Bool := t == [40] || t == [41] || t == [58] || isRel t || nameOK t || (litI t).isSome
/-- ref01.Whole: a text that is just a number. -/
def rWhole (t : Bs) : Bool := decide (0 < (rNum t).2 ∧ (rNum t).2 = t.length)
/-- ref02.split: how long the word at the head is; none where there is none. -/
def stepR : Bs → Option Nat
  | [] => none
  | c :: t =>
    if inn c && c != 95 then
      (if 97 ≤ c then (if nameOK (c :: t.takeWhile inn) then some (1 + (t.takeWhile inn).length) else none)
       else (if rWhole (c :: t.takeWhile inn) then some (1 + (t.takeWhile inn).length) else none))
    else if c = 45 then (if rWhole (c :: t.takeWhile inn) then some (1 + (t.takeWhile inn).length) else none)
    else if c = 34 then (rQ t).map (fun r => 1 + (t.length - r.2.length))
    else if (c = 60 ∧ (t.head? = some 62 ∨ t.head? = some 61)) ∨ (c = 62 ∧ t.head? = some 61) then some 2
    else if c = 40 ∨ c = 41 ∨ c = 58 ∨ c = 61 ∨ c = 60 ∨ c = 62 then some 1 else none
theorem stepR_c (c : UInt8) (t : Bs) : stepR (c :: t) = (
    if inn c && c != 95 then
      (if 97 ≤ c then (if nameOK (c :: t.takeWhile inn) then some (1 + (t.takeWhile inn).length) else none)
       else (if rWhole (c :: t.takeWhile inn) then some (1 + (t.takeWhile inn).length) else none))
    else if c = 45 then (if rWhole (c :: t.takeWhile inn) then some (1 + (t.takeWhile inn).length) else none)
    else if c = 34 then (rQ t).map (fun r => 1 + (t.length - r.2.length))
    else if (c = 60 ∧ (t.head? = some 62 ∨ t.head? = some 61)) ∨ (c = 62 ∧ t.head? = some 61) then some 2
    else if c = 40 ∨ c = 41 ∨ c = 58 ∨ c = 61 ∨ c = 60 ∨ c = 62 then some 1 else none) := rfl
def splitF : Nat → Bs → Option (List Bs)
  | 0, _ => some []
  | f + 1, r => if dropB r = [] then some [] else match stepR (dropB r) with
    | none => none
    | some n => (splitF f ((dropB r).drop n)).map ((dropB r).take n :: ·)
/-- ref02.split. -/
def rSplit (s : Bs) : Option (List Bs) := splitF s.length s
theorem take_tw (t : Bs) : t.take (t.takeWhile inn).length = t.takeWhile inn := (List.prefix_iff_eq_take.1 (List.takeWhile_prefix inn)).symm
theorem whole_itoa {t : Bs} (h : rWhole t = true) : t = Lib.itoa (rNum t).1 := by
  simp only [rWhole, decide_eq_true_eq] at h
  refine (rNum_whole (n := (rNum t).1) (by rw [← h.2]) ?_).1
  intro e
  subst e
  simp only [List.length_nil] at h
  omega
theorem lit_tok {t : Bs} (h : (litI t).isSome = true) : (∃ n, -1000000000 ≤ n ∧ n ≤ 1000000000 ∧ t = Lib.itoa n) ∨ ∃ l, t = quoted l := by
  obtain ⟨x, hx⟩ := Option.isSome_iff_exists.1 h
  obtain ⟨h1, h2⟩ := lit_of hx
  rcases ok_cases h1 with ⟨n, rfl, h3, h4⟩ | ⟨l, rfl, hl⟩
  · left
    exact ⟨n, h3, h4, by rw [h2, wrB_num]⟩
  · exact .inr ⟨l, by rw [h2, wrB_txt]⟩
theorem whole_of {n : Int} (h0 : -1000000000 ≤ n) (h1 : n ≤ 1000000000) : rWhole (Lib.itoa n) = true := by
  have hl : 0 < (Lib.itoa n).length := List.length_pos_iff.2 itoa_head.2
  simp only [rWhole, rNum_itoa h0 h1, decide_eq_true_eq]
  exact ⟨hl, trivial⟩
/-- The heads of numbers. -/
theorem itoa_c {n : Int} {c : UInt8} {t : Bs} (h : Lib.itoa n = c :: t) : dgB c = true ∨ (c = 45 ∧ ∃ d u, t = d :: u ∧ dgB d = true) := by
  obtain ⟨d, u, hd, e | e⟩ := itoa_shape n
  · rw [e] at h
    cases h
    exact .inl (hd _ (by simp))
  · rw [e] at h
    cases h
    exact .inr ⟨rfl, d, u, rfl, hd _ (by simp)⟩
theorem dg_inn {c : UInt8} (h : dgB c = true) : inn c = true := by
  have := dgB_nat.1 h
  simp only [inn, innerZ, decide_eq_true_eq]
  omega
theorem dg_97 {c : UInt8} (h : dgB c = true) : ¬ 97 ≤ c := by
  have := dgB_nat.1 h
  rw [UInt8.le_iff_toNat_le]
  show ¬ 97 ≤ c.toNat
  omega
theorem dg_ne {c : UInt8} (h : dgB c = true) : c ≠ 34 ∧ c ≠ 45 ∧ c ≠ 95 ∧ c ≠ 40 ∧ c ≠ 41 ∧ c ≠ 58 ∧ c ≠ 60 ∧ c ≠ 61 ∧ c ≠ 62 := by
  refine ⟨?_, ?_, ?_, ?_, ?_, ?_, ?_, ?_, ?_⟩ <;> (rintro rfl; revert h; decide)
theorem name_c {c : UInt8} {t : Bs} (h : nameOK (c :: t) = true) : 97 ≤ c ∧ inn c = true := by
  simp only [nameOK, Bool.and_eq_true, List.all_cons, smallZ, decide_eq_true_eq] at h
  refine ⟨?_, h.2.1⟩
  rw [UInt8.le_iff_toNat_le]
  show 97 ≤ c.toNat
  omega
theorem wl_inn {c : UInt8} (t : Bs) (h : inn c = true) : wordLen (c :: t) = 1 + (t.takeWhile inn).length := by
  cases t with
  | nil => rfl
  | cons d u =>
    simp only [wordLen]
    rw [if_neg (by simp [(inn_not h).1, (inn_not h).2.1]), if_pos (by simp [h])]
theorem wl_minus (t : Bs) : wordLen (45 :: t) = match t with
    | [] => 1
    | d :: u => if dgB d = true then 1 + (t.takeWhile inn).length else 1 := by
  cases t with
  | nil => rfl
  | cons d u =>
    simp only [wordLen]
    rw [if_neg (by simp)]
    have e : inn 45 = false := by decide
    simp only [e, Bool.false_or, beq_self_eq_true, Bool.true_and]
    by_cases hd : dgB d = true
    · have hd' : digitZ (d.toNat : Int) = true := hd
      simp only [hd', hd, if_true]
    · have hd' : ¬ digitZ (d.toNat : Int) = true := hd
      simp [hd', hd]
theorem wl_quote (t : Bs) : wordLen (34 :: t) = 1 + qn t := by
  cases t with
  | nil => rfl
  | cons d u =>
    simp only [wordLen]
    rw [if_neg (by simp), if_neg (by simp; decide), if_pos trivial]
theorem wl_other {c : UInt8} (t : Bs) (h1 : inn c = false) (h2 : c ≠ 45) (h3 : c ≠ 34) : wordLen (c :: t) = if (c = 60 ∧ (t.head? = some 62 ∨ t.head? = some 61)) ∨ (c = 62 ∧ t.head? = some 61) then 2 else 1 := by
  cases t with
  | nil => simp [wordLen]
  | cons d u =>
    simp only [wordLen, List.head?_cons, Option.some.injEq]
    have e : ((c = 60 ∧ d = 62) ∨ (c = 60 ∧ d = 61) ∨ (c = 62 ∧ d = 61)) ↔ ((c = 60 ∧ (d = 62 ∨ d = 61)) ∨ (c = 62 ∧ d = 61)) := by
      constructor
      · rintro (⟨h, h'⟩ | ⟨h, h'⟩ | h)
        · exact .inl ⟨h, .inl h'⟩
        · exact .inl ⟨h, .inr h'⟩
        · exact .inr h
      · rintro (⟨h, h' | h'⟩ | h)
        · exact .inl ⟨h, h'⟩
        · exact .inr (.inl ⟨h, h'⟩)
        · exact .inr (.inr h)
    simp only [e]
    have h2' : (c == 45) = false := by simpa using h2
    split
    · rfl
    · simp [h1, h2', h3]
theorem rQ_len {t l rest : Bs} (h : rQ t = some (l, rest)) : t.length - rest.length = qn t := by
  have e := rQ_some _ (Nat.le_refl _) h
  have : qn t = (escL l).length + 1 := by rw [e]; exact qn_app (qn_escL l)
  rw [this, e]
  simp
  omega
/-- Where the reference finds a word the program finds the same. -/
theorem step_len {r : Bs} {n : Nat} (h : stepR r = some n) : n = wordLen r := by
  cases r with
  | nil => cases h
  | cons c t =>
    rw [stepR_c] at h
    split at h
    · rename_i hc
      simp only [Bool.and_eq_true] at hc
      rw [wl_inn t hc.1]
      split at h
      · split at h
        · cases h; rfl
        · cases h
      · split at h
        · cases h; rfl
        · cases h
    · rename_i hc
      split at h
      · rename_i h45
        subst h45
        split at h
        · rename_i hw
          cases h
          rw [wl_minus]
          have e := whole_itoa hw
          rcases itoa_c e.symm with h1 | ⟨_, d, u, h2, h3⟩
          · exact absurd rfl (dg_ne h1).2.1
          · cases t with
            | nil => simp at h2
            | cons d' u' =>
              have : d' = d := by
                rw [List.takeWhile_cons] at h2
                split at h2
                · cases h2; rfl
                · cases h2
              subst this
              simp only [h3, if_true]
        · cases h
      · rename_i h45
        split at h
        · rename_i h34
          subst h34
          cases hq : rQ t with
          | none => rw [hq] at h; cases h
          | some q =>
            obtain ⟨l, rest⟩ := q
            rw [hq] at h
            cases h
            rw [wl_quote]
            show 1 + (t.length - rest.length) = 1 + qn t
            rw [rQ_len hq]
        · rename_i h34
          by_cases hi : inn c = true
          · have h95 : c = 95 := by simpa [hi] using hc
            subst h95
            split at h
            · rename_i hx; simp at hx
            · split at h
              · rename_i hx; simp at hx
              · cases h
          · rw [wl_other t (by simpa using hi) h45 h34]
            split at h
            · rename_i hx
              cases h
              rw [if_pos hx]
            · rename_i hx
              rw [if_neg hx]
              split at h
              · cases h; rfl
              · cases h
/-- Where the reference finds no word, the program's word is one that it cannot take. -/
theorem step_none {r : Bs} (hr : r ≠ []) (h : stepR r = none) : tokOK (r.take (wordLen r)) = false := by
  rw [Bool.eq_false_iff]
  intro hk
  cases r with
  | nil => exact hr rfl
  | cons c t =>
    have hsome : ∀ {n}, stepR (c :: t) = some n → False := fun e => by rw [h] at e; cases e
    obtain ⟨m, hm⟩ : ∃ m, wordLen (c :: t) = m + 1 := ⟨wordLen (c :: t) - 1, by have := wordLen_pos (r := c :: t) (by simp); omega⟩
    rw [hm, List.take_succ_cons] at hk
    simp only [tokOK, Bool.or_eq_true, beq_iff_eq] at hk
    rcases hk with ((((hk | hk) | hk) | hk) | hk) | hk
    · simp only [List.cons.injEq] at hk
      obtain ⟨rfl, _⟩ := hk
      refine hsome (n := 1) ?_
      rw [stepR_c]
      rw [if_neg (by decide), if_neg (by decide), if_neg (by decide), if_neg (by simp), if_pos (by simp)]
    · simp only [List.cons.injEq] at hk
      obtain ⟨rfl, _⟩ := hk
      refine hsome (n := 1) ?_
      rw [stepR_c]
      rw [if_neg (by decide), if_neg (by decide), if_neg (by decide), if_neg (by simp), if_pos (by simp)]
    · simp only [List.cons.injEq] at hk
      obtain ⟨rfl, _⟩ := hk
      refine hsome (n := 1) ?_
      rw [stepR_c]
      rw [if_neg (by decide), if_neg (by decide), if_neg (by decide), if_neg (by simp), if_pos (by simp)]
    · have hcc : c = 61 ∨ c = 60 ∨ c = 62 := by
        rcases isRel_cases hk with e | e | e | e | e | e <;> (simp only [List.cons.injEq] at e; simp [e.1])
      rw [stepR_c] at h
      rcases hcc with rfl | rfl | rfl
      · rw [if_neg (by decide), if_neg (by decide), if_neg (by decide), if_neg (by simp), if_pos (by simp)] at h
        cases h
      · rw [if_neg (by decide), if_neg (by decide), if_neg (by decide)] at h
        split at h
        · cases h
        · rw [if_pos (by simp)] at h; cases h
      · rw [if_neg (by decide), if_neg (by decide), if_neg (by decide)] at h
        split at h
        · cases h
        · rw [if_pos (by simp)] at h; cases h
    · obtain ⟨h97, hi⟩ := name_c hk
      have hw := wl_inn t hi
      have hm2 : m = (t.takeWhile inn).length := by omega
      have e : t.take m = t.takeWhile inn := by
        rw [hm2]
        exact take_tw _
      rw [e] at hk
      have h95 : (c != 95) = true := by
        rw [bne_iff_ne]
        rintro rfl
        revert h97; decide
      refine hsome (n := 1 + (t.takeWhile inn).length) ?_
      rw [stepR_c]
      rw [if_pos (by simp [hi]; simpa using h95), if_pos h97, if_pos hk]
    · rcases lit_tok hk with ⟨n, h0, h1, hn⟩ | ⟨l, hl⟩
      · rcases itoa_c hn.symm with hd | ⟨rfl, d, u, hu, hd⟩
        · have hi := dg_inn hd
          have hw := wl_inn t hi
          have hm2 : m = (t.takeWhile inn).length := by omega
          have e : t.take m = t.takeWhile inn := by
            rw [hm2]
            exact take_tw _
          rw [e] at hn
          have hwh : rWhole (c :: t.takeWhile inn) = true := by rw [hn]; exact whole_of h0 h1
          refine hsome (n := 1 + (t.takeWhile inn).length) ?_
          rw [stepR_c]
          rw [if_pos (by simp [hi, (dg_ne hd).2.2.1]), if_neg (dg_97 hd), if_pos hwh]
        · have hw := wl_minus t
          cases t with
          | nil => simp at hu
          | cons d' u' =>
            have hm1 : 1 ≤ m := by
              cases m with
              | zero => simp at hu
              | succ m => omega
            obtain ⟨m, rfl⟩ : ∃ k, m = k + 1 := ⟨m - 1, by omega⟩
            rw [List.take_succ_cons] at hu hn
            simp only [List.cons.injEq] at hu
            obtain ⟨rfl, hu2⟩ := hu
            simp only [hd, if_true] at hw
            have hm2 : m + 1 = ((d' :: u').takeWhile inn).length := by omega
            have e : (d' :: u').take (m + 1) = (d' :: u').takeWhile inn := by
              rw [hm2]
              exact take_tw _
            rw [List.take_succ_cons] at e
            rw [e] at hn
            have hwh : rWhole (45 :: (d' :: u').takeWhile inn) = true := by rw [hn]; exact whole_of h0 h1
            refine hsome (n := 1 + ((d' :: u').takeWhile inn).length) ?_
            rw [stepR_c]
            rw [if_neg (by decide), if_pos rfl, if_pos hwh]
      · have hc : c = 34 := by unfold quoted at hl; simp only [List.cons.injEq] at hl; exact hl.1
        subst hc
        have ht : t.take m = escL l ++ [34] := by unfold quoted at hl; simp only [List.cons.injEq] at hl; exact hl.2
        have e : t = escL l ++ 34 :: t.drop m := by
          have := List.take_append_drop m t
          rw [ht] at this
          conv => lhs; rw [← this]
          simp
        refine hsome (n := 1 + (t.length - (t.drop m).length)) ?_
        rw [stepR_c]
        rw [if_neg (by decide), if_neg (by decide), if_pos rfl]
        have : rQ t = some (l, t.drop m) := by
          conv => lhs; rw [e]
          exact rQ_escL l _
        rw [this]
        rfl
theorem split_some : ∀ (f : Nat) {r : Bs} {L : List Bs}, r.length ≤ f → splitF f r = some L → L = toks r
  | 0, r, L, hf, h => by
    have : r = [] := List.eq_nil_of_length_eq_zero (by omega)
    subst this
    cases h
    rfl
  | f + 1, r, L, hf, h => by
    rw [toks_eq]
    unfold splitF at h
    split at h
    · rename_i h0
      cases h
      rw [if_pos h0]
    · rename_i h0
      rw [if_neg h0]
      cases hs : stepR (dropB r) with
      | none => rw [hs] at h; cases h
      | some n =>
        rw [hs] at h
        have hn := step_len hs
        subst hn
        have h1 := wordLen_pos h0
        have h2 := dropB_le r
        have h3 : ((dropB r).drop (wordLen (dropB r))).length ≤ (dropB r).length - 1 := by rw [List.length_drop]; omega
        simp only at h
        cases hr : splitF f ((dropB r).drop (wordLen (dropB r))) with
        | none => rw [hr] at h; cases h
        | some L' =>
          rw [hr] at h
          cases h
          rw [split_some f (by omega) hr]
theorem split_none : ∀ (f : Nat) {r : Bs}, r.length ≤ f → splitF f r = none → ∃ t ∈ toks r, tokOK t = false
  | 0, r, hf, h => by cases h
  | f + 1, r, hf, h => by
    rw [toks_eq]
    unfold splitF at h
    split at h
    · cases h
    · rename_i h0
      rw [if_neg h0]
      cases hs : stepR (dropB r) with
      | none => exact ⟨_, by simp, step_none h0 hs⟩
      | some n =>
        rw [hs] at h
        have hn := step_len hs
        subst hn
        have h1 := wordLen_pos h0
        have h2 := dropB_le r
        have h3 : ((dropB r).drop (wordLen (dropB r))).length ≤ (dropB r).length - 1 := by rw [List.length_drop]; omega
        simp only at h
        cases hr : splitF f ((dropB r).drop (wordLen (dropB r))) with
        | none =>
          obtain ⟨t, ht, hb⟩ := split_none f (by omega) hr
          exact ⟨t, by simp [ht], hb⟩
        | some L' => rw [hr] at h; cases h
/-! What is read is right, and all words that were taken can be taken. -/
def Used (T T' : List Bs) : Prop := ∃ U, T = U ++ T' ∧ ∀ t ∈ U, tokOK t = true
theorem Used.refl (T : List Bs) : Used T T := ⟨[], rfl, fun t h => by cases h⟩
theorem Used.trans {A B C : List Bs} (h : Used A B) (k : Used B C) : Used A C := by
  obtain ⟨U, h1, h2⟩ := h
  obtain ⟨V, k1, k2⟩ := k
  exact ⟨U ++ V, by rw [h1, k1, List.append_assoc], fun t ht => (List.mem_append.1 ht).elim (h2 t) (k2 t)⟩
theorem Used.head {T T' : List Bs} {w : Bs} (hw : tokOK w = true) (hne : w ≠ []) (h : hd T = w) (k : Used T.tail T') : Used T T' := by
  cases T with
  | nil => exact absurd h.symm hne
  | cons t u =>
    obtain ⟨U, h1, h2⟩ := k
    rw [List.tail_cons] at h1
    refine ⟨t :: U, by rw [h1]; rfl, fun x hx => ?_⟩
    rcases List.mem_cons.1 hx with rfl | hx
    · have : hd (x :: u) = x := rfl
      rw [← this, h]
      exact hw
    · exact h2 x hx
theorem tok_name {t : Bs} (h : nameOK t = true) : tokOK t = true := by simp [tokOK, h]
theorem pTerm_good : ∀ {T : List Bs} {x : Trm} {T' : List Bs}, pTerm T = some (x, T') → OkT x ∧ Used T T'
  | [], _, _, h => by cases h
  | t :: T, x, T', h => by
    unfold pTerm at h
    split at h
    · rename_i h58
      subst h58
      split at h
      · rename_i a T2 hp
        have ih := pTerm_good hp
        split at h
        · cases h
        · cases h
          exact ⟨ih.1, ih.2.head (w := [58]) rfl (by simp) rfl⟩
      · cases h
    · split at h
      · rename_i hn
        cases h
        simp only [Bool.and_eq_true, Bool.not_eq_true'] at hn
        exact ⟨hn, ⟨[t], rfl, fun x hx => by simp at hx; subst hx; exact tok_name hn.1⟩⟩
      · cases hl : litI t with
        | none => rw [hl] at h; cases h
        | some y =>
          rw [hl] at h
          cases h
          exact ⟨(lit_of hl).1, ⟨[t], rfl, fun x hx => by simp at hx; subst hx; simp [tokOK, hl]⟩⟩
abbrev GoodP (f : List Bs → Int → PRes) : Prop := ∀ (T : List Bs) (d : Int) (n : Nd) (T' : List Bs) (d' : Int), f T d = some (n, T', d') → OkN n ∧ Used T T'
theorem pMore_good {side : List Bs → Int → PRes} (hs : GoodP side) {w : Bs} (hw : nameOK w = true) {op : Int} (ho : op = 1 ∨ op = 2) : ∀ {f : Nat} {n0 : Nd} {T : List Bs} {d : Int} {n : Nd} {T' : List Bs} {d' : Int}, OkN n0 → pMore side w op f n0 T d = some (n, T', d') → OkN n ∧ Used T T'
  | 0, _, _, _, _, _, _, _, h => by cases h
  | f + 1, n0, T, d, n, T', d', h0, h => by
    unfold pMore at h
    split at h
    · rename_i hh
      split at h
      · rename_i m T1 d1 hp
        have h1 := hs _ _ _ _ _ hp
        have h2 := pMore_good hs hw ho (n0 := .pair op n0 m) ⟨ho, h0, h1.1⟩ h
        exact ⟨h2.1, (h1.2.trans h2.2).head (tok_name hw) (by rintro rfl; cases hw) hh⟩
      · cases h
    · cases h
      exact ⟨h0, .refl _⟩
theorem pMany_good {side : List Bs → Int → PRes} (hs : GoodP side) {w : Bs} (hw : nameOK w = true) {op : Int} (ho : op = 1 ∨ op = 2) : GoodP (pMany side w op) := by
  intro T d n T' d' h
  unfold pMany at h
  split at h
  · rename_i m T1 d1 hp
    have h1 := hs _ _ _ _ _ hp
    have h2 := pMore_good hs hw ho h1.1 h
    exact ⟨h2.1, h1.2.trans h2.2⟩
  · cases h
theorem pNot_good {prim : Int → List Bs → Int → PRes} (hp : ∀ lv, GoodP (prim lv)) (lv : Int) : GoodP (pNot prim lv) := by
  intro T d n T' d' h
  unfold pNot at h
  split at h
  · rename_i hh
    cases hr : prim (lv + 1) T.tail (max d (lv + 1)) with
    | none => rw [hr] at h; cases h
    | some r =>
      obtain ⟨m, T1, d1⟩ := r
      rw [hr] at h
      cases h
      have := hp _ _ _ _ _ _ hr
      exact ⟨this.1, this.2.head (w := wNot) (by decide) (by simp) hh⟩
  · exact hp _ _ _ _ _ _ h
theorem pOr_good {prim : Int → List Bs → Int → PRes} (hp : ∀ lv, GoodP (prim lv)) (lv : Int) : GoodP (pOr prim lv) := pMany_good (pMany_good (pNot_good hp lv) (by decide) (.inr rfl)) (by decide) (.inl rfl)
theorem pPrim_good : ∀ (k : Nat) (lv : Int), GoodP (pPrim k lv)
  | 0, lv => by intro T d n T' d' h; cases h
  | k + 1, lv => by
    intro T d n T' d' h
    unfold pPrim at h
    split at h
    · rename_i hh
      cases h
      exact ⟨trivial, (Used.refl _).head (w := wTrue) (by decide) (by simp) hh⟩
    · split at h
      · rename_i hh
        cases h
        exact ⟨trivial, (Used.refl _).head (w := wFalse) (by decide) (by simp) hh⟩
      · split at h
        · rename_i hh
          split at h
          · rename_i m T1 d1 hp
            have := pOr_good (fun lv => pPrim_good k lv) _ _ _ _ _ _ hp
            split at h
            · rename_i hc
              cases h
              exact ⟨this.1, (this.2.trans ((Used.refl _).head (w := [41]) rfl (by simp) hc)).head (w := [40]) rfl (by simp) hh⟩
            · cases h
          · cases h
        · split at h
          · cases h
          · rename_i a T1 hp
            have h1 := pTerm_good hp
            split at h
            · rename_i hrel
              split at h
              · cases h
              · rename_i b T2 hp2
                have h2 := pTerm_good hp2
                cases h
                refine ⟨⟨hrel, h1.1, h2.1⟩, h1.2.trans (h2.2.head (w := hd T1) (by simp [tokOK, hrel]) ?_ rfl)⟩
                intro e
                rw [e] at hrel
                revert hrel
                decide
            · cases h
/-- A whole text as the program reads it: the words T, to their end. -/
def rdAll (k : Nat) (T : List Bs) : Option (Nd × Int) := match pOr (pPrim k) 0 T 0 with
  | some (n, [], d) => some (n, d)
  | _ => none
theorem rdAll_good {k : Nat} {T : List Bs} {n : Nd} {d : Int} (h : rdAll k T = some (n, d)) : OkN n ∧ ∀ t ∈ T, tokOK t = true := by
  unfold rdAll at h
  split at h
  · rename_i n' d' hp
    cases h
    obtain ⟨h1, U, h2, h3⟩ := pOr_good (fun lv => pPrim_good _ lv) _ _ _ _ _ _ hp
    rw [List.append_nil] at h2
    exact ⟨h1, by rw [h2]; exact h3⟩
  · cases h
/-- The reference reads what the program reads. -/
theorem split_rd (k : Nat) (s : Bs) : (match rSplit s with | none => none | some L => rdAll k L) = rdAll k (toks s) := by
  cases h : rSplit s with
  | some L => rw [split_some _ (Nat.le_refl _) h]
  | none =>
    obtain ⟨t, ht, hb⟩ := split_none _ (Nat.le_refl _) h
    cases hr : rdAll k (toks s) with
    | none => rfl
    | some r =>
      obtain ⟨n, d⟩ := r
      have := (rdAll_good hr).2 t ht
      rw [hb] at this
      cases this
/-! How many parts what is read has. -/
def cn : Nd → Nat
  | .pair _ l r => cn l + cn r + 1
  | .no n => cn n + 1
  | _ => 1
abbrev CnP (f : List Bs → Int → PRes) : Prop := ∀ (T : List Bs) (d : Int) (n : Nd) (T' : List Bs) (d' : Int), f T d = some (n, T', d') → cn n + T'.length ≤ T.length
theorem pMore_cn {side : List Bs → Int → PRes} (hs : CnP side) {w : Bs} (hw : w ≠ []) {op : Int} : ∀ {f : Nat} {n0 : Nd} {T : List Bs} {d : Int} {n : Nd} {T' : List Bs} {d' : Int}, pMore side w op f n0 T d = some (n, T', d') → cn n + T'.length ≤ cn n0 + T.length
  | 0, _, _, _, _, _, _, h => by cases h
  | f + 1, n0, T, d, n, T', d', h => by
    unfold pMore at h
    split at h
    · rename_i hh
      split at h
      · rename_i m T1 d1 hp
        have h1 := hs _ _ _ _ _ hp
        have h2 := pMore_cn hs hw h
        cases T with
        | nil => exact absurd hh.symm hw
        | cons t u =>
          simp only [List.tail_cons, List.length_cons, cn] at h1 h2 ⊢
          omega
      · cases h
    · cases h
      exact Nat.le_refl _
theorem pMany_cn {side : List Bs → Int → PRes} (hs : CnP side) {w : Bs} (hw : w ≠ []) {op : Int} : CnP (pMany side w op) := by
  intro T d n T' d' h
  unfold pMany at h
  split at h
  · rename_i m T1 d1 hp
    have h1 := hs _ _ _ _ _ hp
    have h2 := pMore_cn hs hw h
    omega
  · cases h
theorem hd_cons {T : List Bs} {w : Bs} (hw : w ≠ []) (h : hd T = w) : T.tail.length + 1 = T.length := by
  cases T with
  | nil => exact absurd h.symm hw
  | cons t u => rfl
theorem pNot_cn {prim : Int → List Bs → Int → PRes} (hp : ∀ lv, CnP (prim lv)) (lv : Int) : CnP (pNot prim lv) := by
  intro T d n T' d' h
  unfold pNot at h
  split at h
  · rename_i hh
    have hl := hd_cons (by simp) hh
    cases hr : prim (lv + 1) T.tail (max d (lv + 1)) with
    | none => rw [hr] at h; cases h
    | some r =>
      obtain ⟨m, T1, d1⟩ := r
      rw [hr] at h
      cases h
      have := hp _ _ _ _ _ _ hr
      simp only [cn]
      omega
  · exact hp _ _ _ _ _ _ h
theorem pOr_cn {prim : Int → List Bs → Int → PRes} (hp : ∀ lv, CnP (prim lv)) (lv : Int) : CnP (pOr prim lv) := pMany_cn (pMany_cn (pNot_cn hp lv) (by simp)) (by simp)
theorem pPrim_cn : ∀ (k : Nat) (lv : Int), CnP (pPrim k lv)
  | 0, lv => by intro T d n T' d' h; cases h
  | k + 1, lv => by
    intro T d n T' d' h
    unfold pPrim at h
    split at h
    · rename_i hh
      have hl := hd_cons (by simp) hh
      cases h
      simp only [cn]
      omega
    · split at h
      · rename_i hh
        have hl := hd_cons (by simp) hh
        cases h
        simp only [cn]
        omega
      · split at h
        · rename_i hh
          have hl := hd_cons (by simp) hh
          split at h
          · rename_i m T1 d1 hp
            have := pOr_cn (fun lv => pPrim_cn k lv) _ _ _ _ _ _ hp
            split at h
            · cases h
              have : T1.tail.length ≤ T1.length := by simp
              omega
            · cases h
          · cases h
        · split at h
          · cases h
          · rename_i a T1 hp
            have h1 := pTerm_len hp
            split at h
            · split at h
              · cases h
              · rename_i b T2 hp2
                have h2 := pTerm_len hp2
                have : T1.tail.length ≤ T1.length := by simp
                cases h
                simp only [cn]
                omega
            · cases h
theorem rdAll_cn {k : Nat} {T : List Bs} {n : Nd} {d : Int} (h : rdAll k T = some (n, d)) : cn n ≤ T.length := by
  unfold rdAll at h
  split at h
  · rename_i n' d' hp
    cases h
    exact pOr_cn (fun lv => pPrim_cn _ lv) _ _ _ _ _ _ hp
  · cases h
end Go.Proofs.YtpmheafccfnfjaaGreatDoor
namespace Go.Proofs.YtpmheafccfnfjaaGreatDoor
open Go Go.RowKit
abbrev zPair : Value := .agg #[.int .i64 0, .nilIface, .nilIface]
abbrev zNo : Value := .agg #[.nilIface]
abbrev zTest : Value := .agg #[.string ⟨#[]⟩, .string ⟨#[]⟩, .bool false, .int .i64 0, .int .i64 0, .string ⟨#[]⟩, .string ⟨#[]⟩, .bool false, .int .i64 0, .int .i64 0, .string ⟨#[]⟩]
abbrev zTruth : Value := .agg #[.bool false]
section
variable (v : Value) (w : World)
@[go_sem] theorem ta_pp : (Instr.typeAssert (.iface 134 v) 61 134 true).run Tryz.prog w = .ok (.tuple #[v, .bool true]) w := by kernel_rfl
@[go_sem] theorem ta_np : (Instr.typeAssert (.iface 88 v) 61 134 true).run Tryz.prog w = .ok (.tuple #[zPair, .bool false]) w := by kernel_rfl
@[go_sem] theorem ta_tp : (Instr.typeAssert (.iface 117 v) 61 134 true).run Tryz.prog w = .ok (.tuple #[zPair, .bool false]) w := by kernel_rfl
@[go_sem] theorem ta_up : (Instr.typeAssert (.iface 140 v) 61 134 true).run Tryz.prog w = .ok (.tuple #[zPair, .bool false]) w := by kernel_rfl
@[go_sem] theorem ta_pn : (Instr.typeAssert (.iface 134 v) 61 88 true).run Tryz.prog w = .ok (.tuple #[zNo, .bool false]) w := by kernel_rfl
@[go_sem] theorem ta_nn : (Instr.typeAssert (.iface 88 v) 61 88 true).run Tryz.prog w = .ok (.tuple #[v, .bool true]) w := by kernel_rfl
@[go_sem] theorem ta_tn : (Instr.typeAssert (.iface 117 v) 61 88 true).run Tryz.prog w = .ok (.tuple #[zNo, .bool false]) w := by kernel_rfl
@[go_sem] theorem ta_un : (Instr.typeAssert (.iface 140 v) 61 88 true).run Tryz.prog w = .ok (.tuple #[zNo, .bool false]) w := by kernel_rfl
@[go_sem] theorem ta_pt : (Instr.typeAssert (.iface 134 v) 61 117 true).run Tryz.prog w = .ok (.tuple #[zTest, .bool false]) w := by kernel_rfl
@[go_sem] theorem ta_nt : (Instr.typeAssert (.iface 88 v) 61 117 true).run Tryz.prog w = .ok (.tuple #[zTest, .bool false]) w := by kernel_rfl
@[go_sem] theorem ta_tt : (Instr.typeAssert (.iface 117 v) 61 117 true).run Tryz.prog w = .ok (.tuple #[v, .bool true]) w := by kernel_rfl
@[go_sem] theorem ta_ut : (Instr.typeAssert (.iface 140 v) 61 117 true).run Tryz.prog w = .ok (.tuple #[zTest, .bool false]) w := by kernel_rfl
@[go_sem] theorem ta_pu : (Instr.typeAssert (.iface 134 v) 61 140 true).run Tryz.prog w = .ok (.tuple #[zTruth, .bool false]) w := by kernel_rfl
@[go_sem] theorem ta_nu : (Instr.typeAssert (.iface 88 v) 61 140 true).run Tryz.prog w = .ok (.tuple #[zTruth, .bool false]) w := by kernel_rfl
@[go_sem] theorem ta_tu : (Instr.typeAssert (.iface 117 v) 61 140 true).run Tryz.prog w = .ok (.tuple #[zTruth, .bool false]) w := by kernel_rfl
@[go_sem] theorem ta_uu : (Instr.typeAssert (.iface 140 v) 61 140 true).run Tryz.prog w = .ok (.tuple #[v, .bool true]) w := by kernel_rfl
@[go_sem] theorem ml_p : (method 368 134 v "ringwork/cond.level").run Tryz.prog w = .ok (248, v) w := by kernel_rfl
@[go_sem] theorem ml_n : (method 368 88 v "ringwork/cond.level").run Tryz.prog w = .ok (246, v) w := by kernel_rfl
@[go_sem] theorem ml_t : (method 368 117 v "ringwork/cond.level").run Tryz.prog w = .ok (247, v) w := by kernel_rfl
@[go_sem] theorem ml_u : (method 368 140 v "ringwork/cond.level").run Tryz.prog w = .ok (249, v) w := by kernel_rfl
end
theorem lev_p (op : Int) (tl tr : TypeId) (l r : Value) (w : World) : Calls Tryz.prog 248 #[.agg #[.int .i64 op, .iface tl l, .iface tr r]] w (Ret w (.int .i64 op)) := by
  go_enter Tryz.func248, Tryz.ntmps248
  go_wp2
  go_ret
  exact ret_of rfl ((Kp.refl _).alloc _)
theorem lev_n (v : Value) (w : World) : Calls Tryz.prog 246 #[v] w (Ret w (.int .i64 3)) := by
  go_enter Tryz.func246, Tryz.ntmps246
  go_wp2
  all_goals (go_ret; exact ret_of rfl ((Kp.refl _).alloc _))
theorem lev_t (v : Value) (w : World) : Calls Tryz.prog 247 #[v] w (Ret w (.int .i64 4)) := by
  go_enter Tryz.func247, Tryz.ntmps247
  go_wp2
  all_goals (go_ret; exact ret_of rfl ((Kp.refl _).alloc _))
theorem lev_u (v : Value) (w : World) : Calls Tryz.prog 249 #[v] w (Ret w (.int .i64 4)) := by
  go_enter Tryz.func249, Tryz.ntmps249
  go_wp2
  all_goals (go_ret; exact ret_of rfl ((Kp.refl _).alloc _))
theorem rowis_one {w : World} {b : Nat} {x : Vl} (h : w.heap[b]? = some (.cells #[.int .i64 x.k, .int .i64 x.n, .string x.s] 53 (0, 0))) : RowIs w (.slice (some ⟨b, 0, none⟩) 1 1) [x] := by
  refine ⟨by simp, _, 1, rfl, .inr ⟨b, 0, rfl, (Array.getElem?_eq_some_iff.1 h).1, fun j hj => ?_⟩⟩
  have : j = 0 := by simpa using hj
  subst this
  refine ⟨?_, ?_, ?_⟩ <;> (rw [Lib.cell_of_heap h]; rfl)
theorem text_nm (a : Bs) (ha : a ≠ []) (k n : Int) (s : ByteArray) (w : World) : Calls Tryz.prog 90 #[tm5 (st a) false k n s] w (Ret w (.string (st a))) := by
  have h0 : ((st a).toList == []) = false := by rw [st_list']; simpa using ha
  generalize st a = q at *
  clear ha
  go_enter Tryz.func90, Tryz.ntmps90
  go_wp2
  go_ret
  exact ret_of rfl ((Kp.refl _).alloc _)
theorem heap_new2 (w : World) (o1 o2 : Obj) : ((w.alloc o1).alloc o2).heap[w.heap.size + 1]? = some o2 := by
  have := World.alloc_heap_new (w.alloc o1) o2
  simpa using this
theorem text_vr (a : ByteArray) (ha : a.size ≤ 1000000) (k n : Int) (s : ByteArray) (w : World) : Calls Tryz.prog 90 #[tm5 a true k n s] w (Ret w (.string (⟨#[58]⟩ ++ a))) := by
  go_enter Tryz.func90, Tryz.ntmps90
  go_wp2
  go_ret
  exact ret_of rfl ((Kp.refl _).alloc _)
theorem text_vl (x : Vl) (hx : x.ok = true) (w : World) (hg : Glob w) : Calls Tryz.prog 90 #[tm5 ⟨#[]⟩ false x.k x.n x.s] w (Ret w (.string (st (wrB x)))) := by
  have e : textR [x] = st (wrB x) := toList_inj (by rw [textR_one hx, st_list'])
  have HT := Lib.hid (fun (W : World) (b : Nat) (h : W.heap[b]? = some (.cells #[.int .i64 x.k, .int .i64 x.n, .string x.s] 53 (0, 0))) (hg : Glob W) => by
    have := text_ret [x] _ W (rowis_one h) hg
    rw [e] at this
    exact this)
  have h0 : ((⟨#[]⟩ : ByteArray).toList == []) = true := by rw [toList_data]; rfl
  generalize st (wrB x) = q at *
  clear e hx
  go_enter Tryz.func90, Tryz.ntmps90
  go_wp2_with (go_at_call 133; refine Calls_ret (HT.out _ _ (heap_new2 _ _ _) ((hg.alloc _).alloc _)) ?_; intro y1)
  go_ret
  exact ret_of rfl ((((Kp.refl _).alloc _).alloc _).more _)
theorem st_app (a b : Bs) : st a ++ st b = st (a ++ b) := toList_inj (by rw [toList_data, st_list', ByteArray.data_append]; simp [st])
theorem name_len {a : Bs} (h : nameOK a = true) : a.length ≤ 16 := by
  cases a with
  | nil => cases h
  | cons c t =>
    simp only [nameOK, Bool.and_eq_true, decide_eq_true_eq] at h
    exact h.1.1
/-- cond's terms: text. -/
theorem text_tm (x : Trm) (hx : OkT x) (w : World) (hg : Glob w) : Calls Tryz.prog 90 #[tm5 (tvA x) (tvB x) (tvK x) (tvN x) (tvS x)] w (Ret w (.string (st (tmB x)))) := by
  cases x with
  | nm a => exact text_nm a (name_ne hx.1).2.2 _ _ _ w
  | vr a =>
    have hl : (st a).size ≤ 1000000 := by
      rw [st_size]
      have := name_len hx.1
      omega
    have := text_vr (st a) hl 0 0 ⟨#[]⟩ w
    rw [show (⟨#[58]⟩ : ByteArray) = st [58] from rfl, st_app] at this
    exact this
  | vl x => exact text_vl x hx w hg
theorem tmB_len {x : Trm} (h : OkT x) : (tmB x).length ≤ 1000 := by
  cases x with
  | nm a => have := name_len h.1; simp only [tmB]; omega
  | vr a => have := name_len h.1; simp only [tmB, List.length_cons]; omega
  | vl x =>
    have := wrX_len (x := x) h
    rw [← size_data] at this
    exact this
theorem shB_len (least lv : Int) (p : Bs) : (shB least lv p).length ≤ p.length + 2 := by
  unfold shB
  split <;> simp
theorem plB_len : ∀ {n : Nd}, OkN n → (plB n).length + 2 ≤ 3000 * cn n
  | .pair op l r, h => by
    have h1 := plB_len h.2.1
    have h2 := plB_len h.2.2
    have h3 := shB_len op (lvl l) (plB l)
    have h4 := shB_len op (lvl r) (plB r)
    have h5 : (cw op).length ≤ 3 := by unfold cw; split <;> simp
    simp only [plB, cn, List.length_append, List.length_cons]
    omega
  | .no n, h => by
    have h1 := plB_len (n := n) h
    have h3 := shB_len 4 (lvl n) (plB n)
    simp only [plB, cn, List.length_append, List.length_cons, List.length_nil]
    omega
  | .test op a b, h => by
    have h1 := tmB_len h.2.1
    have h2 := tmB_len h.2.2
    have h3 : op.length ≤ 2 := by rcases isRel_cases h.1 with e | e | e | e | e | e <;> simp [e]
    simp only [plB, cn, List.length_append, List.length_cons]
    omega
  | .truth b, h => by cases b <;> simp [plB, cn]
end Go.Proofs.YtpmheafccfnfjaaGreatDoor
namespace Go.Proofs.YtpmheafccfnfjaaGreatDoor
open Go Go.RowKit
/-- A call with fixed arguments hands back v, in every world that holds w. -/
abbrev Fix (f : FuncId) (args : Array Value) (w : World) (v : Value) : Prop := Hid (∀ W, Kp w W → Calls Tryz.prog f args W (Ret W v))
theorem show_p (op : Int) (tl tr : TypeId) (l r : Value) (P : ByteArray) (hP : P.size ≤ 1000000000) (least : Int) (w : World) (hp : Calls Tryz.prog 94 #[.iface 134 (.agg #[.int .i64 op, .iface tl l, .iface tr r])] w (Ret w (.string P))) :
    Calls Tryz.prog 137 #[.iface 134 (.agg #[.int .i64 op, .iface tl l, .iface tr r]), .int .i64 least] w (Ret w (.string (if op < least then (⟨#[40]⟩ ++ P) ++ ⟨#[41]⟩ else P))) := by
  have HP := Lib.hid hp
  clear hp
  by_cases h : op < least
  · rw [if_pos h]
    go_enter Tryz.func137, Tryz.ntmps137
    go_wp2_with (first | (go_at_call 94; refine Calls_ret HP.out ?_; intro y1) | (go_at_call 248; refine Calls_ret (lev_p _ _ _ _ _ _) ?_; intro y2))
    go_ret
    exact ret_of rfl (kp_xt _ _)
  · rw [if_neg h]
    go_enter Tryz.func137, Tryz.ntmps137
    go_wp2_with (first | (go_at_call 94; refine Calls_ret HP.out ?_; intro y1) | (go_at_call 248; refine Calls_ret (lev_p _ _ _ _ _ _) ?_; intro y2))
    go_ret
    exact ret_of rfl (kp_xt _ _)
theorem show_n (v : Value) (P : ByteArray) (hP : P.size ≤ 1000000000) (least : Int) (w : World) (hp : Calls Tryz.prog 94 #[.iface 88 (v)] w (Ret w (.string P))) :
    Calls Tryz.prog 137 #[.iface 88 (v), .int .i64 least] w (Ret w (.string (if 3 < least then (⟨#[40]⟩ ++ P) ++ ⟨#[41]⟩ else P))) := by
  have HP := Lib.hid hp
  clear hp
  by_cases h : 3 < least
  · rw [if_pos h]
    go_enter Tryz.func137, Tryz.ntmps137
    go_wp2_with (first | (go_at_call 94; refine Calls_ret HP.out ?_; intro y1) | (go_at_call 246; refine Calls_ret (lev_n _ _) ?_; intro y2))
    go_ret
    exact ret_of rfl (kp_xt _ _)
  · rw [if_neg h]
    go_enter Tryz.func137, Tryz.ntmps137
    go_wp2_with (first | (go_at_call 94; refine Calls_ret HP.out ?_; intro y1) | (go_at_call 246; refine Calls_ret (lev_n _ _) ?_; intro y2))
    go_ret
    exact ret_of rfl (kp_xt _ _)
theorem show_t (v : Value) (P : ByteArray) (hP : P.size ≤ 1000000000) (least : Int) (w : World) (hp : Calls Tryz.prog 94 #[.iface 117 (v)] w (Ret w (.string P))) :
    Calls Tryz.prog 137 #[.iface 117 (v), .int .i64 least] w (Ret w (.string (if 4 < least then (⟨#[40]⟩ ++ P) ++ ⟨#[41]⟩ else P))) := by
  have HP := Lib.hid hp
  clear hp
  by_cases h : 4 < least
  · rw [if_pos h]
    go_enter Tryz.func137, Tryz.ntmps137
    go_wp2_with (first | (go_at_call 94; refine Calls_ret HP.out ?_; intro y1) | (go_at_call 247; refine Calls_ret (lev_t _ _) ?_; intro y2))
    go_ret
    exact ret_of rfl (kp_xt _ _)
  · rw [if_neg h]
    go_enter Tryz.func137, Tryz.ntmps137
    go_wp2_with (first | (go_at_call 94; refine Calls_ret HP.out ?_; intro y1) | (go_at_call 247; refine Calls_ret (lev_t _ _) ?_; intro y2))
    go_ret
    exact ret_of rfl (kp_xt _ _)
theorem show_u (v : Value) (P : ByteArray) (hP : P.size ≤ 1000000000) (least : Int) (w : World) (hp : Calls Tryz.prog 94 #[.iface 140 (v)] w (Ret w (.string P))) :
    Calls Tryz.prog 137 #[.iface 140 (v), .int .i64 least] w (Ret w (.string (if 4 < least then (⟨#[40]⟩ ++ P) ++ ⟨#[41]⟩ else P))) := by
  have HP := Lib.hid hp
  clear hp
  by_cases h : 4 < least
  · rw [if_pos h]
    go_enter Tryz.func137, Tryz.ntmps137
    go_wp2_with (first | (go_at_call 94; refine Calls_ret HP.out ?_; intro y1) | (go_at_call 249; refine Calls_ret (lev_u _ _) ?_; intro y2))
    go_ret
    exact ret_of rfl (kp_xt _ _)
  · rw [if_neg h]
    go_enter Tryz.func137, Tryz.ntmps137
    go_wp2_with (first | (go_at_call 94; refine Calls_ret HP.out ?_; intro y1) | (go_at_call 249; refine Calls_ret (lev_u _ _) ?_; intro y2))
    go_ret
    exact ret_of rfl (kp_xt _ _)
theorem shB_st (least lv : Int) (p : Bs) : (if lv < least then (⟨#[40]⟩ ++ st p) ++ ⟨#[41]⟩ else st p : ByteArray) = st (shB least lv p) := by
  unfold shB
  split
  · rw [show (⟨#[40]⟩ : ByteArray) = st [40] from rfl, show (⟨#[41]⟩ : ByteArray) = st [41] from rfl, st_app, st_app]
    rfl
  · rfl
def PlOK (n : Nd) : Prop := ∀ w, Glob w → Calls Tryz.prog 94 #[nv n] w (Ret w (.string (st (plB n))))
/-- cond.show. -/
theorem show_ret {n : Nd} (h : PlOK n) (hP : (st (plB n)).size ≤ 1000000000) (least : Int) (w : World) (hg : Glob w) : Calls Tryz.prog 137 #[nv n, .int .i64 least] w (Ret w (.string (st (shB least (lvl n) (plB n))))) := by
  rw [← shB_st]
  have hp := h w hg
  cases n with
  | pair op l r =>
    obtain ⟨tl, vl, hl⟩ := nv_iface l
    obtain ⟨tr, vr, hr⟩ := nv_iface r
    rw [nv, hl, hr] at hp ⊢
    exact show_p op _ _ _ _ _ hP least w hp
  | no m => exact show_n _ _ hP least w hp
  | test op a b => exact show_t _ _ hP least w hp
  | truth v => exact show_u _ _ hP least w hp
set_option maxHeartbeats 1000000 in
set_option maxRecDepth 100000 in
theorem plain_pair (op : Int) (ho : op = 1 ∨ op = 2) (tl tr : TypeId) (vl vr : Value) (L R : ByteArray) (hL : L.size ≤ 1000000000) (hR : R.size ≤ 1000000000) (w : World)
    (HL : Fix 137 #[.iface tl vl, .int .i64 op] w (.string L)) (HR : Fix 137 #[.iface tr vr, .int .i64 op] w (.string R)) :
    Calls Tryz.prog 94 #[.iface 134 (.agg #[.int .i64 op, .iface tl vl, .iface tr vr])] w (Ret w (.string ((L ++ st (sepB op)) ++ R))) := by
  rcases ho with rfl | rfl
  · have e : st (sepB 1) = ⟨#[32, 111, 114, 32]⟩ := rfl
    rw [e]
    clear e
    go_enter Tryz.func94, Tryz.ntmps94
    go_wp2
    refine wp_region_xt (by kernel_rfl) (by kernel_rfl) ?_
    repeat (go_big_quiet_step (first | (with_reducible exact Calls_in (HL.out _ (((Kp.refl _).alloc _).more _))) | (with_reducible exact Calls_in (HR.out _ (((Kp.refl _).alloc _).more _)))))
    refine wpQuiet_nil ?_
    intro x1
    go_wp2
    go_ret
    exact ret_of rfl (((Kp.refl _).alloc _).more _)
  · have e : st (sepB 2) = ⟨#[32, 97, 110, 100, 32]⟩ := rfl
    rw [e]
    clear e
    go_enter Tryz.func94, Tryz.ntmps94
    go_wp2
    refine wp_region_xt (by kernel_rfl) (by kernel_rfl) ?_
    repeat (go_big_quiet_step (first | (with_reducible exact Calls_in (HL.out _ (((Kp.refl _).alloc _).more _))) | (with_reducible exact Calls_in (HR.out _ (((Kp.refl _).alloc _).more _)))))
    refine wpQuiet_nil ?_
    intro x1
    go_wp2
    go_ret
    exact ret_of rfl (((Kp.refl _).alloc _).more _)
theorem plain_no (t : TypeId) (v : Value) (L : ByteArray) (hL : L.size ≤ 1000000000) (w : World) (HL : Fix 137 #[.iface t v, .int .i64 4] w (.string L)) :
    Calls Tryz.prog 94 #[.iface 88 (.agg #[.iface t v])] w (Ret w (.string (⟨#[110, 111, 116, 32]⟩ ++ L))) := by
  go_enter Tryz.func94, Tryz.ntmps94
  go_wp2_with (go_at_call 137; refine Calls_ret (HL.out _ ((Kp.refl _).alloc _)) ?_; intro y1)
  go_ret
  exact ret_of rfl (((Kp.refl _).alloc _).more _)
set_option maxHeartbeats 1000000 in
set_option maxRecDepth 100000 in
theorem plain_test (op : ByteArray) (hop : op.size ≤ 1000000) (a1 s1 a2 s2 : ByteArray) (b1 b2 : Bool) (k1 n1 k2 n2 : Int) (L R : ByteArray) (hL : L.size ≤ 1000000000) (hR : R.size ≤ 1000000000) (w : World) (HL : Fix 90 #[tm5 a1 b1 k1 n1 s1] w (.string L)) (HR : Fix 90 #[tm5 a2 b2 k2 n2 s2] w (.string R)) :
    Calls Tryz.prog 94 #[.iface 117 (.agg #[.string op, .string a1, .bool b1, .int .i64 k1, .int .i64 n1, .string s1, .string a2, .bool b2, .int .i64 k2, .int .i64 n2, .string s2])] w (Ret w (.string ((((L ++ ⟨#[32]⟩) ++ op) ++ ⟨#[32]⟩) ++ R))) := by
  go_enter Tryz.func94, Tryz.ntmps94
  go_wp2
  refine wp_region_xt (by kernel_rfl) (by kernel_rfl) ?_
  repeat (go_big_quiet_step (first | (with_reducible exact Calls_in (HL.out _ (((Kp.refl _).alloc _).more _))) | (with_reducible exact Calls_in (HR.out _ (((Kp.refl _).alloc _).more _)))))
  refine wpQuiet_nil ?_
  intro x1
  go_wp2
  go_ret
  exact ret_of rfl (((Kp.refl _).alloc _).more _)
theorem plain_truth (b : Bool) (w : World) : Calls Tryz.prog 94 #[.iface 140 (.agg #[.bool b])] w (Ret w (.string (st (if b then wTrue else wFalse)))) := by
  cases b
  all_goals
    go_enter Tryz.func94, Tryz.ntmps94
    go_wp2
    go_ret
    exact ret_of rfl ((Kp.refl _).alloc _)
theorem sh_sz {n : Nd} (ok : OkN n) (hc : cn n ≤ 100000) (least : Int) : (st (shB least (lvl n) (plB n))).size ≤ 1000000000 ∧ (st (plB n)).size ≤ 1000000000 := by
  have := plB_len ok
  have := shB_len least (lvl n) (plB n)
  rw [st_size, st_size]
  omega
/-- cond.plain. -/
theorem plain_ret : ∀ {n : Nd}, OkN n → cn n ≤ 100000 → PlOK n
  | .pair op l r, ok, hc, w, hg => by
    simp only [cn] at hc
    have hl := show_ret (plain_ret ok.2.1 (by omega)) (sh_sz ok.2.1 (by omega) 0).2 op
    have hr := show_ret (plain_ret ok.2.2 (by omega)) (sh_sz ok.2.2 (by omega) 0).2 op
    rw [nv]
    obtain ⟨tl, vl, el⟩ := nv_iface l
    obtain ⟨tr, vr, er⟩ := nv_iface r
    rw [el] at hl ⊢
    rw [er] at hr ⊢
    have := plain_pair op ok.1 tl tr vl vr _ _ (sh_sz ok.2.1 (by omega) op).1 (sh_sz ok.2.2 (by omega) op).1 w (Lib.hid fun W k => hl W (hg.kp k)) (Lib.hid fun W k => hr W (hg.kp k))
    rw [st_app, st_app] at this
    rw [plB]
    simpa [sepB] using this
  | .no n, ok, hc, w, hg => by
    simp only [cn] at hc
    have hl := show_ret (plain_ret (n := n) ok (by omega)) (sh_sz (n := n) ok (by omega) 0).2 4
    rw [nv]
    obtain ⟨tl, vl, el⟩ := nv_iface n
    rw [el] at hl ⊢
    have := plain_no tl vl _ (sh_sz (n := n) ok (by omega) 4).1 w (Lib.hid fun W k => hl W (hg.kp k))
    rw [show (⟨#[110, 111, 116, 32]⟩ : ByteArray) = st [110, 111, 116, 32] from rfl, st_app] at this
    exact this
  | .test op a b, ok, hc, w, hg => by
    have h1 := tmB_len ok.2.1
    have h2 := tmB_len ok.2.2
    have h3 : op.length ≤ 2 := by rcases isRel_cases ok.1 with e | e | e | e | e | e <;> simp [e]
    have := plain_test (st op) (by rw [st_size]; omega) _ _ _ _ _ _ _ _ _ _ _ _ (by rw [st_size]; omega) (by rw [st_size]; omega) w (Lib.hid fun W k => text_tm a ok.2.1 W (hg.kp k)) (Lib.hid fun W k => text_tm b ok.2.2 W (hg.kp k))
    rw [show (⟨#[32]⟩ : ByteArray) = st [32] from rfl, st_app, st_app, st_app, st_app] at this
    rw [plB, nv]
    simpa using this
  | .truth b, ok, hc, w, hg => plain_truth b w
end Go.Proofs.YtpmheafccfnfjaaGreatDoor
