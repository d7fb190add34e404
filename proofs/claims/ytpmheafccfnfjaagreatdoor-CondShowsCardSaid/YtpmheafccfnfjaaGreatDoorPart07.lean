/- The reference's small functions: word, kept, Name, ValidValue, nibble. The reference's Number and Whole. The reference's Decimal. The reference's Quoted and Written. The reference's Quote. -/
import Derived.Deep.RegionHeld3
import Derived.Deep.AppendLies
import Derived.Lib.BufferRead
import Derived.Test.YtpmheafccfnfjaaGreatDoorPart06
set_option linter.unusedSimpArgs false
set_option linter.unusedVariables false
namespace Go.Proofs.YtpmheafccfnfjaaGreatDoor
open Go Go.RowKit
theorem rword_ret (c : Int) (w : World) : Calls Tryz.prog 123 #[.int .u8 c] w (Ret w (.bool (innerZ c))) := by
  by_cases h0 : 97 ≤ c <;> by_cases h1 : c ≤ 122 <;> by_cases h2 : 48 ≤ c <;> by_cases h3 : c ≤ 57 <;> by_cases h4 : (c == 95) = true
  all_goals
    go_enter Tryz.func123, Tryz.ntmps123
    go_wp2
    all_goals go_ret
    all_goals simp only [beq_iff_eq] at h4
    all_goals exact ret_of (v_bool (by rw [Bool.eq_iff_iff]; simp [innerZ]; omega)) (Kp.refl _)
set_option maxRecDepth 100000 in
theorem rkept_ret (t : Bs) (w : World) : Calls Tryz.prog 71 #[.string (st t)] w (Ret w (.bool (keptB t))) := by
  have hq : keptB t = ((((st t).toList == [97, 110, 100]) || ((st t).toList == [111, 114]) || ((st t).toList == [110, 111, 116]) || ((st t).toList == [116, 114, 117, 101]) || ((st t).toList == [102, 97, 108, 115, 101]))) := by
    unfold keptB hasS
    simp only [kwords, List.any_cons, List.any_nil, toList_data, Bool.or_false, Bool.or_assoc]
  generalize st t = q at *
  by_cases h0 : (q.toList == [97, 110, 100]) = true
  · rw [hq, show (((q.toList == [97, 110, 100]) || (q.toList == [111, 114]) || (q.toList == [110, 111, 116]) || (q.toList == [116, 114, 117, 101]) || (q.toList == [102, 97, 108, 115, 101]))) = true from by simp [h0]]
    clear hq
    go_enter Tryz.func71, Tryz.ntmps71
    go_wp2
    go_ret
    exact ret_of rfl (Kp.refl _)
  have h0' : (q.toList == [97, 110, 100]) = false := by simpa using h0
  clear h0
  by_cases h1 : (q.toList == [111, 114]) = true
  · rw [hq, show (((q.toList == [97, 110, 100]) || (q.toList == [111, 114]) || (q.toList == [110, 111, 116]) || (q.toList == [116, 114, 117, 101]) || (q.toList == [102, 97, 108, 115, 101]))) = true from by simp [h1]]
    clear hq
    go_enter Tryz.func71, Tryz.ntmps71
    go_wp2
    go_ret
    exact ret_of rfl (Kp.refl _)
  have h1' : (q.toList == [111, 114]) = false := by simpa using h1
  clear h1
  by_cases h2 : (q.toList == [110, 111, 116]) = true
  · rw [hq, show (((q.toList == [97, 110, 100]) || (q.toList == [111, 114]) || (q.toList == [110, 111, 116]) || (q.toList == [116, 114, 117, 101]) || (q.toList == [102, 97, 108, 115, 101]))) = true from by simp [h2]]
    clear hq
    go_enter Tryz.func71, Tryz.ntmps71
    go_wp2
    go_ret
    exact ret_of rfl (Kp.refl _)
  have h2' : (q.toList == [110, 111, 116]) = false := by simpa using h2
  clear h2
  by_cases h3 : (q.toList == [116, 114, 117, 101]) = true
  · rw [hq, show (((q.toList == [97, 110, 100]) || (q.toList == [111, 114]) || (q.toList == [110, 111, 116]) || (q.toList == [116, 114, 117, 101]) || (q.toList == [102, 97, 108, 115, 101]))) = true from by simp [h3]]
    clear hq
    go_enter Tryz.func71, Tryz.ntmps71
    go_wp2
    go_ret
    exact ret_of rfl (Kp.refl _)
  have h3' : (q.toList == [116, 114, 117, 101]) = false := by simpa using h3
  clear h3
  by_cases h4 : (q.toList == [102, 97, 108, 115, 101]) = true
  · rw [hq, show (((q.toList == [97, 110, 100]) || (q.toList == [111, 114]) || (q.toList == [110, 111, 116]) || (q.toList == [116, 114, 117, 101]) || (q.toList == [102, 97, 108, 115, 101]))) = true from by simp [h4]]
    clear hq
    go_enter Tryz.func71, Tryz.ntmps71
    go_wp2
    go_ret
    exact ret_of rfl (Kp.refl _)
  have h4' : (q.toList == [102, 97, 108, 115, 101]) = false := by simpa using h4
  clear h4
  rw [hq, show (((q.toList == [97, 110, 100]) || (q.toList == [111, 114]) || (q.toList == [110, 111, 116]) || (q.toList == [116, 114, 117, 101]) || (q.toList == [102, 97, 108, 115, 101]))) = false from by simp only [h0', h1', h2', h3', h4', Bool.or_self]]
  clear hq
  go_enter Tryz.func71, Tryz.ntmps71
  go_wp2
  go_ret
  exact ret_of rfl (Kp.refl _)
theorem rval_ret (k n : Int) (s : ByteArray) (w : World) : Calls Tryz.prog 85 #[vv k n s] w (Ret w (.bool (validV k n s))) := by
  by_cases h1 : (k == 1) = true
  · simp only [beq_iff_eq] at h1
    subst h1
    by_cases h4 : s.size = 0
    · have hz : s.toList = [] := by
        rw [toList_data]
        exact List.eq_nil_of_length_eq_zero (by rw [size_data]; omega)
      by_cases h2 : -1000000000 ≤ n <;> by_cases h3 : n ≤ 1000000000
      all_goals first | (exfalso; omega) | skip
      all_goals
        go_enter Tryz.func85, Tryz.ntmps85
        go_wp2
        all_goals go_ret
        all_goals exact ret_of (v_bool (by rw [Bool.eq_iff_iff]; simp [validV, h4, hz, h2, h3])) ((Kp.refl _).alloc _)
    · have hne := str_ne (s := s) (by omega)
      by_cases h2 : -1000000000 ≤ n <;> by_cases h3 : n ≤ 1000000000
      all_goals first | (exfalso; omega) | skip
      all_goals
        go_enter Tryz.func85, Tryz.ntmps85
        go_wp2
        all_goals go_ret
        all_goals exact ret_of (v_bool (by rw [Bool.eq_iff_iff]; simp [validV, h4, hne, h2, h3])) ((Kp.refl _).alloc _)
  · have h1' : (k == 1) = false := by simpa using h1
    by_cases h2 : (k == 2) = true <;> by_cases h3 : (n == 0) = true <;> by_cases h4 : s.size ≤ 40
    all_goals
      go_enter Tryz.func85, Tryz.ntmps85
      go_wp2
      all_goals go_ret
      all_goals simp only [beq_iff_eq] at h1 h2 h3
      all_goals exact ret_of (v_bool (by rw [Bool.eq_iff_iff]; simp [validV]; omega)) ((Kp.refl _).alloc _)
def nibZ (c : Int) : Int := if 48 ≤ c ∧ c ≤ 57 then c - 48 else if 97 ≤ c ∧ c ≤ 102 then c - 97 + 10 else -1
theorem rnib_ret (c : Int) (h0 : 0 ≤ c) (h9 : c ≤ 255) (w : World) : Calls Tryz.prog 163 #[.int .u8 c] w (Ret w (.int .i64 (nibZ c))) := by
  by_cases h1 : 48 ≤ c ∧ c ≤ 57
  · obtain ⟨h2, h3⟩ := id h1
    rw [nibZ, if_pos h1]
    clear h1
    go_enter Tryz.func163, Tryz.ntmps163
    go_wp2
    go_ret
    exact ret_of rfl (Kp.refl _)
  · by_cases h4 : 97 ≤ c ∧ c ≤ 102
    · obtain ⟨h2, h3⟩ := id h4
      have h5 : ¬ c ≤ 57 := by omega
      have h6 : 48 ≤ c := by omega
      rw [nibZ, if_neg h1, if_pos h4]
      clear h1 h4
      go_enter Tryz.func163, Tryz.ntmps163
      go_wp2
      go_ret
      exact ret_of rfl (Kp.refl _)
    · rw [nibZ, if_neg h1, if_neg h4]
      by_cases h2 : 48 ≤ c <;> by_cases h3 : c ≤ 57 <;> by_cases h5 : 97 ≤ c <;> by_cases h6 : c ≤ 102
      all_goals first | (exfalso; omega) | skip
      all_goals clear h1 h4
      all_goals
        go_enter Tryz.func163, Tryz.ntmps163
        go_wp2
        go_ret
        exact ret_of rfl (Kp.refl _)
theorem rname_none {s : ByteArray} (h : s.size = 0) : nameOK s.data.toList = false := nameOK_not (.inl h)
set_option maxHeartbeats 1000000 in
theorem rname_ret (s : ByteArray) (w : World) : Calls Tryz.prog 70 #[.string s] w (Ret w (.bool (nameOK s.data.toList))) := by
  by_cases h0 : s.size < 1
  · rw [nameOK_not (.inl (by omega))]
    go_enter Tryz.func70, Tryz.ntmps70
    go_wp2
    go_ret
    exact ret_of rfl (Kp.refl _)
  · by_cases h1 : 16 < s.size
    · rw [nameOK_not (.inr (.inl h1))]
      go_enter Tryz.func70, Tryz.ntmps70
      go_wp2
      go_ret
      exact ret_of rfl (Kp.refl _)
    · go_enter Tryz.func70, Tryz.ntmps70
      go_wp2
      go_loopw [3] (fun i wr => ∃ k : Nat, k ≤ s.size ∧ i = .int .i64 k ∧ wr = w ∧ Hid ((0 < k → smallZ (bt s 0) = true) ∧ ∀ j, j < k → innerZ (bt s j) = true)) (fun i _ => s.size - (intOf i).toNat)
      case atStart => exact ⟨0, Nat.zero_le _, rfl, rfl, fun h => absurd h (Nat.lt_irrefl _), fun j h => absurd h (Nat.not_lt_zero _)⟩
      case round =>
        obtain ⟨k, hk, rfl, rfl, HN⟩ := hrel
        by_cases hlt : k < s.size
        · have hz := bt_of hlt
          have hr := bt_range s k
          rw [← hz] at hr
          have bad : (smallZ (bt s k) = false ∧ k = 0) ∨ innerZ (bt s k) = false → nameOK s.data.toList = false := fun h => by
            rcases h with ⟨h, rfl⟩ | h
            · exact nameOK_not (.inr (.inr (.inl h)))
            · exact nameOK_not (.inr (.inr (.inr ⟨k, hlt, h⟩)))
          rw [← hz] at bad
          have good : innerZ (bt s k) = true ∧ (k = 0 → smallZ (bt s k) = true) → Hid ((0 < k + 1 → smallZ (bt s 0) = true) ∧ ∀ j, j < k + 1 → innerZ (bt s j) = true) := fun h => by
            refine ⟨fun _ => ?_, fun j hj => ?_⟩
            · by_cases hk0 : k = 0
              · subst hk0; exact h.2 rfl
              · exact HN.out.1 (by omega)
            · rcases Nat.lt_succ_iff_lt_or_eq.1 hj with h' | rfl
              · exact HN.out.2 j h'
              · exact h.1
          rw [← hz] at good
          replace bad := Lib.hid bad
          replace good := Lib.hid good
          clear hz
          have cases8 : ∀ z : Int, 0 ≤ z → z ≤ 255 → (97 ≤ z ∧ z ≤ 122) ∨ ((¬ 97 ≤ z ∨ ¬ z ≤ 122) ∧ k = 0) ∨ (k ≠ 0 ∧ ¬ 97 ≤ z ∧ z = 95) ∨ (k ≠ 0 ∧ ¬ 97 ≤ z ∧ z ≠ 95 ∧ z < 48) ∨ (k ≠ 0 ∧ ¬ 97 ≤ z ∧ z ≠ 95 ∧ 48 ≤ z ∧ z ≤ 57) ∨ (k ≠ 0 ∧ ¬ 97 ≤ z ∧ z ≠ 95 ∧ 48 ≤ z ∧ 57 < z) ∨ (k ≠ 0 ∧ 97 ≤ z ∧ ¬ z ≤ 122 ∧ z ≠ 95 ∧ 48 ≤ z ∧ 57 < z) := by omega
          rcases cases8 _ hr.1 hr.2 with ⟨c1, c2⟩ | ⟨c1 | c1, rfl⟩ | ⟨ck, c1, c2⟩ | ⟨ck, c1, c2, c3⟩ | ⟨ck, c1, c2, c3, c4⟩ | ⟨ck, c1, c2, c3, c4⟩ | ⟨ck, c0, c1, c2, c3, c4⟩
          · have G := good.out (by simp only [smallZ, innerZ, decide_eq_true_eq]; omega)
            clear bad good cases8
            go_wp2
            go_roundw
            case rel => exact ⟨k + 1, by omega, by go_num, trivial, G⟩
            case measure => simp [intOf]; omega
          · have B := bad.out (.inl ⟨by simp only [smallZ, decide_eq_false_iff_not]; omega, rfl⟩)
            clear bad good cases8
            rw [B]
            go_wp2
            go_ret
            exact ret_of rfl (Kp.refl _)
          · have c9 : 97 ≤ (((s[0]'hlt).toNat : Int)) := by omega
            have B := bad.out (.inl ⟨by simp only [smallZ, decide_eq_false_iff_not]; omega, rfl⟩)
            clear bad good cases8
            rw [B]
            go_wp2
            go_ret
            exact ret_of rfl (Kp.refl _)
          · have ck' : ((k : Int) == 0) = false := by simpa using ck
            have c2' : (((s[k]'hlt).toNat : Int) != 95) = false := by simpa using c2
            have G := good.out (by simp only [smallZ, innerZ, decide_eq_true_eq]; omega)
            clear bad good cases8
            go_wp2
            go_roundw
            case rel => exact ⟨k + 1, by omega, by go_num, trivial, G⟩
            case measure => simp [intOf]; omega
          · have ck' : ((k : Int) == 0) = false := by simpa using ck
            have c2' : (((s[k]'hlt).toNat : Int) != 95) = true := by simpa using c2
            have B := bad.out (.inr (by simp only [innerZ, decide_eq_false_iff_not]; omega))
            clear bad good cases8
            rw [B]
            go_wp2
            go_ret
            exact ret_of rfl (Kp.refl _)
          · have ck' : ((k : Int) == 0) = false := by simpa using ck
            have c2' : (((s[k]'hlt).toNat : Int) != 95) = true := by simpa using c2
            have c5 : ¬ (((s[k]'hlt).toNat : Int)) < 48 := by omega
            have c6 : ¬ 57 < (((s[k]'hlt).toNat : Int)) := by omega
            have G := good.out (by simp only [smallZ, innerZ, decide_eq_true_eq]; omega)
            clear bad good cases8
            go_wp2
            go_roundw
            case rel => exact ⟨k + 1, by omega, by go_num, trivial, G⟩
            case measure => simp [intOf]; omega
          · have ck' : ((k : Int) == 0) = false := by simpa using ck
            have c2' : (((s[k]'hlt).toNat : Int) != 95) = true := by simpa using c2
            have c5 : ¬ (((s[k]'hlt).toNat : Int)) < 48 := by omega
            have B := bad.out (.inr (by simp only [innerZ, decide_eq_false_iff_not]; omega))
            clear bad good cases8
            rw [B]
            go_wp2
            go_ret
            exact ret_of rfl (Kp.refl _)
          · have ck' : ((k : Int) == 0) = false := by simpa using ck
            have c2' : (((s[k]'hlt).toNat : Int) != 95) = true := by simpa using c2
            have c5 : ¬ (((s[k]'hlt).toNat : Int)) < 48 := by omega
            have B := bad.out (.inr (by simp only [innerZ, decide_eq_false_iff_not]; omega))
            clear bad good cases8
            rw [B]
            go_wp2
            go_ret
            exact ret_of rfl (Kp.refl _)
        · have hks : k = s.size := by omega
          have hN : nameOK s.data.toList = true := nameOK_of (by omega) (by omega) (HN.out.1 (by omega)) (fun j hj => HN.out.2 j (by omega))
          replace hN := Lib.hid hN
          clear HN
          go_wp2
          go_ret
          exact ret_of (v_bool hN.out.symm) (Kp.refl _)
end Go.Proofs.YtpmheafccfnfjaaGreatDoor
namespace Go.Proofs.YtpmheafccfnfjaaGreatDoor
open Go Go.RowKit
theorem tw17 {r : Bs} {j : Nat} (h1 : ∀ i (h : i < r.length), i < j → dgB r[i] = true) (hj : j ≤ r.length) (h17 : j ≤ 17) (he : j = 17 ∨ ∀ h : j < r.length, dgB r[j] = false) : (r.takeWhile dgB).take 17 = r.take j := by
  rcases he with rfl | he
  · have hall : ∀ x ∈ r.take 17, dgB x = true := fun x hx => by
      obtain ⟨i, hi, rfl⟩ := List.getElem_of_mem hx
      rw [List.length_take] at hi
      rw [List.getElem_take]
      exact h1 i (by omega) (by omega)
    have e : r.takeWhile dgB = r.take 17 ++ (r.drop 17).takeWhile dgB := by
      conv => lhs; rw [← List.take_append_drop 17 r]
      rw [List.takeWhile_append_of_pos hall]
    have hl17 : (r.take 17).length = 17 := by rw [List.length_take]; omega
    rw [e, List.take_append_of_le_length (by omega), List.take_of_length_le (by omega)]
  · have hl := tw_len hj h1 he
    have e : r.takeWhile dgB = r.take j := by
      have := List.prefix_iff_eq_take.1 (List.takeWhile_prefix (p := dgB) (l := r))
      rw [hl] at this
      exact this
    rw [e, List.take_take, Nat.min_eq_right h17]
def numS (s : ByteArray) (f k : Nat) : Nat := val ((sfx s f).take (k - f))
theorem numS_step {s : ByteArray} {f k : Nat} (hf : f ≤ k) (hk : k < s.size) : numS s f (k + 1) = numS s f k * 10 + dv (s[k]'hk) := by
  unfold numS
  have e : k + 1 - f = (k - f) + 1 := by omega
  have hl : k - f < (sfx s f).length := by simp; omega
  have e3 : (sfx s f)[k - f]'hl = s[k]'hk := by
    unfold sfx
    rw [List.getElem_drop]
    have : f + (k - f) = k := by omega
    simp only [this]
    rfl
  rw [e, List.take_succ_eq_append_getElem hl, val_snoc, e3]
theorem numS_lt {s : ByteArray} {f k : Nat} (h17 : k - f ≤ 17) (hd : ∀ j, f ≤ j → j < k → digitZ (bt s j) = true) (hk : k ≤ s.size) : numS s f k < 10 ^ (k - f) := by
  have h := val_lt ((sfx s f).take (k - f)) (List.all_eq_true.2 fun x hx => by
    obtain ⟨i, hi, rfl⟩ := List.getElem_of_mem hx
    rw [List.length_take] at hi
    have hl : (sfx s f).length = s.size - f := by simp
    rw [List.getElem_take]
    have := hd (f + i) (by omega) (by omega)
    rw [bt_list (by omega)] at this
    unfold sfx
    rw [List.getElem_drop]
    exact this)
  refine Nat.lt_of_lt_of_le h (Nat.pow_le_pow_right (by decide) ?_)
  rw [List.length_take]
  omega
/-- What Number reads, by where its digits end. -/
theorem numS_end {s : ByteArray} {f k : Nat} (hf : f ≤ k) (hk : k ≤ s.size) (h17 : k - f ≤ 17) (hd : ∀ j, f ≤ j → j < k → digitZ (bt s j) = true) (he : k - f = 17 ∨ (k < s.size → digitZ (bt s k) = false)) : ((sfx s f).takeWhile dgB).take 17 = (sfx s f).take (k - f) := by
  have hl : (sfx s f).length = s.size - f := by simp
  refine tw17 (fun i h hi => ?_) (by omega) h17 ?_
  · have := hd (f + i) (by omega) (by omega)
    rw [bt_list (by omega)] at this
    unfold sfx
    rw [List.getElem_drop]
    exact this
  · rcases he with he | he
    · exact .inl he
    · right
      intro h
      have := he (by omega)
      rw [bt_list (by omega)] at this
      unfold sfx
      rw [List.getElem_drop]
      have e : f + (k - f) = k := by omega
      simp only [e]
      exact this
/-- How Number ends behind its digits. -/
theorem num_fin0 (s : ByteArray) (k : Nat) (hf : 0 ≤ k) (hk : k ≤ s.size) (h17 : k - 0 ≤ 17) (hm : (bt s 0 ≠ 45)) (hd : ∀ j, 0 ≤ j → j < k → digitZ (bt s j) = true) (he : k - 0 = 17 ∨ (k < s.size → digitZ (bt s k) = false)) :
    rNum s.data.toList = if k = 0 ∨ (1 < k - 0 ∧ bt s 0 = 48) ∨ False ∨ 17 ≤ k - 0 then (0, 0) else ((numS s 0 k : Int), k) := by
  have hE := numS_end hf hk h17 hd he
  have hh : (s.data.toList.head? == some 45) = false := by
    rw [beq_eq_false_iff_ne, List.head?_eq_getElem?]
    intro h
    obtain ⟨h0, h1⟩ := List.getElem?_eq_some_iff.1 h
    have h2 : 0 < s.size := by simpa using h0
    exact hm ((bt_eq h2 45).2 h1)
  have ht : s.data.toList = sfx s 0 := by simp [sfx]
  unfold rNum
  rw [hh]
  simp only [Bool.false_eq_true, if_false]
  conv => lhs; rw [ht]
  rw [hE]
  have hl : ((sfx s 0).take (k - 0)).length = k - 0 := by rw [List.length_take]; simp; omega
  have hv : val ((sfx s 0).take (k - 0)) = numS s 0 k := rfl
  have hhd : (1 < k - 0 ∧ ((sfx s 0).take (k - 0)).head? = some 48) ↔ (1 < k - 0 ∧ bt s 0 = 48) := by
    refine and_congr_right fun h1 => ?_
    have hlt : 0 < s.size := by omega
    rw [List.head?_eq_getElem?, List.getElem?_take_of_lt (by omega)]
    unfold sfx
    rw [List.getElem?_drop]
    constructor
    · intro h
      obtain ⟨h2, h3⟩ := List.getElem?_eq_some_iff.1 h
      exact (bt_eq hlt 48).2 h3
    · intro h
      have h3 := (bt_eq hlt 48).1 h
      rw [List.getElem?_eq_some_iff]
      exact ⟨by simpa using hlt, h3⟩
  have hk0 : k - 0 = 0 ↔ k = 0 := by omega
  unfold rNumD
  simp only [hl, hv, hhd, hk0, Bool.false_eq_true, false_and]
  split
  · rfl
  · simp only [if_true, if_false, Bool.false_eq_true, Prod.mk.injEq, true_and]
    omega
/-- How Number ends behind its digits. -/
theorem num_fin1 (s : ByteArray) (k : Nat) (hf : 1 ≤ k) (hk : k ≤ s.size) (h17 : k - 1 ≤ 17) (hm : (0 < s.size ∧ bt s 0 = 45)) (hd : ∀ j, 1 ≤ j → j < k → digitZ (bt s j) = true) (he : k - 1 = 17 ∨ (k < s.size → digitZ (bt s k) = false)) :
    rNum s.data.toList = if k = 1 ∨ (1 < k - 1 ∧ bt s 1 = 48) ∨ numS s 1 k = 0 ∨ 17 ≤ k - 1 then (0, 0) else (-(numS s 1 k : Int), k) := by
  have hE := numS_end hf hk h17 hd he
  have hh : (s.data.toList.head? == some 45) = true := by
    have h0 := (bt_eq hm.1 45).1 hm.2
    rw [List.head?_eq_getElem?]
    have : s.data.toList[0]? = some 45 := by rw [List.getElem?_eq_getElem (by simpa using hm.1), h0]
    rw [this]
    rfl
  have ht : s.data.toList.tail = sfx s 1 := by simp [sfx]
  unfold rNum
  rw [hh]
  simp only [if_true]
  rw [ht, hE]
  have hl : ((sfx s 1).take (k - 1)).length = k - 1 := by rw [List.length_take]; simp; omega
  have hv : val ((sfx s 1).take (k - 1)) = numS s 1 k := rfl
  have hhd : (1 < k - 1 ∧ ((sfx s 1).take (k - 1)).head? = some 48) ↔ (1 < k - 1 ∧ bt s 1 = 48) := by
    refine and_congr_right fun h1 => ?_
    have hlt : 1 < s.size := by omega
    rw [List.head?_eq_getElem?, List.getElem?_take_of_lt (by omega)]
    unfold sfx
    rw [List.getElem?_drop]
    constructor
    · intro h
      obtain ⟨h2, h3⟩ := List.getElem?_eq_some_iff.1 h
      exact (bt_eq hlt 48).2 h3
    · intro h
      have h3 := (bt_eq hlt 48).1 h
      rw [List.getElem?_eq_some_iff]
      exact ⟨by simpa using hlt, h3⟩
  have hk0 : k - 1 = 0 ↔ k = 1 := by omega
  unfold rNumD
  simp only [hl, hv, hhd, hk0, true_and]
  split
  · rfl
  · simp only [if_true, if_false, Bool.false_eq_true, Prod.mk.injEq, true_and]
    omega
set_option maxHeartbeats 2000000 in
set_option maxRecDepth 100000 in
theorem num_walk0 (s : ByteArray) (w : World) (hs : s.size ≤ 1000000) (hm : bt s 0 ≠ 45) : Calls Tryz.prog 162 #[.string s, .int .i64 0] w (Ret w (.tuple #[.int .i64 (rNum s.data.toList).1, .int .i64 (rNum s.data.toList).2])) := by
  have hH := Lib.hid hm
  by_cases h0 : 0 < s.size
  · have hm0 : (((s[0]'h0).toNat : Int) == 45) = false := by rw [bt_of h0]; simpa using hm
    clear hm
    go_enter Tryz.func162, Tryz.ntmps162
    go_wp2
    go_loopw [4, 6] (fun n i wr => ∃ k : Nat, 0 ≤ k ∧ k ≤ s.size ∧ k - 0 ≤ 17 ∧ n = .int .i64 (numS s 0 k : Nat) ∧ i = .int .i64 k ∧ wr = w ∧ Hid (∀ j, 0 ≤ j → j < k → digitZ (bt s j) = true)) (fun _ i _ => s.size - (intOf i).toNat)
    case atStart => exact ⟨0, Nat.le_refl _, by omega, by omega, rfl, rfl, rfl, fun j h1 h2 => absurd h2 (by omega)⟩
    case round =>
      obtain ⟨k, hfk, hk, h17, rfl, rfl, rfl, HD⟩ := hrel
      have hnl := numS_lt h17 HD.out hk
      by_cases hgo : k < s.size ∧ digitZ (bt s k) = true ∧ k - 0 < 17
      · obtain ⟨hlt, hdig, h16⟩ := hgo
        have hstep := numS_step hfk hlt
        have hp : 10 ^ (k - 0) ≤ 10 ^ 16 := Nat.pow_le_pow_right (by decide) (by omega)
        have HD2 : Hid (∀ j, 0 ≤ j → j < k + 1 → digitZ (bt s j) = true) := fun j h1 h2 => by
          rcases Nat.lt_succ_iff_lt_or_eq.1 h2 with h | rfl
          · exact HD.out j h1 h
          · exact hdig
        rw [← bt_of hlt] at hdig
        simp only [digitZ, decide_eq_true_eq] at hdig
        obtain ⟨g1, g2⟩ := hdig
        have hdv : (dv (s[k]'hlt) : Int) = ((s[k]'hlt).toNat : Int) - 48 := by unfold dv; omega
        have hN0 : 0 ≤ ((numS s 0 k : Nat) : Int) := by omega
        have hN1 : ((numS s 0 k : Nat) : Int) ≤ 10000000000000000 := by omega
        have hk17 : (k : Int) - 0 < 17 := by omega
        replace hstep : Hid (((numS s 0 (k + 1) : Nat) : Int) = 10 * ((numS s 0 k : Nat) : Int) + (((s[k]'hlt).toNat : Int) - 48)) := by
          show _ = _
          rw [hstep, ← hdv]
          omega
        generalize hnn : ((numS s 0 k : Nat) : Int) = N at *
        clear hp hnl hdv hnn
        go_wp2
        go_roundw
        case rel => exact ⟨k + 1, by omega, by omega, by omega, by first | rw [hstep.out] | (congr 1; rw [hstep.out]), by go_num, trivial, HD2⟩
        case measure => simp [intOf]; omega
      · have hfin := num_fin0 s k hfk hk h17 hH.out HD.out (by
          by_cases h1 : k < s.size
          · by_cases h2 : digitZ (bt s k) = true
            · left
              have : ¬ k - 0 < 17 := fun h3 => hgo ⟨h1, h2, h3⟩
              omega
            · right; intro _; simpa using h2
          · right; intro h; exact absurd h h1)
        have hex : k = s.size ∨ (k < s.size ∧ digitZ (bt s k) = false) ∨ (k < s.size ∧ digitZ (bt s k) = true ∧ k - 0 = 17) := by
          by_cases h1 : k < s.size
          · by_cases h2 : digitZ (bt s k) = true
            · exact .inr (.inr ⟨h1, h2, by have : ¬ k - 0 < 17 := fun h3 => hgo ⟨h1, h2, h3⟩; omega⟩)
            · exact .inr (.inl ⟨h1, by simpa using h2⟩)
          · left; omega
        have hp : numS s 0 k < 10 ^ 17 := Nat.lt_of_lt_of_le hnl (Nat.pow_le_pow_right (by decide) h17)
        have hN0 : 0 ≤ ((numS s 0 k : Nat) : Int) := by omega
        have hN1 : ((numS s 0 k : Nat) : Int) ≤ 1000000000000000000 := by omega
        clear hgo hnl hp HD
        by_cases hk1 : k = 0
        · have q1 : ((k : Int) == 0) = true := by simp; omega
          have hR : Hid (rNum s.data.toList = (0, 0)) := by show _ = _; rw [hfin, if_pos (.inl hk1)]
          clear hfin
          rcases hex with rfl | ⟨hlt, hdig⟩ | ⟨hlt, hdig, h17'⟩
          · first
              | (exfalso; omega)
              | (go_wp2
                 go_ret2
                 exact ret_of (by rw [hR.out]; first | rfl | simp) (Kp.refl _))
          · rw [← bt_of hlt] at hdig
            simp only [digitZ, decide_eq_false_iff_not] at hdig
            by_cases d1 : 48 ≤ ((s[k]'hlt).toNat : Int)
            · have d2 : ¬ ((s[k]'hlt).toNat : Int) ≤ 57 := fun h => hdig ⟨d1, h⟩
              clear hdig
              first
                | (exfalso; omega)
                | (clear hk1
                   go_wp2
                   go_ret2
                   exact ret_of (by rw [hR.out]; first | rfl | simp) (Kp.refl _))
            · clear hdig
              first
                | (exfalso; omega)
                | (clear hk1
                   go_wp2
                   go_ret2
                   exact ret_of (by rw [hR.out]; first | rfl | simp) (Kp.refl _))
          · rw [← bt_of hlt] at hdig
            simp only [digitZ, decide_eq_true_eq] at hdig
            obtain ⟨d1, d2⟩ := hdig
            have d3 : ¬ (k : Int) - 0 < 17 := by omega
            first
              | (exfalso; omega)
              | (clear hk1
                 go_wp2
                 go_ret2
                 exact ret_of (by rw [hR.out]; first | rfl | simp) (Kp.refl _))
        · have q1 : ((k : Int) == 0) = false := by simp; omega
          have hlf : 0 < s.size := by omega
          by_cases hk2 : 1 < k - 0
          · have q2 : 1 < (k : Int) - 0 := by omega
            by_cases hz : bt s 0 = 48
            · have hR : Hid (rNum s.data.toList = (0, 0)) := by show _ = _; rw [hfin, if_pos (.inr (.inl ⟨hk2, hz⟩))]
              have q3 : (((s[0]'hlf).toNat : Int) == 48) = true := by rw [bt_of hlf]; simpa using hz
              clear hfin hz
              rcases hex with rfl | ⟨hlt, hdig⟩ | ⟨hlt, hdig, h17'⟩
              · first
                  | (exfalso; omega)
                  | (go_wp2
                     go_ret2
                     exact ret_of (by rw [hR.out]; first | rfl | simp) (Kp.refl _))
              · rw [← bt_of hlt] at hdig
                simp only [digitZ, decide_eq_false_iff_not] at hdig
                by_cases d1 : 48 ≤ ((s[k]'hlt).toNat : Int)
                · have d2 : ¬ ((s[k]'hlt).toNat : Int) ≤ 57 := fun h => hdig ⟨d1, h⟩
                  clear hdig
                  first
                    | (exfalso; omega)
                    | (clear hk1
                       go_wp2
                       go_ret2
                       exact ret_of (by rw [hR.out]; first | rfl | simp) (Kp.refl _))
                · clear hdig
                  first
                    | (exfalso; omega)
                    | (clear hk1
                       go_wp2
                       go_ret2
                       exact ret_of (by rw [hR.out]; first | rfl | simp) (Kp.refl _))
              · rw [← bt_of hlt] at hdig
                simp only [digitZ, decide_eq_true_eq] at hdig
                obtain ⟨d1, d2⟩ := hdig
                have d3 : ¬ (k : Int) - 0 < 17 := by omega
                first
                  | (exfalso; omega)
                  | (clear hk1
                     go_wp2
                     go_ret2
                     exact ret_of (by rw [hR.out]; first | rfl | simp) (Kp.refl _))
            · have q3 : (((s[0]'hlf).toNat : Int) == 48) = false := by rw [bt_of hlf]; simpa using hz
              by_cases h17c : 17 ≤ k - 0
              · have q5 : 17 ≤ (k : Int) - 0 := by omega
                have hR : Hid (rNum s.data.toList = (0, 0)) := by show _ = _; rw [hfin, if_pos (.inr (.inr (.inr h17c)))]
                clear hfin
                rcases hex with rfl | ⟨hlt, hdig⟩ | ⟨hlt, hdig, h17'⟩
                · first
                    | (exfalso; omega)
                    | (go_wp2
                       go_ret2
                       exact ret_of (by rw [hR.out]; first | rfl | simp) (Kp.refl _))
                · rw [← bt_of hlt] at hdig
                  simp only [digitZ, decide_eq_false_iff_not] at hdig
                  by_cases d1 : 48 ≤ ((s[k]'hlt).toNat : Int)
                  · have d2 : ¬ ((s[k]'hlt).toNat : Int) ≤ 57 := fun h => hdig ⟨d1, h⟩
                    clear hdig
                    first
                      | (exfalso; omega)
                      | (clear hk1
                         go_wp2
                         go_ret2
                         exact ret_of (by rw [hR.out]; first | rfl | simp) (Kp.refl _))
                  · clear hdig
                    first
                      | (exfalso; omega)
                      | (clear hk1
                         go_wp2
                         go_ret2
                         exact ret_of (by rw [hR.out]; first | rfl | simp) (Kp.refl _))
                · rw [← bt_of hlt] at hdig
                  simp only [digitZ, decide_eq_true_eq] at hdig
                  obtain ⟨d1, d2⟩ := hdig
                  have d3 : ¬ (k : Int) - 0 < 17 := by omega
                  first
                    | (exfalso; omega)
                    | (clear hk1
                       go_wp2
                       go_ret2
                       exact ret_of (by rw [hR.out]; first | rfl | simp) (Kp.refl _))
              · have q5 : ¬ 17 ≤ (k : Int) - 0 := by omega
                have hR : Hid (rNum s.data.toList = (((numS s 0 k : Nat) : Int), k)) := by
                  show _ = _
                  rw [hfin, if_neg]
                  simp only [not_or, not_and]
                  exact ⟨hk1, fun h => hz, not_false, h17c⟩
                clear hfin
                rcases hex with rfl | ⟨hlt, hdig⟩ | ⟨hlt, hdig, h17'⟩
                · first
                    | (exfalso; omega)
                    | (go_wp2
                       go_ret2
                       exact ret_of (by rw [hR.out]; first | rfl | simp) (Kp.refl _))
                · rw [← bt_of hlt] at hdig
                  simp only [digitZ, decide_eq_false_iff_not] at hdig
                  by_cases d1 : 48 ≤ ((s[k]'hlt).toNat : Int)
                  · have d2 : ¬ ((s[k]'hlt).toNat : Int) ≤ 57 := fun h => hdig ⟨d1, h⟩
                    clear hdig
                    first
                      | (exfalso; omega)
                      | (clear hk1
                         go_wp2
                         go_ret2
                         exact ret_of (by rw [hR.out]; first | rfl | simp) (Kp.refl _))
                  · clear hdig
                    first
                      | (exfalso; omega)
                      | (clear hk1
                         go_wp2
                         go_ret2
                         exact ret_of (by rw [hR.out]; first | rfl | simp) (Kp.refl _))
                · rw [← bt_of hlt] at hdig
                  simp only [digitZ, decide_eq_true_eq] at hdig
                  obtain ⟨d1, d2⟩ := hdig
                  have d3 : ¬ (k : Int) - 0 < 17 := by omega
                  first
                    | (exfalso; omega)
                    | (clear hk1
                       go_wp2
                       go_ret2
                       exact ret_of (by rw [hR.out]; first | rfl | simp) (Kp.refl _))
          · have q2 : ¬ 1 < (k : Int) - 0 := by omega
            by_cases h17c : 17 ≤ k - 0
            · have q5 : 17 ≤ (k : Int) - 0 := by omega
              have hR : Hid (rNum s.data.toList = (0, 0)) := by show _ = _; rw [hfin, if_pos (.inr (.inr (.inr h17c)))]
              clear hfin
              rcases hex with rfl | ⟨hlt, hdig⟩ | ⟨hlt, hdig, h17'⟩
              · first
                  | (exfalso; omega)
                  | (go_wp2
                     go_ret2
                     exact ret_of (by rw [hR.out]; first | rfl | simp) (Kp.refl _))
              · rw [← bt_of hlt] at hdig
                simp only [digitZ, decide_eq_false_iff_not] at hdig
                by_cases d1 : 48 ≤ ((s[k]'hlt).toNat : Int)
                · have d2 : ¬ ((s[k]'hlt).toNat : Int) ≤ 57 := fun h => hdig ⟨d1, h⟩
                  clear hdig
                  first
                    | (exfalso; omega)
                    | (clear hk1
                       go_wp2
                       go_ret2
                       exact ret_of (by rw [hR.out]; first | rfl | simp) (Kp.refl _))
                · clear hdig
                  first
                    | (exfalso; omega)
                    | (clear hk1
                       go_wp2
                       go_ret2
                       exact ret_of (by rw [hR.out]; first | rfl | simp) (Kp.refl _))
              · rw [← bt_of hlt] at hdig
                simp only [digitZ, decide_eq_true_eq] at hdig
                obtain ⟨d1, d2⟩ := hdig
                have d3 : ¬ (k : Int) - 0 < 17 := by omega
                first
                  | (exfalso; omega)
                  | (clear hk1
                     go_wp2
                     go_ret2
                     exact ret_of (by rw [hR.out]; first | rfl | simp) (Kp.refl _))
            · have q5 : ¬ 17 ≤ (k : Int) - 0 := by omega
              have hR : Hid (rNum s.data.toList = (((numS s 0 k : Nat) : Int), k)) := by
                show _ = _
                rw [hfin, if_neg]
                simp only [not_or, not_and]
                exact ⟨hk1, fun h => absurd h hk2, not_false, h17c⟩
              clear hfin
              rcases hex with rfl | ⟨hlt, hdig⟩ | ⟨hlt, hdig, h17'⟩
              · first
                  | (exfalso; omega)
                  | (go_wp2
                     go_ret2
                     exact ret_of (by rw [hR.out]; first | rfl | simp) (Kp.refl _))
              · rw [← bt_of hlt] at hdig
                simp only [digitZ, decide_eq_false_iff_not] at hdig
                by_cases d1 : 48 ≤ ((s[k]'hlt).toNat : Int)
                · have d2 : ¬ ((s[k]'hlt).toNat : Int) ≤ 57 := fun h => hdig ⟨d1, h⟩
                  clear hdig
                  first
                    | (exfalso; omega)
                    | (clear hk1
                       go_wp2
                       go_ret2
                       exact ret_of (by rw [hR.out]; first | rfl | simp) (Kp.refl _))
                · clear hdig
                  first
                    | (exfalso; omega)
                    | (clear hk1
                       go_wp2
                       go_ret2
                       exact ret_of (by rw [hR.out]; first | rfl | simp) (Kp.refl _))
              · rw [← bt_of hlt] at hdig
                simp only [digitZ, decide_eq_true_eq] at hdig
                obtain ⟨d1, d2⟩ := hdig
                have d3 : ¬ (k : Int) - 0 < 17 := by omega
                first
                  | (exfalso; omega)
                  | (clear hk1
                     go_wp2
                     go_ret2
                     exact ret_of (by rw [hR.out]; first | rfl | simp) (Kp.refl _))
  · have hsz : s.size = 0 := by omega
    clear hm
    go_enter Tryz.func162, Tryz.ntmps162
    go_wp2
    go_loopw [4, 6] (fun n i wr => ∃ k : Nat, 0 ≤ k ∧ k ≤ s.size ∧ k - 0 ≤ 17 ∧ n = .int .i64 (numS s 0 k : Nat) ∧ i = .int .i64 k ∧ wr = w ∧ Hid (∀ j, 0 ≤ j → j < k → digitZ (bt s j) = true)) (fun _ i _ => s.size - (intOf i).toNat)
    case atStart => exact ⟨0, Nat.le_refl _, by omega, by omega, rfl, rfl, rfl, fun j h1 h2 => absurd h2 (by omega)⟩
    case round =>
      obtain ⟨k, hfk, hk, h17, rfl, rfl, rfl, HD⟩ := hrel
      have hnl := numS_lt h17 HD.out hk
      by_cases hgo : k < s.size ∧ digitZ (bt s k) = true ∧ k - 0 < 17
      · obtain ⟨hlt, hdig, h16⟩ := hgo
        exfalso
        omega
      · have hfin := num_fin0 s k hfk hk h17 hH.out HD.out (by
          by_cases h1 : k < s.size
          · by_cases h2 : digitZ (bt s k) = true
            · left
              have : ¬ k - 0 < 17 := fun h3 => hgo ⟨h1, h2, h3⟩
              omega
            · right; intro _; simpa using h2
          · right; intro h; exact absurd h h1)
        have hex : k = s.size ∨ (k < s.size ∧ digitZ (bt s k) = false) ∨ (k < s.size ∧ digitZ (bt s k) = true ∧ k - 0 = 17) := by
          by_cases h1 : k < s.size
          · by_cases h2 : digitZ (bt s k) = true
            · exact .inr (.inr ⟨h1, h2, by have : ¬ k - 0 < 17 := fun h3 => hgo ⟨h1, h2, h3⟩; omega⟩)
            · exact .inr (.inl ⟨h1, by simpa using h2⟩)
          · left; omega
        have hp : numS s 0 k < 10 ^ 17 := Nat.lt_of_lt_of_le hnl (Nat.pow_le_pow_right (by decide) h17)
        have hN0 : 0 ≤ ((numS s 0 k : Nat) : Int) := by omega
        have hN1 : ((numS s 0 k : Nat) : Int) ≤ 1000000000000000000 := by omega
        clear hgo hnl hp HD
        by_cases hk1 : k = 0
        · have q1 : ((k : Int) == 0) = true := by simp; omega
          have hR : Hid (rNum s.data.toList = (0, 0)) := by show _ = _; rw [hfin, if_pos (.inl hk1)]
          clear hfin
          rcases hex with rfl | ⟨hlt, hdig⟩ | ⟨hlt, hdig, h17'⟩
          · first
              | (exfalso; omega)
              | (go_wp2
                 go_ret2
                 exact ret_of (by rw [hR.out]; first | rfl | simp) (Kp.refl _))
          · rw [← bt_of hlt] at hdig
            simp only [digitZ, decide_eq_false_iff_not] at hdig
            by_cases d1 : 48 ≤ ((s[k]'hlt).toNat : Int)
            · have d2 : ¬ ((s[k]'hlt).toNat : Int) ≤ 57 := fun h => hdig ⟨d1, h⟩
              clear hdig
              first
                | (exfalso; omega)
                | (clear hk1
                   go_wp2
                   go_ret2
                   exact ret_of (by rw [hR.out]; first | rfl | simp) (Kp.refl _))
            · clear hdig
              first
                | (exfalso; omega)
                | (clear hk1
                   go_wp2
                   go_ret2
                   exact ret_of (by rw [hR.out]; first | rfl | simp) (Kp.refl _))
          · rw [← bt_of hlt] at hdig
            simp only [digitZ, decide_eq_true_eq] at hdig
            obtain ⟨d1, d2⟩ := hdig
            have d3 : ¬ (k : Int) - 0 < 17 := by omega
            first
              | (exfalso; omega)
              | (clear hk1
                 go_wp2
                 go_ret2
                 exact ret_of (by rw [hR.out]; first | rfl | simp) (Kp.refl _))
        · have q1 : ((k : Int) == 0) = false := by simp; omega
          have hlf : 0 < s.size := by omega
          by_cases hk2 : 1 < k - 0
          · have q2 : 1 < (k : Int) - 0 := by omega
            by_cases hz : bt s 0 = 48
            · have hR : Hid (rNum s.data.toList = (0, 0)) := by show _ = _; rw [hfin, if_pos (.inr (.inl ⟨hk2, hz⟩))]
              have q3 : (((s[0]'hlf).toNat : Int) == 48) = true := by rw [bt_of hlf]; simpa using hz
              clear hfin hz
              rcases hex with rfl | ⟨hlt, hdig⟩ | ⟨hlt, hdig, h17'⟩
              · first
                  | (exfalso; omega)
                  | (go_wp2
                     go_ret2
                     exact ret_of (by rw [hR.out]; first | rfl | simp) (Kp.refl _))
              · rw [← bt_of hlt] at hdig
                simp only [digitZ, decide_eq_false_iff_not] at hdig
                by_cases d1 : 48 ≤ ((s[k]'hlt).toNat : Int)
                · have d2 : ¬ ((s[k]'hlt).toNat : Int) ≤ 57 := fun h => hdig ⟨d1, h⟩
                  clear hdig
                  first
                    | (exfalso; omega)
                    | (clear hk1
                       go_wp2
                       go_ret2
                       exact ret_of (by rw [hR.out]; first | rfl | simp) (Kp.refl _))
                · clear hdig
                  first
                    | (exfalso; omega)
                    | (clear hk1
                       go_wp2
                       go_ret2
                       exact ret_of (by rw [hR.out]; first | rfl | simp) (Kp.refl _))
              · rw [← bt_of hlt] at hdig
                simp only [digitZ, decide_eq_true_eq] at hdig
                obtain ⟨d1, d2⟩ := hdig
                have d3 : ¬ (k : Int) - 0 < 17 := by omega
                first
                  | (exfalso; omega)
                  | (clear hk1
                     go_wp2
                     go_ret2
                     exact ret_of (by rw [hR.out]; first | rfl | simp) (Kp.refl _))
            · have q3 : (((s[0]'hlf).toNat : Int) == 48) = false := by rw [bt_of hlf]; simpa using hz
              by_cases h17c : 17 ≤ k - 0
              · have q5 : 17 ≤ (k : Int) - 0 := by omega
                have hR : Hid (rNum s.data.toList = (0, 0)) := by show _ = _; rw [hfin, if_pos (.inr (.inr (.inr h17c)))]
                clear hfin
                rcases hex with rfl | ⟨hlt, hdig⟩ | ⟨hlt, hdig, h17'⟩
                · first
                    | (exfalso; omega)
                    | (go_wp2
                       go_ret2
                       exact ret_of (by rw [hR.out]; first | rfl | simp) (Kp.refl _))
                · rw [← bt_of hlt] at hdig
                  simp only [digitZ, decide_eq_false_iff_not] at hdig
                  by_cases d1 : 48 ≤ ((s[k]'hlt).toNat : Int)
                  · have d2 : ¬ ((s[k]'hlt).toNat : Int) ≤ 57 := fun h => hdig ⟨d1, h⟩
                    clear hdig
                    first
                      | (exfalso; omega)
                      | (clear hk1
                         go_wp2
                         go_ret2
                         exact ret_of (by rw [hR.out]; first | rfl | simp) (Kp.refl _))
                  · clear hdig
                    first
                      | (exfalso; omega)
                      | (clear hk1
                         go_wp2
                         go_ret2
                         exact ret_of (by rw [hR.out]; first | rfl | simp) (Kp.refl _))
                · rw [← bt_of hlt] at hdig
                  simp only [digitZ, decide_eq_true_eq] at hdig
                  obtain ⟨d1, d2⟩ := hdig
                  have d3 : ¬ (k : Int) - 0 < 17 := by omega
                  first
                    | (exfalso; omega)
                    | (clear hk1
                       go_wp2
                       go_ret2
                       exact ret_of (by rw [hR.out]; first | rfl | simp) (Kp.refl _))
              · have q5 : ¬ 17 ≤ (k : Int) - 0 := by omega
                have hR : Hid (rNum s.data.toList = (((numS s 0 k : Nat) : Int), k)) := by
                  show _ = _
                  rw [hfin, if_neg]
                  simp only [not_or, not_and]
                  exact ⟨hk1, fun h => hz, not_false, h17c⟩
                clear hfin
                rcases hex with rfl | ⟨hlt, hdig⟩ | ⟨hlt, hdig, h17'⟩
                · first
                    | (exfalso; omega)
                    | (go_wp2
                       go_ret2
                       exact ret_of (by rw [hR.out]; first | rfl | simp) (Kp.refl _))
                · rw [← bt_of hlt] at hdig
                  simp only [digitZ, decide_eq_false_iff_not] at hdig
                  by_cases d1 : 48 ≤ ((s[k]'hlt).toNat : Int)
                  · have d2 : ¬ ((s[k]'hlt).toNat : Int) ≤ 57 := fun h => hdig ⟨d1, h⟩
                    clear hdig
                    first
                      | (exfalso; omega)
                      | (clear hk1
                         go_wp2
                         go_ret2
                         exact ret_of (by rw [hR.out]; first | rfl | simp) (Kp.refl _))
                  · clear hdig
                    first
                      | (exfalso; omega)
                      | (clear hk1
                         go_wp2
                         go_ret2
                         exact ret_of (by rw [hR.out]; first | rfl | simp) (Kp.refl _))
                · rw [← bt_of hlt] at hdig
                  simp only [digitZ, decide_eq_true_eq] at hdig
                  obtain ⟨d1, d2⟩ := hdig
                  have d3 : ¬ (k : Int) - 0 < 17 := by omega
                  first
                    | (exfalso; omega)
                    | (clear hk1
                       go_wp2
                       go_ret2
                       exact ret_of (by rw [hR.out]; first | rfl | simp) (Kp.refl _))
          · have q2 : ¬ 1 < (k : Int) - 0 := by omega
            by_cases h17c : 17 ≤ k - 0
            · have q5 : 17 ≤ (k : Int) - 0 := by omega
              have hR : Hid (rNum s.data.toList = (0, 0)) := by show _ = _; rw [hfin, if_pos (.inr (.inr (.inr h17c)))]
              clear hfin
              rcases hex with rfl | ⟨hlt, hdig⟩ | ⟨hlt, hdig, h17'⟩
              · first
                  | (exfalso; omega)
                  | (go_wp2
                     go_ret2
                     exact ret_of (by rw [hR.out]; first | rfl | simp) (Kp.refl _))
              · rw [← bt_of hlt] at hdig
                simp only [digitZ, decide_eq_false_iff_not] at hdig
                by_cases d1 : 48 ≤ ((s[k]'hlt).toNat : Int)
                · have d2 : ¬ ((s[k]'hlt).toNat : Int) ≤ 57 := fun h => hdig ⟨d1, h⟩
                  clear hdig
                  first
                    | (exfalso; omega)
                    | (clear hk1
                       go_wp2
                       go_ret2
                       exact ret_of (by rw [hR.out]; first | rfl | simp) (Kp.refl _))
                · clear hdig
                  first
                    | (exfalso; omega)
                    | (clear hk1
                       go_wp2
                       go_ret2
                       exact ret_of (by rw [hR.out]; first | rfl | simp) (Kp.refl _))
              · rw [← bt_of hlt] at hdig
                simp only [digitZ, decide_eq_true_eq] at hdig
                obtain ⟨d1, d2⟩ := hdig
                have d3 : ¬ (k : Int) - 0 < 17 := by omega
                first
                  | (exfalso; omega)
                  | (clear hk1
                     go_wp2
                     go_ret2
                     exact ret_of (by rw [hR.out]; first | rfl | simp) (Kp.refl _))
            · have q5 : ¬ 17 ≤ (k : Int) - 0 := by omega
              have hR : Hid (rNum s.data.toList = (((numS s 0 k : Nat) : Int), k)) := by
                show _ = _
                rw [hfin, if_neg]
                simp only [not_or, not_and]
                exact ⟨hk1, fun h => absurd h hk2, not_false, h17c⟩
              clear hfin
              rcases hex with rfl | ⟨hlt, hdig⟩ | ⟨hlt, hdig, h17'⟩
              · first
                  | (exfalso; omega)
                  | (go_wp2
                     go_ret2
                     exact ret_of (by rw [hR.out]; first | rfl | simp) (Kp.refl _))
              · rw [← bt_of hlt] at hdig
                simp only [digitZ, decide_eq_false_iff_not] at hdig
                by_cases d1 : 48 ≤ ((s[k]'hlt).toNat : Int)
                · have d2 : ¬ ((s[k]'hlt).toNat : Int) ≤ 57 := fun h => hdig ⟨d1, h⟩
                  clear hdig
                  first
                    | (exfalso; omega)
                    | (clear hk1
                       go_wp2
                       go_ret2
                       exact ret_of (by rw [hR.out]; first | rfl | simp) (Kp.refl _))
                · clear hdig
                  first
                    | (exfalso; omega)
                    | (clear hk1
                       go_wp2
                       go_ret2
                       exact ret_of (by rw [hR.out]; first | rfl | simp) (Kp.refl _))
              · rw [← bt_of hlt] at hdig
                simp only [digitZ, decide_eq_true_eq] at hdig
                obtain ⟨d1, d2⟩ := hdig
                have d3 : ¬ (k : Int) - 0 < 17 := by omega
                first
                  | (exfalso; omega)
                  | (clear hk1
                     go_wp2
                     go_ret2
                     exact ret_of (by rw [hR.out]; first | rfl | simp) (Kp.refl _))
set_option maxHeartbeats 2000000 in
set_option maxRecDepth 100000 in
theorem num_walk1 (s : ByteArray) (w : World) (hs : s.size ≤ 1000000) (hm : 0 < s.size ∧ bt s 0 = 45) : Calls Tryz.prog 162 #[.string s, .int .i64 0] w (Ret w (.tuple #[.int .i64 (rNum s.data.toList).1, .int .i64 (rNum s.data.toList).2])) := by
  have hH := Lib.hid hm
  obtain ⟨h0, hm0⟩ := hm
  rw [← bt_of h0] at hm0
  go_enter Tryz.func162, Tryz.ntmps162
  go_wp2
  go_loopw [4, 6] (fun n i wr => ∃ k : Nat, 1 ≤ k ∧ k ≤ s.size ∧ k - 1 ≤ 17 ∧ n = .int .i64 (numS s 1 k : Nat) ∧ i = .int .i64 k ∧ wr = w ∧ Hid (∀ j, 1 ≤ j → j < k → digitZ (bt s j) = true)) (fun _ i _ => s.size - (intOf i).toNat)
  case atStart => exact ⟨1, Nat.le_refl _, by omega, by omega, rfl, rfl, rfl, fun j h1 h2 => absurd h2 (by omega)⟩
  case round =>
    obtain ⟨k, hfk, hk, h17, rfl, rfl, rfl, HD⟩ := hrel
    have hnl := numS_lt h17 HD.out hk
    by_cases hgo : k < s.size ∧ digitZ (bt s k) = true ∧ k - 1 < 17
    · obtain ⟨hlt, hdig, h16⟩ := hgo
      have hstep := numS_step hfk hlt
      have hp : 10 ^ (k - 1) ≤ 10 ^ 16 := Nat.pow_le_pow_right (by decide) (by omega)
      have HD2 : Hid (∀ j, 1 ≤ j → j < k + 1 → digitZ (bt s j) = true) := fun j h1 h2 => by
        rcases Nat.lt_succ_iff_lt_or_eq.1 h2 with h | rfl
        · exact HD.out j h1 h
        · exact hdig
      rw [← bt_of hlt] at hdig
      simp only [digitZ, decide_eq_true_eq] at hdig
      obtain ⟨g1, g2⟩ := hdig
      have hdv : (dv (s[k]'hlt) : Int) = ((s[k]'hlt).toNat : Int) - 48 := by unfold dv; omega
      have hN0 : 0 ≤ ((numS s 1 k : Nat) : Int) := by omega
      have hN1 : ((numS s 1 k : Nat) : Int) ≤ 10000000000000000 := by omega
      have hk17 : (k : Int) - 1 < 17 := by omega
      replace hstep : Hid (((numS s 1 (k + 1) : Nat) : Int) = 10 * ((numS s 1 k : Nat) : Int) + (((s[k]'hlt).toNat : Int) - 48)) := by
        show _ = _
        rw [hstep, ← hdv]
        omega
      generalize hnn : ((numS s 1 k : Nat) : Int) = N at *
      clear hp hnl hdv hnn
      go_wp2
      go_roundw
      case rel => exact ⟨k + 1, by omega, by omega, by omega, by first | rw [hstep.out] | (congr 1; rw [hstep.out]), by go_num, trivial, HD2⟩
      case measure => simp [intOf]; omega
    · have hfin := num_fin1 s k hfk hk h17 hH.out HD.out (by
        by_cases h1 : k < s.size
        · by_cases h2 : digitZ (bt s k) = true
          · left
            have : ¬ k - 1 < 17 := fun h3 => hgo ⟨h1, h2, h3⟩
            omega
          · right; intro _; simpa using h2
        · right; intro h; exact absurd h h1)
      have hex : k = s.size ∨ (k < s.size ∧ digitZ (bt s k) = false) ∨ (k < s.size ∧ digitZ (bt s k) = true ∧ k - 1 = 17) := by
        by_cases h1 : k < s.size
        · by_cases h2 : digitZ (bt s k) = true
          · exact .inr (.inr ⟨h1, h2, by have : ¬ k - 1 < 17 := fun h3 => hgo ⟨h1, h2, h3⟩; omega⟩)
          · exact .inr (.inl ⟨h1, by simpa using h2⟩)
        · left; omega
      have hp : numS s 1 k < 10 ^ 17 := Nat.lt_of_lt_of_le hnl (Nat.pow_le_pow_right (by decide) h17)
      have hN0 : 0 ≤ ((numS s 1 k : Nat) : Int) := by omega
      have hN1 : ((numS s 1 k : Nat) : Int) ≤ 1000000000000000000 := by omega
      clear hgo hnl hp HD
      by_cases hk1 : k = 1
      · have q1 : ((k : Int) == 1) = true := by simp; omega
        have hR : Hid (rNum s.data.toList = (0, 0)) := by show _ = _; rw [hfin, if_pos (.inl hk1)]
        clear hfin
        rcases hex with rfl | ⟨hlt, hdig⟩ | ⟨hlt, hdig, h17'⟩
        · first
            | (exfalso; omega)
            | (go_wp2
               go_ret2
               exact ret_of (by rw [hR.out]; first | rfl | simp) (Kp.refl _))
        · rw [← bt_of hlt] at hdig
          simp only [digitZ, decide_eq_false_iff_not] at hdig
          by_cases d1 : 48 ≤ ((s[k]'hlt).toNat : Int)
          · have d2 : ¬ ((s[k]'hlt).toNat : Int) ≤ 57 := fun h => hdig ⟨d1, h⟩
            clear hdig
            first
              | (exfalso; omega)
              | (clear hk1
                 go_wp2
                 go_ret2
                 exact ret_of (by rw [hR.out]; first | rfl | simp) (Kp.refl _))
          · clear hdig
            first
              | (exfalso; omega)
              | (clear hk1
                 go_wp2
                 go_ret2
                 exact ret_of (by rw [hR.out]; first | rfl | simp) (Kp.refl _))
        · rw [← bt_of hlt] at hdig
          simp only [digitZ, decide_eq_true_eq] at hdig
          obtain ⟨d1, d2⟩ := hdig
          have d3 : ¬ (k : Int) - 1 < 17 := by omega
          first
            | (exfalso; omega)
            | (clear hk1
               go_wp2
               go_ret2
               exact ret_of (by rw [hR.out]; first | rfl | simp) (Kp.refl _))
      · have q1 : ((k : Int) == 1) = false := by simp; omega
        have hlf : 1 < s.size := by omega
        by_cases hk2 : 1 < k - 1
        · have q2 : 1 < (k : Int) - 1 := by omega
          by_cases hz : bt s 1 = 48
          · have hR : Hid (rNum s.data.toList = (0, 0)) := by show _ = _; rw [hfin, if_pos (.inr (.inl ⟨hk2, hz⟩))]
            have q3 : (((s[1]'hlf).toNat : Int) == 48) = true := by rw [bt_of hlf]; simpa using hz
            clear hfin hz
            rcases hex with rfl | ⟨hlt, hdig⟩ | ⟨hlt, hdig, h17'⟩
            · first
                | (exfalso; omega)
                | (go_wp2
                   go_ret2
                   exact ret_of (by rw [hR.out]; first | rfl | simp) (Kp.refl _))
            · rw [← bt_of hlt] at hdig
              simp only [digitZ, decide_eq_false_iff_not] at hdig
              by_cases d1 : 48 ≤ ((s[k]'hlt).toNat : Int)
              · have d2 : ¬ ((s[k]'hlt).toNat : Int) ≤ 57 := fun h => hdig ⟨d1, h⟩
                clear hdig
                first
                  | (exfalso; omega)
                  | (clear hk1
                     go_wp2
                     go_ret2
                     exact ret_of (by rw [hR.out]; first | rfl | simp) (Kp.refl _))
              · clear hdig
                first
                  | (exfalso; omega)
                  | (clear hk1
                     go_wp2
                     go_ret2
                     exact ret_of (by rw [hR.out]; first | rfl | simp) (Kp.refl _))
            · rw [← bt_of hlt] at hdig
              simp only [digitZ, decide_eq_true_eq] at hdig
              obtain ⟨d1, d2⟩ := hdig
              have d3 : ¬ (k : Int) - 1 < 17 := by omega
              first
                | (exfalso; omega)
                | (clear hk1
                   go_wp2
                   go_ret2
                   exact ret_of (by rw [hR.out]; first | rfl | simp) (Kp.refl _))
          · have q3 : (((s[1]'hlf).toNat : Int) == 48) = false := by rw [bt_of hlf]; simpa using hz
            by_cases hnz : numS s 1 k = 0
            · have hR : Hid (rNum s.data.toList = (0, 0)) := by show _ = _; rw [hfin, if_pos (.inr (.inr (.inl hnz)))]
              have q4 : (((numS s 1 k : Nat) : Int) == 0) = true := by simp [hnz]
              clear hfin hnz
              rcases hex with rfl | ⟨hlt, hdig⟩ | ⟨hlt, hdig, h17'⟩
              · first
                  | (exfalso; omega)
                  | (go_wp2
                     go_ret2
                     exact ret_of (by rw [hR.out]; first | rfl | simp) (Kp.refl _))
              · rw [← bt_of hlt] at hdig
                simp only [digitZ, decide_eq_false_iff_not] at hdig
                by_cases d1 : 48 ≤ ((s[k]'hlt).toNat : Int)
                · have d2 : ¬ ((s[k]'hlt).toNat : Int) ≤ 57 := fun h => hdig ⟨d1, h⟩
                  clear hdig
                  first
                    | (exfalso; omega)
                    | (clear hk1
                       go_wp2
                       go_ret2
                       exact ret_of (by rw [hR.out]; first | rfl | simp) (Kp.refl _))
                · clear hdig
                  first
                    | (exfalso; omega)
                    | (clear hk1
                       go_wp2
                       go_ret2
                       exact ret_of (by rw [hR.out]; first | rfl | simp) (Kp.refl _))
              · rw [← bt_of hlt] at hdig
                simp only [digitZ, decide_eq_true_eq] at hdig
                obtain ⟨d1, d2⟩ := hdig
                have d3 : ¬ (k : Int) - 1 < 17 := by omega
                first
                  | (exfalso; omega)
                  | (clear hk1
                     go_wp2
                     go_ret2
                     exact ret_of (by rw [hR.out]; first | rfl | simp) (Kp.refl _))
            · have q4 : (((numS s 1 k : Nat) : Int) == 0) = false := by simpa using hnz
              by_cases h17c : 17 ≤ k - 1
              · have q5 : 17 ≤ (k : Int) - 1 := by omega
                have hR : Hid (rNum s.data.toList = (0, 0)) := by show _ = _; rw [hfin, if_pos (.inr (.inr (.inr h17c)))]
                clear hfin
                rcases hex with rfl | ⟨hlt, hdig⟩ | ⟨hlt, hdig, h17'⟩
                · first
                    | (exfalso; omega)
                    | (go_wp2
                       go_ret2
                       exact ret_of (by rw [hR.out]; first | rfl | simp) (Kp.refl _))
                · rw [← bt_of hlt] at hdig
                  simp only [digitZ, decide_eq_false_iff_not] at hdig
                  by_cases d1 : 48 ≤ ((s[k]'hlt).toNat : Int)
                  · have d2 : ¬ ((s[k]'hlt).toNat : Int) ≤ 57 := fun h => hdig ⟨d1, h⟩
                    clear hdig
                    first
                      | (exfalso; omega)
                      | (clear hk1
                         go_wp2
                         go_ret2
                         exact ret_of (by rw [hR.out]; first | rfl | simp) (Kp.refl _))
                  · clear hdig
                    first
                      | (exfalso; omega)
                      | (clear hk1
                         go_wp2
                         go_ret2
                         exact ret_of (by rw [hR.out]; first | rfl | simp) (Kp.refl _))
                · rw [← bt_of hlt] at hdig
                  simp only [digitZ, decide_eq_true_eq] at hdig
                  obtain ⟨d1, d2⟩ := hdig
                  have d3 : ¬ (k : Int) - 1 < 17 := by omega
                  first
                    | (exfalso; omega)
                    | (clear hk1
                       go_wp2
                       go_ret2
                       exact ret_of (by rw [hR.out]; first | rfl | simp) (Kp.refl _))
              · have q5 : ¬ 17 ≤ (k : Int) - 1 := by omega
                have hR : Hid (rNum s.data.toList = (-((numS s 1 k : Nat) : Int), k)) := by
                  show _ = _
                  rw [hfin, if_neg]
                  simp only [not_or, not_and]
                  exact ⟨hk1, fun h => hz, hnz, h17c⟩
                clear hfin
                rcases hex with rfl | ⟨hlt, hdig⟩ | ⟨hlt, hdig, h17'⟩
                · first
                    | (exfalso; omega)
                    | (go_wp2
                       go_ret2
                       exact ret_of (by rw [hR.out]; first | rfl | simp) (Kp.refl _))
                · rw [← bt_of hlt] at hdig
                  simp only [digitZ, decide_eq_false_iff_not] at hdig
                  by_cases d1 : 48 ≤ ((s[k]'hlt).toNat : Int)
                  · have d2 : ¬ ((s[k]'hlt).toNat : Int) ≤ 57 := fun h => hdig ⟨d1, h⟩
                    clear hdig
                    first
                      | (exfalso; omega)
                      | (clear hk1
                         go_wp2
                         go_ret2
                         exact ret_of (by rw [hR.out]; first | rfl | simp) (Kp.refl _))
                  · clear hdig
                    first
                      | (exfalso; omega)
                      | (clear hk1
                         go_wp2
                         go_ret2
                         exact ret_of (by rw [hR.out]; first | rfl | simp) (Kp.refl _))
                · rw [← bt_of hlt] at hdig
                  simp only [digitZ, decide_eq_true_eq] at hdig
                  obtain ⟨d1, d2⟩ := hdig
                  have d3 : ¬ (k : Int) - 1 < 17 := by omega
                  first
                    | (exfalso; omega)
                    | (clear hk1
                       go_wp2
                       go_ret2
                       exact ret_of (by rw [hR.out]; first | rfl | simp) (Kp.refl _))
        · have q2 : ¬ 1 < (k : Int) - 1 := by omega
          by_cases hnz : numS s 1 k = 0
          · have hR : Hid (rNum s.data.toList = (0, 0)) := by show _ = _; rw [hfin, if_pos (.inr (.inr (.inl hnz)))]
            have q4 : (((numS s 1 k : Nat) : Int) == 0) = true := by simp [hnz]
            clear hfin hnz
            rcases hex with rfl | ⟨hlt, hdig⟩ | ⟨hlt, hdig, h17'⟩
            · first
                | (exfalso; omega)
                | (go_wp2
                   go_ret2
                   exact ret_of (by rw [hR.out]; first | rfl | simp) (Kp.refl _))
            · rw [← bt_of hlt] at hdig
              simp only [digitZ, decide_eq_false_iff_not] at hdig
              by_cases d1 : 48 ≤ ((s[k]'hlt).toNat : Int)
              · have d2 : ¬ ((s[k]'hlt).toNat : Int) ≤ 57 := fun h => hdig ⟨d1, h⟩
                clear hdig
                first
                  | (exfalso; omega)
                  | (clear hk1
                     go_wp2
                     go_ret2
                     exact ret_of (by rw [hR.out]; first | rfl | simp) (Kp.refl _))
              · clear hdig
                first
                  | (exfalso; omega)
                  | (clear hk1
                     go_wp2
                     go_ret2
                     exact ret_of (by rw [hR.out]; first | rfl | simp) (Kp.refl _))
            · rw [← bt_of hlt] at hdig
              simp only [digitZ, decide_eq_true_eq] at hdig
              obtain ⟨d1, d2⟩ := hdig
              have d3 : ¬ (k : Int) - 1 < 17 := by omega
              first
                | (exfalso; omega)
                | (clear hk1
                   go_wp2
                   go_ret2
                   exact ret_of (by rw [hR.out]; first | rfl | simp) (Kp.refl _))
          · have q4 : (((numS s 1 k : Nat) : Int) == 0) = false := by simpa using hnz
            by_cases h17c : 17 ≤ k - 1
            · have q5 : 17 ≤ (k : Int) - 1 := by omega
              have hR : Hid (rNum s.data.toList = (0, 0)) := by show _ = _; rw [hfin, if_pos (.inr (.inr (.inr h17c)))]
              clear hfin
              rcases hex with rfl | ⟨hlt, hdig⟩ | ⟨hlt, hdig, h17'⟩
              · first
                  | (exfalso; omega)
                  | (go_wp2
                     go_ret2
                     exact ret_of (by rw [hR.out]; first | rfl | simp) (Kp.refl _))
              · rw [← bt_of hlt] at hdig
                simp only [digitZ, decide_eq_false_iff_not] at hdig
                by_cases d1 : 48 ≤ ((s[k]'hlt).toNat : Int)
                · have d2 : ¬ ((s[k]'hlt).toNat : Int) ≤ 57 := fun h => hdig ⟨d1, h⟩
                  clear hdig
                  first
                    | (exfalso; omega)
                    | (clear hk1
                       go_wp2
                       go_ret2
                       exact ret_of (by rw [hR.out]; first | rfl | simp) (Kp.refl _))
                · clear hdig
                  first
                    | (exfalso; omega)
                    | (clear hk1
                       go_wp2
                       go_ret2
                       exact ret_of (by rw [hR.out]; first | rfl | simp) (Kp.refl _))
              · rw [← bt_of hlt] at hdig
                simp only [digitZ, decide_eq_true_eq] at hdig
                obtain ⟨d1, d2⟩ := hdig
                have d3 : ¬ (k : Int) - 1 < 17 := by omega
                first
                  | (exfalso; omega)
                  | (clear hk1
                     go_wp2
                     go_ret2
                     exact ret_of (by rw [hR.out]; first | rfl | simp) (Kp.refl _))
            · have q5 : ¬ 17 ≤ (k : Int) - 1 := by omega
              have hR : Hid (rNum s.data.toList = (-((numS s 1 k : Nat) : Int), k)) := by
                show _ = _
                rw [hfin, if_neg]
                simp only [not_or, not_and]
                exact ⟨hk1, fun h => absurd h hk2, hnz, h17c⟩
              clear hfin
              rcases hex with rfl | ⟨hlt, hdig⟩ | ⟨hlt, hdig, h17'⟩
              · first
                  | (exfalso; omega)
                  | (go_wp2
                     go_ret2
                     exact ret_of (by rw [hR.out]; first | rfl | simp) (Kp.refl _))
              · rw [← bt_of hlt] at hdig
                simp only [digitZ, decide_eq_false_iff_not] at hdig
                by_cases d1 : 48 ≤ ((s[k]'hlt).toNat : Int)
                · have d2 : ¬ ((s[k]'hlt).toNat : Int) ≤ 57 := fun h => hdig ⟨d1, h⟩
                  clear hdig
                  first
                    | (exfalso; omega)
                    | (clear hk1
                       go_wp2
                       go_ret2
                       exact ret_of (by rw [hR.out]; first | rfl | simp) (Kp.refl _))
                · clear hdig
                  first
                    | (exfalso; omega)
                    | (clear hk1
                       go_wp2
                       go_ret2
                       exact ret_of (by rw [hR.out]; first | rfl | simp) (Kp.refl _))
              · rw [← bt_of hlt] at hdig
                simp only [digitZ, decide_eq_true_eq] at hdig
                obtain ⟨d1, d2⟩ := hdig
                have d3 : ¬ (k : Int) - 1 < 17 := by omega
                first
                  | (exfalso; omega)
                  | (clear hk1
                     go_wp2
                     go_ret2
                     exact ret_of (by rw [hR.out]; first | rfl | simp) (Kp.refl _))
theorem rnum_ret (s : ByteArray) (w : World) (hs : s.size ≤ 1000000) : Calls Tryz.prog 162 #[.string s, .int .i64 0] w (Ret w (.tuple #[.int .i64 (rNum s.data.toList).1, .int .i64 (rNum s.data.toList).2])) := by
  by_cases h : 0 < s.size ∧ bt s 0 = 45
  · exact num_walk1 s w hs h
  · refine num_walk0 s w hs fun e => h ⟨?_, e⟩
    by_cases h0 : 0 < s.size
    · exact h0
    · exfalso
      unfold bt at e
      rw [dif_neg h0] at e
      cases e
theorem rwhole_ret (s : ByteArray) (w : World) (hs : s.size ≤ 1000000) : Calls Tryz.prog 124 #[.string s] w (Ret w (.tuple #[.int .i64 (rNum s.data.toList).1, .bool (rWhole s.data.toList)])) := by
  have H := Lib.hid (rnum_ret s w hs)
  have e : rWhole s.data.toList = (decide (0 < ((rNum s.data.toList).2 : Int)) && (((rNum s.data.toList).2 : Int) == (s.size : Int))) := by
    rw [Bool.eq_iff_iff]
    simp only [rWhole, size_data, decide_eq_true_eq, Bool.and_eq_true, beq_iff_eq]
    omega
  rw [e]
  generalize rNum s.data.toList = q at *
  clear e
  by_cases h1 : 0 < (q.2 : Int) <;> by_cases h2 : ((q.2 : Int) == (s.size : Int)) = true
  all_goals
    go_enter Tryz.func124, Tryz.ntmps124
    go_wp2_with (go_at_call 162; refine Calls_ret H.out ?_; intro y1)
    go_ret2
    exact ret_of (by first | (simp [h1, h2]; done) | (simp [h1, h2]; omega)) (kp_xt _ _)
end Go.Proofs.YtpmheafccfnfjaaGreatDoor
namespace Go.Proofs.YtpmheafccfnfjaaGreatDoor
open Go Go.RowKit
theorem dec_enc (u : Nat) (h : u < 10) : Utf8.encode (48 + (u : Int)) = st [UInt8.ofNat (48 + u)] := by
  have key : ∀ v : _root_.Fin 10, Utf8.encode (48 + (v.val : Int)) = st [UInt8.ofNat (48 + v.val)] := by decide +kernel
  exact key ⟨u, h⟩
theorem dec_len (u : Nat) (hu : u ≤ 1000000000) : (Lib.decDigits u).length ≤ 21 := by
  have := Lib.itoa_length_le (u : Int) (by omega) (by omega)
  have e : Lib.itoa (u : Int) = Lib.decDigits u := by unfold Lib.itoa; rw [if_neg (by omega)]; simp
  rwa [e] at this
set_option maxHeartbeats 1000000 in
set_option maxRecDepth 100000 in
theorem dec_pos (u : Nat) (hu : u ≤ 1000000000) (w : World) : Calls Tryz.prog 171 #[.int .i64 u] w (Ret w (.string (st (Lib.decDigits u)))) := by
  have hlen := dec_len u hu
  go_enter Tryz.func171, Tryz.ntmps171
  go_wp2
  go_loopw [3, 0] (fun s n wr => ∃ (m : Nat) (L : Bs), s = .string (st L) ∧ n = .int .i64 m ∧ wr = w ∧ m ≤ u ∧ Hid (Lib.decDigits m ++ L = Lib.decDigits u)) (fun _ n _ => (intOf n).toNat)
  case atStart => exact ⟨u, [], rfl, rfl, rfl, Nat.le_refl _, List.append_nil _⟩
  case round =>
    obtain ⟨m, L, rfl, rfl, rfl, hm, HD⟩ := hrel
    have hL : L.length ≤ 21 := by
      have := congrArg List.length HD.out
      rw [List.length_append] at this
      omega
    have hLs : (st L).size ≤ 1000 := by rw [st_size]; omega
    by_cases h10 : 10 ≤ (m : Int)
    · have henc := dec_enc (m % 10) (by omega)
      rw [show ((m % 10 : Nat) : Int) = (m : Int) % 10 by omega] at henc
      have hs1 : (Utf8.encode (48 + (m : Int) % 10)).size = 1 := by rw [henc, st_size]; rfl
      have hd : Lib.decDigits m = Lib.decDigits (m / 10) ++ [UInt8.ofNat (48 + m % 10)] := by
        rw [Lib.decDigits, dif_neg (by omega)]
      have HD2 : Hid (Lib.decDigits (m / 10) ++ ([UInt8.ofNat (48 + m % 10)] ++ L) = Lib.decDigits u) := by
        show _ = _
        rw [← List.append_assoc, ← hd]
        exact HD.out
      have hq2 : Hid (Utf8.encode (48 + (m : Int) % 10) ++ st L = st ([UInt8.ofNat (48 + m % 10)] ++ L)) := by
        show _ = _
        rw [henc, st_app]
      clear hd HD henc
      generalize st L = q at *
      go_wp2
      go_roundw
      case rel => exact ⟨m / 10, _, v_str hq2.out, by first | rfl | (congr 1; omega), trivial, by omega, HD2⟩
      case measure => simp [intOf]; omega
    · have hm10 : m < 10 := by omega
      have henc := dec_enc m hm10
      have hs1 : (Utf8.encode (48 + (m : Int))).size = 1 := by rw [henc, st_size]; rfl
      have hq2 : Hid (Utf8.encode (48 + (m : Int)) ++ st L = st (Lib.decDigits u)) := by
        show _ = _
        rw [henc, st_app, ← HD.out, Lib.decDigits, dif_pos hm10]
      clear HD henc
      generalize st L = q at *
      go_wp2
      go_ret
      exact ret_of (v_str hq2.out) (Kp.refl _)
theorem rdec_ret (n : Int) (h0 : -1000000000 ≤ n) (h1 : n ≤ 1000000000) (w : World) : Calls Tryz.prog 171 #[.int .i64 n] w (Ret w (.string (st (Lib.itoa n)))) := by
  by_cases hn : n < 0
  · have H := dec_pos n.natAbs (by omega) w
    rw [show ((n.natAbs : Nat) : Int) = -n by omega] at H
    have hl := dec_len n.natAbs (by omega)
    have hs : (st (Lib.decDigits n.natAbs)).size ≤ 1000 := by rw [st_size]; omega
    have e : Hid ((⟨#[45]⟩ : ByteArray) ++ st (Lib.decDigits n.natAbs) = st (Lib.itoa n)) := by
      show _ = _
      rw [show (⟨#[45]⟩ : ByteArray) = st [45] from rfl, st_app, Lib.itoa, if_pos hn]
      rfl
    generalize st (Lib.decDigits n.natAbs) = q at *
    replace H := Lib.hid H
    go_enter Tryz.func171, Tryz.ntmps171
    go_wp2_with (go_at_call 171; refine Calls_ret H.out ?_; intro y1)
    go_ret
    exact ret_of (v_str e.out) (kp_xt _ _)
  · have H := dec_pos n.toNat (by omega) w
    rw [show ((n.toNat : Nat) : Int) = n by omega] at H
    have e : Lib.itoa n = Lib.decDigits n.toNat := by rw [Lib.itoa, if_neg hn]
    rw [e]
    exact H
end Go.Proofs.YtpmheafccfnfjaaGreatDoor
namespace Go.Proofs.YtpmheafccfnfjaaGreatDoor
open Go Go.RowKit
theorem u8Info : (Tryz.prog.info? 5).map (fun i => (i.zero, i.size, i.bytes)) = some (some (.int .u8 0), 1, 1) := by kernel_rfl
/-- Bytes in a row of the call's own, from B on. -/
def OwnB (B : Nat) (w : World) (v : Value) (l : Bs) : Prop := w.ownsRow B 5 1 v l.length (Lib.byteCells l)
theorem OwnB.kp {w x : World} {B : Nat} {v : Value} {l : Bs} (h : OwnB B w v l) (k : Kp w x) : OwnB B x v l := owns_kp h k
theorem bcells_len (l : Bs) : (Lib.byteCells l).length = l.length := by simp [Lib.byteCells]
/-- 'append(l, c, ..)' to bytes of one's own. -/
theorem app_bytes {ops : Array Oper} {rest : List Oper} {o : Oper} {a : Act} {Q : Exit → Act → World → Prop} (hgd : o.guard = none) (s x : Operand)
    (ho : o.op = .call { callee := .builtin .append, args := #[s, x], argTypes := #[189, 189] }) {w W : World} {v : Value} {L : Bs} (hW : Kp w W) (hs : a.eval s = v)
    (hown : OwnB w.heap.size W v L) (ys : Bs) {cs : Array Value} (hcs : cs = (Lib.byteCells ys).toArray) (hx : a.eval x = .slice (some ⟨W.heap.size, 0, none⟩) ys.length ys.length) (hl : L.length + ys.length ≤ 10000000)
    (h : ∀ v' W', OwnB w.heap.size W' v' (L ++ ys) → Kp w W' → wpList Tryz.prog ops Q rest (a.put o.dst v') W') :
    wpList Tryz.prog ops Q (o :: rest) a (W.alloc (.cells cs 5)) := by
  subst hcs
  obtain ⟨i0, hi, hz0, hz1, hz2⟩ := info_parts u8Info
  refine wpList_append_own _ hgd s x 189 ho w.heap.size 5 i0 (.int .u8 0) 1 1 Tryz.underlying189 hi hz0 hz1 hz2 rfl (by decide) v L.length (Lib.byteCells L) hs (hown.kp ((Kp.refl _).alloc _)) ⟨W.heap.size, 0, none⟩ ys.length ys.length (Lib.byteCells ys) hx (by rw [bcells_len, Nat.mul_one]) ?c1 ?c2 ?c3 ?c4 ?c5 ?_
  case c1 =>
    intro j u hj
    have ha : (⟨W.heap.size, 0, none⟩ : Addr).add j = ⟨W.heap.size, j, none⟩ := by unfold Addr.add; split <;> simp_all
    rw [ha, Lib.cell_of_heap (World.alloc_heap_new _ _)]
    simpa using hj
  case c2 =>
    intro u hu
    simp only [Lib.byteCells, List.mem_map] at hu
    obtain ⟨b, _, rfl⟩ := hu
    rfl
  case c3 => unfold maxLen; omega
  case c4 => omega
  case c5 => have := hW.size; simp; omega
  intro v' w' hown' hgrow _
  refine h v' w' ?_ (kp_grownBy (hW.alloc _) hgrow (fun k hk => (hown.lt k hk).1))
  unfold OwnB
  have : Lib.byteCells (L ++ ys) = Lib.byteCells L ++ Lib.byteCells ys := by simp [Lib.byteCells]
  rw [this, List.length_append]
  exact hown'
/-- The like at a step of a region that draws. -/
theorem step_bytes {ops : Array Oper} {o : Oper} {a : Act} {K : Act → World → Prop} {Q : Exit → Act → World → Prop} {E : Prop} (hgd : o.guard = none) (s x : Operand)
    (ho : o.op = .call { callee := .builtin .append, args := #[s, x], argTypes := #[189, 189] }) {w W : World} {v : Value} {L : Bs} (hW : Kp w W) (hs : a.eval s = v)
    (hown : OwnB w.heap.size W v L) (ys : Bs) {cs : Array Value} (hcs : cs = (Lib.byteCells ys).toArray) (hx : a.eval x = .slice (some ⟨W.heap.size, 0, none⟩) ys.length ys.length) (hl : L.length + ys.length ≤ 10000000) (hy : 0 < ys.length)
    (h : ∀ v' W', OwnB w.heap.size W' v' (L ++ ys) → Kp w W' → K (a.put o.dst v') W') :
    if Region.wanted o (yielded ops a.tmps) = true then Oper.wp Tryz.prog o a (W.alloc (.cells cs 5)) K Q else E := by
  subst hcs
  obtain ⟨i0, hi, hz0, hz1, hz2⟩ := info_parts u8Info
  refine step_append_lies _ hgd s x 189 ho w.heap.size 5 i0 (.int .u8 0) 1 1 Tryz.underlying189 hi hz0 hz1 hz2 rfl (by decide) v L.length (Lib.byteCells L) hs (hown.kp ((Kp.refl _).alloc _)) ⟨W.heap.size, 0, none⟩ ys.length ys.length (Lib.byteCells ys) hx (by rw [bcells_len, Nat.mul_one]) ?c1 ?c2 hy ?c3 ?c4 ?c5 _ rfl ?_
  case c1 =>
    intro j u hj
    have ha : (⟨W.heap.size, 0, none⟩ : Addr).add j = ⟨W.heap.size, j, none⟩ := by unfold Addr.add; split <;> simp_all
    rw [ha, Lib.cell_of_heap (World.alloc_heap_new _ _)]
    simpa using hj
  case c2 =>
    intro u hu
    simp only [Lib.byteCells, List.mem_map] at hu
    obtain ⟨b, _, rfl⟩ := hu
    rfl
  case c3 => unfold maxLen; omega
  case c4 => omega
  case c5 => have := hW.size; simp; omega
  intro g cap w' hown' hgrow _ _
  refine h _ w' ?_ (kp_grownBy (hW.alloc _) hgrow (fun k hk => (hown.lt k hk).1))
  unfold OwnB
  have : Lib.byteCells (L ++ ys) = Lib.byteCells L ++ Lib.byteCells ys := by simp [Lib.byteCells]
  rw [this, List.length_append]
  exact hown'
theorem conv_own {B : Nat} {W : World} {v : Value} {l : Bs} (h : OwnB B W v l) : (convert 189 9 v).run Tryz.prog W = .ok (.string (st l)) W := by
  rcases h.2 with ⟨rfl, h0⟩ | ⟨g, cap, cur, rfl, _, hg, _, _, _, ht⟩
  · have : l = [] := List.eq_nil_of_length_eq_zero h0
    subst this
    exact Lib.run_convert_nil_bytes W 189 9 5 0 Tryz.underlying189 Tryz.underlying5 Tryz.underlying9
  · rw [Nat.mul_one] at ht
    exact run_convert_bytes_back W 189 9 5 ⟨g, 0, none⟩ cap l Tryz.underlying189 Tryz.underlying5 Tryz.underlying9 (Lib.bytes_of_row hg ht)
theorem hexZ_B (c : UInt8) : hexZ ((c.toNat : Int) / 16) = ((hexB (c / 16)).toNat : Int) ∧ hexZ ((c.toNat : Int) % 16) = ((hexB (c % 16)).toNat : Int) := by
  have key : ∀ v : _root_.Fin 256, hexZ ((v.val : Int) / 16) = ((hexB (UInt8.ofNat v.val / 16)).toNat : Int) ∧ hexZ ((v.val : Int) % 16) = ((hexB (UInt8.ofNat v.val % 16)).toNat : Int) := by decide +kernel
  have := key ⟨c.toNat, UInt8.toNat_lt c⟩
  simpa using this
theorem escL_snoc (l : Bs) (c : UInt8) : escL (l ++ [c]) = escL l ++ escB c := by simp [escL]
theorem take_snoc {s : ByteArray} {k : Nat} (h : k < s.size) : s.data.toList.take (k + 1) = s.data.toList.take k ++ [s[k]'h] := by
  have hl : k < s.data.toList.length := by simpa using h
  rw [List.take_succ_eq_append_getElem hl]
  rfl
set_option maxHeartbeats 2000000 in
set_option maxRecDepth 100000 in
theorem quoted_ret (s : ByteArray) (w : World) (hs : s.size ≤ 100000) : Calls Tryz.prog 172 #[.string s] w (Ret w (.string (st (quoted s.data.toList)))) := by
  have hbt := fun k (h : k < s.size) => bt_range s k
  go_enter Tryz.func172, Tryz.ntmps172
  go_wp2
  go_loopw [3, 5] (fun v i wr => ∃ (k : Nat) (v' : Value), k ≤ s.size ∧ i = .int .i64 k ∧ v' = v ∧ Hid (Kp w wr) ∧ Hid (OwnB w.heap.size wr v' (escL (s.data.toList.take k)))) (fun _ i _ => s.size - (intOf i).toNat)
  case atStart => exact ⟨0, _, Nat.zero_le _, rfl, rfl, Kp.refl w, ⟨rfl, .inl ⟨rfl, rfl⟩⟩⟩
  case round =>
    rename World => X
    obtain ⟨k, v, hk, hi, hv, hkX, hoX⟩ := hrel
    subst hi hv
    have hel := escL_len (s.data.toList.take k)
    rw [List.length_take, size_data] at hel
    by_cases hlt : k < s.size
    · have hr := hbt k hlt
      rw [← bt_of hlt] at hr
      have g0 := hr.1
      have hnext : Hid (∀ v' W', OwnB w.heap.size W' v' (escL (s.data.toList.take k) ++ escB (s[k]'hlt)) → Hid (OwnB w.heap.size W' v' (escL (s.data.toList.take (k + 1))))) := fun v' W' h3 => by
        rw [take_snoc hlt, escL_snoc]
        exact h3
      generalize escL (s.data.toList.take k) = L at *
      by_cases c34 : (((s[k]'hlt).toNat : Int) == 34) = true
      · have hB : Hid (escB (s[k]'hlt) = [92, s[k]'hlt]) := by
          show _ = _
          have : s[k]'hlt = 34 := (cz _ 34).1 (by simpa using c34)
          rw [this]; rfl
        rw [hB.out] at hnext
        clear hB
        go_wp2_with (at_builtin; refine app_bytes (v := v) rfl _ _ rfl hkX.out rfl hoX.out [92, s[k]'hlt] rfl rfl (by simp; omega) ?_; intro v2 W2 ho2 hk2)
        go_roundw
        case rel => exact ⟨k + 1, v2, by omega, by go_num, rfl, hk2, hnext.out _ _ ho2⟩
        case measure => simp [intOf]; omega
      · have c34' : (((s[k]'hlt).toNat : Int) == 34) = false := by simpa using c34
        have n34 : ¬ s[k]'hlt = 34 := fun e => by rw [e] at c34'; revert c34'; decide
        clear c34
        by_cases c92 : (((s[k]'hlt).toNat : Int) == 92) = true
        · clear n34
          have hB : Hid (escB (s[k]'hlt) = [92, s[k]'hlt]) := by
            show _ = _
            have : s[k]'hlt = 92 := (cz _ 92).1 (by simpa using c92)
            rw [this]; rfl
          rw [hB.out] at hnext
          clear hB
          go_wp2_with (at_builtin; refine app_bytes (v := v) rfl _ _ rfl hkX.out rfl hoX.out [92, s[k]'hlt] rfl rfl (by simp; omega) ?_; intro v2 W2 ho2 hk2)
          go_roundw
          case rel => exact ⟨k + 1, v2, by omega, by go_num, rfl, hk2, hnext.out _ _ ho2⟩
          case measure => simp [intOf]; omega
        · have c92' : (((s[k]'hlt).toNat : Int) == 92) = false := by simpa using c92
          have n92 : ¬ s[k]'hlt = 92 := fun e => by rw [e] at c92'; revert c92'; decide
          clear c92
          by_cases c32 : ((s[k]'hlt).toNat : Int) < 32
          · have d1 : 0 ≤ ((s[k]'hlt).toNat : Int) / 16 := by omega
            have d2 : ((s[k]'hlt).toNat : Int) / 16 < 16 := by omega
            have d3 : 0 ≤ ((s[k]'hlt).toNat : Int) % 16 := by omega
            have d4 : ((s[k]'hlt).toNat : Int) % 16 < 16 := by omega
            have w1 : IntKind.u8.wrap (((s[k]'hlt).toNat : Int) / 16) = ((s[k]'hlt).toNat : Int) / 16 := by rw [IntKind.wrap_u8]; omega
            have w2 : IntKind.u8.wrap (((s[k]'hlt).toNat : Int) % 16) = ((s[k]'hlt).toNat : Int) % 16 := by rw [IntKind.wrap_u8]; omega
            have w4 : Int.tmod ((s[k]'hlt).toNat : Int) 16 = ((s[k]'hlt).toNat : Int) % 16 := Int.tmod_eq_emod_of_nonneg (by omega)
            have hz := Lib.hid (hexZ_B (s[k]'hlt))
            have hB : Hid (escB (s[k]'hlt) = [92, 120, hexB ((s[k]'hlt) / 16), hexB ((s[k]'hlt) % 16)]) := by
              show _ = _
              have h32 : (s[k]'hlt) < 32 ∨ 126 < (s[k]'hlt) := by
                rw [UInt8.lt_iff_toNat_lt, UInt8.lt_iff_toNat_lt]
                have h1 : (32 : UInt8).toNat = 32 := rfl
                have h2 : (126 : UInt8).toNat = 126 := rfl
                omega
              unfold escB
              rw [if_neg (by simp [n34, n92]), if_pos h32]
            rw [hB.out] at hnext
            clear hB
            go_wp2
            have hkD : Hid (Kp w X.drew) := hkX.out.drew
            have hoD := Lib.hid (hoX.out.kp (Kp.refl X).drew)
            go_region_held3 (fun _ => True) (trivial) (first | (refine step_bytes (v := v) rfl _ _ rfl hkD.out rfl hoD.out [92, 120, hexB ((s[k]'hlt) / 16), hexB ((s[k]'hlt) % 16)] (by simp [Lib.byteCells, hz.out.1, hz.out.2]) rfl (by simp; omega) (by simp) ?_; intro v2 W2 ho2 hk2))
            all_goals
              go_wp2
              go_roundw
              case rel => exact ⟨k + 1, v2, by omega, by go_num, rfl, hk2, hnext.out _ _ ho2⟩
              case measure => simp [intOf]; omega
          · by_cases c126 : 126 < ((s[k]'hlt).toNat : Int)
            · have d1 : 0 ≤ ((s[k]'hlt).toNat : Int) / 16 := by omega
              have d2 : ((s[k]'hlt).toNat : Int) / 16 < 16 := by omega
              have d3 : 0 ≤ ((s[k]'hlt).toNat : Int) % 16 := by omega
              have d4 : ((s[k]'hlt).toNat : Int) % 16 < 16 := by omega
              have w1 : IntKind.u8.wrap (((s[k]'hlt).toNat : Int) / 16) = ((s[k]'hlt).toNat : Int) / 16 := by rw [IntKind.wrap_u8]; omega
              have w2 : IntKind.u8.wrap (((s[k]'hlt).toNat : Int) % 16) = ((s[k]'hlt).toNat : Int) % 16 := by rw [IntKind.wrap_u8]; omega
              have w4 : Int.tmod ((s[k]'hlt).toNat : Int) 16 = ((s[k]'hlt).toNat : Int) % 16 := Int.tmod_eq_emod_of_nonneg (by omega)
              have hz := Lib.hid (hexZ_B (s[k]'hlt))
              have hB : Hid (escB (s[k]'hlt) = [92, 120, hexB ((s[k]'hlt) / 16), hexB ((s[k]'hlt) % 16)]) := by
                show _ = _
                have h32 : (s[k]'hlt) < 32 ∨ 126 < (s[k]'hlt) := by
                  rw [UInt8.lt_iff_toNat_lt, UInt8.lt_iff_toNat_lt]
                  have h1 : (32 : UInt8).toNat = 32 := rfl
                  have h2 : (126 : UInt8).toNat = 126 := rfl
                  omega
                unfold escB
                rw [if_neg (by simp [n34, n92]), if_pos h32]
              rw [hB.out] at hnext
              clear hB
              go_wp2
              have hkD : Hid (Kp w X.drew) := hkX.out.drew
              have hoD := Lib.hid (hoX.out.kp (Kp.refl X).drew)
              go_region_held3 (fun _ => True) (trivial) (first | (refine step_bytes (v := v) rfl _ _ rfl hkD.out rfl hoD.out [92, 120, hexB ((s[k]'hlt) / 16), hexB ((s[k]'hlt) % 16)] (by simp [Lib.byteCells, hz.out.1, hz.out.2]) rfl (by simp; omega) (by simp) ?_; intro v2 W2 ho2 hk2))
              all_goals
                go_wp2
                go_roundw
                case rel => exact ⟨k + 1, v2, by omega, by go_num, rfl, hk2, hnext.out _ _ ho2⟩
                case measure => simp [intOf]; omega
            · have hB : Hid (escB (s[k]'hlt) = [s[k]'hlt]) := by
                show _ = _
                have h32 : ¬ ((s[k]'hlt) < 32 ∨ 126 < (s[k]'hlt)) := by
                  rw [UInt8.lt_iff_toNat_lt, UInt8.lt_iff_toNat_lt]
                  have h1 : (32 : UInt8).toNat = 32 := rfl
                  have h2 : (126 : UInt8).toNat = 126 := rfl
                  omega
                unfold escB
                rw [if_neg (by simp [n34, n92]), if_neg h32]
              rw [hB.out] at hnext
              clear hB
              go_wp2_with (at_builtin; refine app_bytes (v := v) rfl _ _ rfl hkX.out rfl hoX.out [s[k]'hlt] rfl rfl (by simp; omega) ?_; intro v2 W2 ho2 hk2)
              go_roundw
              case rel => exact ⟨k + 1, v2, by omega, by go_num, rfl, hk2, hnext.out _ _ ho2⟩
              case measure => simp [intOf]; omega
    · have hks : k = s.size := by omega
      have hcv := Lib.hid (conv_own hoX.out)
      have htk : s.data.toList.take k = s.data.toList := by rw [hks]; exact List.take_of_length_le (by simp)
      rw [htk] at hcv hel
      have hq : (⟨#[34]⟩ : ByteArray) ++ st (escL s.data.toList) ++ ⟨#[34]⟩ = st (quoted s.data.toList) := by
        rw [show (⟨#[34]⟩ : ByteArray) = st [34] from rfl, st_app, st_app]
        rfl
      have hsz : (st (escL s.data.toList)).size ≤ 1000000 := by rw [st_size]; omega
      replace hq := Lib.hid hq
      have hcv2 := hcv.out
      clear htk hoX hel hcv
      generalize st (escL s.data.toList) = q at *
      go_wp2
      go_ret
      exact ret_of (v_str hq.out) hkX.out
theorem rwritten_ret (x : Vl) (hx : x.ok = true) (w : World) : Calls Tryz.prog 134 #[x.v] w (Ret w (.string (st (wrB x)))) := by
  rcases ok_cases hx with ⟨n, rfl, h0, h1⟩ | ⟨l, rfl, hl⟩
  · rw [wrB_num]
    have H := Lib.hid (fun W => rdec_ret n h0 h1 W)
    clear hx
    generalize st (Lib.itoa n) = q at *
    go_enter Tryz.func134, Tryz.ntmps134
    go_wp2_with (go_at_call 171; refine Calls_ret (H.out _) ?_; intro y1)
    go_ret
    exact ret_of rfl (((Kp.refl _).alloc _).more _)
  · rw [wrB_txt]
    have H := Lib.hid (fun W => quoted_ret (st l) W (by rw [st_size]; omega))
    rw [st_list] at H
    clear hx
    generalize st (quoted l) = q at *
    generalize st l = p at *
    go_enter Tryz.func134, Tryz.ntmps134
    go_wp2_with (go_at_call 172; refine Calls_ret (H.out _) ?_; intro y1)
    go_ret
    exact ret_of rfl (((Kp.refl _).alloc _).more _)
end Go.Proofs.YtpmheafccfnfjaaGreatDoor
namespace Go.Proofs.YtpmheafccfnfjaaGreatDoor
open Go Go.RowKit
theorem nib_Z (c : UInt8) : nib c = nibZ (c.toNat : Int) := by
  unfold nib nibZ
  simp only [UInt8.le_iff_toNat_le]
  have h48 : (48 : UInt8).toNat = 48 := rfl
  have h57 : (57 : UInt8).toNat = 57 := rfl
  have h97 : (97 : UInt8).toNat = 97 := rfl
  have h102 : (102 : UInt8).toNat = 102 := rfl
  rw [h48, h57, h97, h102]
  have i1 : (48 ≤ c.toNat ∧ c.toNat ≤ 57) ↔ (48 ≤ (c.toNat : Int) ∧ (c.toNat : Int) ≤ 57) := by omega
  have i2 : (97 ≤ c.toNat ∧ c.toNat ≤ 102) ↔ (97 ≤ (c.toNat : Int) ∧ (c.toNat : Int) ≤ 102) := by omega
  simp only [i1, i2]
theorem nibZ_lt (c : Int) : nibZ c < 16 ∧ -1 ≤ nibZ c := by
  unfold nibZ
  split
  · omega
  · split <;> omega
section
variable {s : ByteArray} {k : Nat}
theorem zc (h : k < s.size) (c : UInt8) : ((s[k]'h).toNat : Int) = (c.toNat : Int) ↔ s[k]'h = c := cz _ _
theorem q_end (h : s.size ≤ k) : rQ (sfx s k) = none := by rw [sfx_nil h]; rfl
theorem q_close (h : k < s.size) (e : ((s[k]'h).toNat : Int) = 34) : rQ (sfx s k) = some ([], sfx s (k + 1)) := by
  rw [sfx_c h, rQ_c, if_pos ((zc h 34).1 e)]
theorem ctl_iff (h : k < s.size) : (s[k]'h < 32 ∨ 126 < s[k]'h) ↔ (((s[k]'h).toNat : Int) < 32 ∨ 126 < ((s[k]'h).toNat : Int)) := by
  rw [UInt8.lt_iff_toNat_lt, UInt8.lt_iff_toNat_lt]
  have h1 : (32 : UInt8).toNat = 32 := rfl
  have h2 : (126 : UInt8).toNat = 126 := rfl
  omega
theorem q_bad (h : k < s.size) (e : ¬ ((s[k]'h).toNat : Int) = 34) (hc : ((s[k]'h).toNat : Int) < 32 ∨ 126 < ((s[k]'h).toNat : Int)) : rQ (sfx s k) = none := by
  rw [sfx_c h, rQ_c, if_neg (fun x => e ((zc h 34).2 x)), if_pos ((ctl_iff h).2 hc)]
theorem q_plain (h : k < s.size) (e : ¬ ((s[k]'h).toNat : Int) = 34) (hc : ¬ (((s[k]'h).toNat : Int) < 32 ∨ 126 < ((s[k]'h).toNat : Int))) (h92 : ¬ ((s[k]'h).toNat : Int) = 92) : rQ (sfx s k) = (rQ (sfx s (k + 1))).map (fun r => (s[k]'h :: r.1, r.2)) := by
  rw [sfx_c h, rQ_c, if_neg (fun x => e ((zc h 34).2 x)), if_neg (fun x => hc ((ctl_iff h).1 x)), if_pos (fun x => h92 ((zc h 92).2 x))]
theorem q_92 (h : k < s.size) (h92 : ((s[k]'h).toNat : Int) = 92) : rQ (sfx s k) = (match sfx s (k + 1) with
        | [] => none
        | d :: t1 => if d = 34 ∨ d = 92 then (rQ t1).map (fun r => (d :: r.1, r.2)) else
          (match t1 with
            | a :: b :: t2 => if d = 120 ∧ 0 ≤ nib a ∧ 0 ≤ nib b then
                (if 32 ≤ 16 * nib a + nib b ∧ 16 * nib a + nib b ≤ 126 then none else (rQ t2).map (fun r => (UInt8.ofNat (16 * nib a + nib b).toNat :: r.1, r.2))) else none
            | _ => none)) := by
  have e := (zc h 92).1 h92
  rw [sfx_c h, e, rQ_c, if_neg (by decide), if_neg (by decide), if_neg (by decide)]
  rfl
theorem q_92_end (h : k < s.size) (h92 : ((s[k]'h).toNat : Int) = 92) (h1 : ¬ k + 1 < s.size) : rQ (sfx s k) = none := by
  rw [q_92 h h92, sfx_nil (by omega)]
theorem q_esc (h : k < s.size) (h92 : ((s[k]'h).toNat : Int) = 92) (h1 : k + 1 < s.size) (hd : ((s[k + 1]'h1).toNat : Int) = 34 ∨ ((s[k + 1]'h1).toNat : Int) = 92) : rQ (sfx s k) = (rQ (sfx s (k + 2))).map (fun r => (s[k + 1]'h1 :: r.1, r.2)) := by
  rw [q_92 h h92, sfx_c h1]
  simp only
  rw [if_pos (hd.imp (zc h1 34).1 (zc h1 92).1)]
theorem q_esc_no (h : k < s.size) (h92 : ((s[k]'h).toNat : Int) = 92) (h1 : k + 1 < s.size) (n34 : ¬ ((s[k + 1]'h1).toNat : Int) = 34) (n92 : ¬ ((s[k + 1]'h1).toNat : Int) = 92) (hno : ¬ k + 3 < s.size ∨ ¬ ((s[k + 1]'h1).toNat : Int) = 120 ∨ ∃ h3 : k + 3 < s.size, nibZ ((s[k + 2]'(Nat.lt_of_succ_lt h3)).toNat : Int) < 0 ∨ nibZ ((s[k + 3]'h3).toNat : Int) < 0) : rQ (sfx s k) = none := by
  rw [q_92 h h92, sfx_c h1]
  simp only
  rw [if_neg (fun x => x.elim (fun x => n34 ((zc h1 34).2 x)) (fun x => n92 ((zc h1 92).2 x)))]
  by_cases h3 : k + 3 < s.size
  · have h2 : k + 2 < s.size := by omega
    have e2 : sfx s (k + 1 + 1) = s[k + 2]'h2 :: sfx s (k + 3) := sfx_c h2
    rw [e2, sfx_c h3]
    simp only
    rw [if_neg]
    rintro ⟨e1, e2, e3⟩
    rw [nib_Z] at e2 e3
    rcases hno with hno | hno | ⟨_, hno | hno⟩
    · exact hno h3
    · exact hno ((zc h1 120).2 e1)
    · omega
    · omega
  · by_cases h2 : k + 2 < s.size
    · have e2 : sfx s (k + 1 + 1) = s[k + 2]'h2 :: sfx s (k + 3) := sfx_c h2
      rw [e2, sfx_nil (by omega)]
    · rw [sfx_nil (k := k + 1 + 1) (by omega)]
theorem q_hex (h : k < s.size) (h92 : ((s[k]'h).toNat : Int) = 92) (h3 : k + 3 < s.size) (h120 : ((s[k + 1]'(by omega)).toNat : Int) = 120) (a0 : 0 ≤ nibZ ((s[k + 2]'(by omega)).toNat : Int)) (b0 : 0 ≤ nibZ ((s[k + 3]'h3).toNat : Int)) :
    rQ (sfx s k) = if 32 ≤ 16 * nibZ ((s[k + 2]'(by omega)).toNat : Int) + nibZ ((s[k + 3]'h3).toNat : Int) ∧ 16 * nibZ ((s[k + 2]'(by omega)).toNat : Int) + nibZ ((s[k + 3]'h3).toNat : Int) ≤ 126 then none else (rQ (sfx s (k + 4))).map (fun r => (UInt8.ofNat (16 * nibZ ((s[k + 2]'(by omega)).toNat : Int) + nibZ ((s[k + 3]'h3).toNat : Int)).toNat :: r.1, r.2)) := by
  have h1 : k + 1 < s.size := by omega
  have h2 : k + 2 < s.size := by omega
  have e1 := (zc h1 120).1 h120
  rw [q_92 h h92, sfx_c h1, e1]
  simp only
  have e2 : sfx s (k + 1 + 1) = s[k + 2]'h2 :: sfx s (k + 3) := sfx_c h2
  have e3 : sfx s (k + 3) = s[k + 3]'h3 :: sfx s (k + 4) := sfx_c h3
  rw [if_neg (by decide), e2, e3]
  simp only [nib_Z]
  rw [if_pos ⟨trivial, a0, b0⟩]
end
/-- What Quote hands back. -/
structure QuR (w : World) (s : ByteArray) (i : Nat) (R : Ending → World → Prop) : Prop where
  ok : ∀ l rest w', rQ (sfx s (i + 1)) = some (l, rest) → Kp w w' → R (.returned (.tuple #[.string (st l), .int .i64 (((s.size - rest.length : Nat) : Int) - i)])) w'
  bad : ∀ w', rQ (sfx s (i + 1)) = none → Kp w w' → R (.returned (.tuple #[.string ⟨#[]⟩, .int .i64 0])) w'
theorem rj_none (acc : Bs) {r : Option (Bs × Bs)} (h : r = none) : rj acc r = none := by rw [h]; rfl
set_option maxHeartbeats 4000000 in
set_option maxRecDepth 100000 in
theorem quote_walk (s : ByteArray) (i0 : Nat) (w : World) (hs : s.size ≤ 100000) (h0 : i0 < s.size) (h34 : ((s[i0]'h0).toNat : Int) = 34) (R : Ending → World → Prop) (HR : Hid (QuR w s i0 R)) :
    Calls Tryz.prog 125 #[.string s, .int .i64 i0] w R := by
  have hn34 : (((s[i0]'h0).toNat : Int) != 34) = false := by simpa using h34
  have HN := Lib.hid (fun (j : Nat) (hj : j < s.size) W => rnib_ret ((s[j]'hj).toNat : Int) (by omega) (by have := UInt8.toNat_lt (s[j]'hj); omega) W)
  have hge : ¬ ((s.size : Int) ≤ (i0 : Int)) := by omega
  clear h34
  go_enter Tryz.func125, Tryz.ntmps125
  go_wp2
  go_loopw [6, 7] (fun v i wr => ∃ (k : Nat) (v' : Value) (L : Bs), i0 < k ∧ k ≤ s.size + 3 ∧ i = .int .i64 k ∧ v' = v ∧ Hid (Kp w wr) ∧ Hid (OwnB w.heap.size wr v' L) ∧ L.length ≤ k ∧ Hid (rQ (sfx s (i0 + 1)) = rj L (rQ (sfx s k)))) (fun _ i _ => s.size + 4 - (intOf i).toNat)
  case atStart =>
    refine ⟨i0 + 1, _, [], by omega, by omega, by go_num, rfl, Kp.refl w, ⟨rfl, .inl ⟨rfl, rfl⟩⟩, by simp, ?_⟩
    show _ = _
    cases rQ (sfx s (i0 + 1)) <;> simp [rj]
  case round =>
    rename World => X
    obtain ⟨k, v, L, hik, hk, hi, hv, hkX, hoX, hLk, HQ⟩ := hrel
    subst hi hv
    have HBad : Hid (rQ (sfx s k) = none → ∀ w', Kp w w' → R (.returned (.tuple #[.string ⟨#[]⟩, .int .i64 0])) w') := fun h w' hw => HR.out.bad w' (by rw [HQ.out]; exact rj_none L h) hw
    by_cases hlt : k < s.size
    · have hr : 0 ≤ ((s[k]'hlt).toNat : Int) ∧ ((s[k]'hlt).toNat : Int) ≤ 255 := by have := UInt8.toNat_lt (s[k]'hlt); omega
      have g0 := hr.1
      have HStep : Hid (∀ (c : UInt8) (j : Nat), rQ (sfx s k) = (rQ (sfx s j)).map (fun r => (c :: r.1, r.2)) → Hid (rQ (sfx s (i0 + 1)) = rj (L ++ [c]) (rQ (sfx s j)))) := fun c j h => by
        show _ = _
        rw [HQ.out, h, rj_map]
      by_cases c34 : ((s[k]'hlt).toNat : Int) = 34
      · have n34 : (((s[k]'hlt).toNat : Int) != 34) = false := by simpa using c34
        have HOk : Hid (∀ w', Kp w w' → R (.returned (.tuple #[.string (st L), .int .i64 ((k : Int) + 1 - i0)])) w') := fun w' hw => by
          have h := HR.out.ok L (sfx s (k + 1)) w' (by rw [HQ.out, q_close hlt c34]; simp [rj]) hw
          have hl : (sfx s (k + 1)).length = s.size - (k + 1) := by simp
          have e : ((s.size - (sfx s (k + 1)).length : Nat) : Int) = (k : Int) + 1 := by rw [hl]; omega
          rwa [e] at h
        have hcv := conv_own hoX.out
        clear HBad HStep HQ HN c34
        go_wp2
        exact HOk.out _ hkX.out
      · have n34 : (((s[k]'hlt).toNat : Int) != 34) = true := by simpa using c34
        by_cases c32 : ((s[k]'hlt).toNat : Int) < 32
        · have HB := Lib.hid (HBad.out (q_bad hlt c34 (.inl c32)))
          clear HBad HStep HQ HN
          go_wp2
          exact HB.out _ hkX.out
        · by_cases c126 : 126 < ((s[k]'hlt).toNat : Int)
          · have HB := Lib.hid (HBad.out (q_bad hlt c34 (.inr c126)))
            clear HBad HStep HQ HN
            go_wp2
            exact HB.out _ hkX.out
          · by_cases c92 : ((s[k]'hlt).toNat : Int) = 92
            · have n92 : (((s[k]'hlt).toNat : Int) != 92) = false := by simpa using c92
              by_cases h1 : k + 1 < s.size
              · have i1 : (k : Int) + 1 < s.size := by omega
                have g1 : 0 ≤ ((s[k + 1]'h1).toNat : Int) := by omega
                by_cases d34 : ((s[k + 1]'h1).toNat : Int) = 34
                · have m34 : (((s[k + 1]'h1).toNat : Int) == 34) = true := by simpa using d34
                  have HS := HStep.out (s[k + 1]'h1) (k + 2) (q_esc hlt c92 h1 (.inl d34))
                  clear d34 c34 c92
                  clear HBad HStep HQ HN
                  go_wp2_with (at_builtin; refine app_bytes (v := v) rfl _ _ rfl hkX.out rfl hoX.out [s[k + 1]'h1] rfl rfl (by simp; omega) ?_; intro v2 W2 ho2 hk2)
                  go_roundw
                  case rel => exact ⟨k + 2, v2, _, by omega, by omega, by go_num, rfl, hk2, ho2, by simp; omega, HS⟩
                  case measure => simp [intOf]; omega
                · have m34 : (((s[k + 1]'h1).toNat : Int) == 34) = false := by simpa using d34
                  by_cases d92 : ((s[k + 1]'h1).toNat : Int) = 92
                  · have m92 : (((s[k + 1]'h1).toNat : Int) == 92) = true := by simpa using d92
                    have HS := HStep.out (s[k + 1]'h1) (k + 2) (q_esc hlt c92 h1 (.inr d92))
                    clear d34 d92 c34 c92
                    clear HBad HStep HQ HN
                    go_wp2_with (at_builtin; refine app_bytes (v := v) rfl _ _ rfl hkX.out rfl hoX.out [s[k + 1]'h1] rfl rfl (by simp; omega) ?_; intro v2 W2 ho2 hk2)
                    go_roundw
                    case rel => exact ⟨k + 2, v2, _, by omega, by omega, by go_num, rfl, hk2, ho2, by simp; omega, HS⟩
                    case measure => simp [intOf]; omega
                  · have m92 : (((s[k + 1]'h1).toNat : Int) == 92) = false := by simpa using d92
                    by_cases h3 : k + 3 < s.size
                    · have i3 : (k : Int) + 3 < s.size := by omega
                      have h2 : k + 2 < s.size := by omega
                      by_cases d120 : ((s[k + 1]'h1).toNat : Int) = 120
                      · have m120 : (((s[k + 1]'h1).toNat : Int) == 120) = true := by simpa using d120
                        have HN2 := Lib.hid (HN.out (k + 2) h2)
                        have HN3 := Lib.hid (HN.out (k + 3) h3)
                        have za := nibZ_lt ((s[k + 2]'h2).toNat : Int)
                        have zb := nibZ_lt ((s[k + 3]'h3).toNat : Int)
                        have e4 := q_esc_no hlt c92 h1 d34 d92
                        by_cases a0 : 0 ≤ nibZ ((s[k + 2]'h2).toNat : Int)
                        · by_cases b0 : 0 ≤ nibZ ((s[k + 3]'h3).toNat : Int)
                          · have HX := q_hex hlt c92 h3 d120 a0 b0
                            clear e4 d34 d92 c34 c92 d120
                            generalize nibZ ((s[k + 2]'h2).toNat : Int) = A at *
                            generalize nibZ ((s[k + 3]'h3).toNat : Int) = B at *
                            by_cases l32 : 32 ≤ 16 * A + B
                            · by_cases l126 : 16 * A + B ≤ 126
                              · rw [if_pos ⟨l32, l126⟩] at HX
                                have HB := Lib.hid (HBad.out HX)
                                have p0 : 0 ≤ 16 * A + B := by omega
                                have p1 : 16 * A + B ≤ 255 := by omega
                                have za1 := za.1
                                have zb1 := zb.1
                                clear HBad HStep HQ HN
                                go_wp2_with (first | (go_at_call 163; (with_reducible refine Calls_ret (HN2.out _) ?_); intro y2) | (go_at_call 163; (with_reducible refine Calls_ret (HN3.out _) ?_); intro y3))
                                have hkZ : Hid (Kp w (xt X (xx X y2 y3))) := hkX.out.more _
                                have hoZ := Lib.hid (hoX.out.kp (kp_xt X (xx X y2 y3)))
                                generalize xt X (xx X y2 y3) = Z at *
                                refine wp_region_xt (by kernel_rfl) (by kernel_rfl) ?_
                                repeat (go_big_quiet_step (first | (with_reducible exact Calls_in (HN2.out _)) | (with_reducible exact Calls_in (HN3.out _))))
                                refine wpQuiet_nil ?_
                                intro y9
                                go_wp2
                                exact HB.out _ (hkZ.out.more _)
                              · rw [if_neg (fun h => l126 h.2)] at HX
                                have HS := HStep.out _ (k + 4) HX
                                have hb8 : ((UInt8.ofNat (16 * A + B).toNat).toNat : Int) = 16 * A + B := by rw [UInt8.toNat_ofNat']; omega
                                replace hb8 := Lib.hid hb8
                                have p0 : 0 ≤ 16 * A + B := by omega
                                have p1 : 16 * A + B ≤ 255 := by omega
                                have za1 := za.1
                                have zb1 := zb.1
                                clear HBad HStep HQ HN
                                go_wp2_with (first | (go_at_call 163; (with_reducible refine Calls_ret (HN2.out _) ?_); intro y2) | (go_at_call 163; (with_reducible refine Calls_ret (HN3.out _) ?_); intro y3))
                                have hkZ : Hid (Kp w (xt X (xx X y2 y3))) := hkX.out.more _
                                have hoZ := Lib.hid (hoX.out.kp (kp_xt X (xx X y2 y3)))
                                generalize xt X (xx X y2 y3) = Z at *
                                refine wp_region_xt (by kernel_rfl) (by kernel_rfl) ?_
                                repeat (go_big_quiet_step (first | (with_reducible exact Calls_in (HN2.out _)) | (with_reducible exact Calls_in (HN3.out _))))
                                refine wpQuiet_nil ?_
                                intro y9
                                replace hkZ := Lib.hid (hkZ.out.more y9)
                                replace hoZ := Lib.hid (hoZ.out.kp (kp_xt Z y9))
                                generalize xt Z y9 = Z2 at *
                                go_wp2_with (at_builtin; refine app_bytes (v := v) rfl _ _ rfl hkZ.out rfl hoZ.out [UInt8.ofNat (16 * A + B).toNat] (by simp only [Lib.byteCells, List.map_cons, List.map_nil, hb8.out]) rfl (by simp; omega) ?_; intro v2 W2 ho2 hk2)
                                go_roundw
                                case rel => exact ⟨k + 4, v2, _, by omega, by omega, by go_num, rfl, hk2, ho2, by simp; omega, HS⟩
                                case measure => simp [intOf]; omega
                            · rw [if_neg (fun h => l32 h.1)] at HX
                              have HS := HStep.out _ (k + 4) HX
                              have hb8 : ((UInt8.ofNat (16 * A + B).toNat).toNat : Int) = 16 * A + B := by rw [UInt8.toNat_ofNat']; omega
                              replace hb8 := Lib.hid hb8
                              have p0 : 0 ≤ 16 * A + B := by omega
                              have p1 : 16 * A + B ≤ 255 := by omega
                              have za1 := za.1
                              have zb1 := zb.1
                              clear HBad HStep HQ HN
                              go_wp2_with (first | (go_at_call 163; (with_reducible refine Calls_ret (HN2.out _) ?_); intro y2) | (go_at_call 163; (with_reducible refine Calls_ret (HN3.out _) ?_); intro y3))
                              have hkZ : Hid (Kp w (xt X (xx X y2 y3))) := hkX.out.more _
                              have hoZ := Lib.hid (hoX.out.kp (kp_xt X (xx X y2 y3)))
                              generalize xt X (xx X y2 y3) = Z at *
                              refine wp_region_xt (by kernel_rfl) (by kernel_rfl) ?_
                              repeat (go_big_quiet_step (first | (with_reducible exact Calls_in (HN2.out _)) | (with_reducible exact Calls_in (HN3.out _))))
                              refine wpQuiet_nil ?_
                              intro y9
                              replace hkZ := Lib.hid (hkZ.out.more y9)
                              replace hoZ := Lib.hid (hoZ.out.kp (kp_xt Z y9))
                              generalize xt Z y9 = Z2 at *
                              go_wp2_with (at_builtin; refine app_bytes (v := v) rfl _ _ rfl hkZ.out rfl hoZ.out [UInt8.ofNat (16 * A + B).toNat] (by simp only [Lib.byteCells, List.map_cons, List.map_nil, hb8.out]) rfl (by simp; omega) ?_; intro v2 W2 ho2 hk2)
                              go_roundw
                              case rel => exact ⟨k + 4, v2, _, by omega, by omega, by go_num, rfl, hk2, ho2, by simp; omega, HS⟩
                              case measure => simp [intOf]; omega
                          · have HB := Lib.hid (HBad.out (e4 (.inr (.inr ⟨h3, .inr (by omega)⟩))))
                            clear e4 d34 d92 c34 c92 d120
                            generalize nibZ ((s[k + 2]'h2).toNat : Int) = A at *
                            generalize nibZ ((s[k + 3]'h3).toNat : Int) = B at *
                            clear HBad HStep HQ HN
                            go_wp2_with (first | (go_at_call 163; (with_reducible refine Calls_ret (HN2.out _) ?_); intro y2) | (go_at_call 163; (with_reducible refine Calls_ret (HN3.out _) ?_); intro y3))
                            exact HB.out _ (hkX.out.more _)
                        · have HB := Lib.hid (HBad.out (e4 (.inr (.inr ⟨h3, .inl (by omega)⟩))))
                          clear e4 d34 d92 c34 c92 d120
                          generalize nibZ ((s[k + 2]'h2).toNat : Int) = A at *
                          generalize nibZ ((s[k + 3]'h3).toNat : Int) = B at *
                          clear HBad HStep HQ HN
                          go_wp2_with (first | (go_at_call 163; (with_reducible refine Calls_ret (HN2.out _) ?_); intro y2) | (go_at_call 163; (with_reducible refine Calls_ret (HN3.out _) ?_); intro y3))
                          exact HB.out _ (hkX.out.more _)
                      · have m120 : (((s[k + 1]'h1).toNat : Int) == 120) = false := by simpa using d120
                        have HB := Lib.hid (HBad.out (q_esc_no hlt c92 h1 d34 d92 (.inr (.inl d120))))
                        clear d34 d92 c34 c92 d120
                        clear HBad HStep HQ HN
                        go_wp2
                        exact HB.out _ hkX.out
                    · have i3 : ¬ (k : Int) + 3 < s.size := by omega
                      have HB := Lib.hid (HBad.out (q_esc_no hlt c92 h1 d34 d92 (.inl h3)))
                      clear d34 d92 c34 c92
                      clear HBad HStep HQ HN
                      go_wp2
                      exact HB.out _ hkX.out
              · have i1 : ¬ (k : Int) + 1 < s.size := by omega
                have i3 : ¬ (k : Int) + 3 < s.size := by omega
                have HB := Lib.hid (HBad.out (q_92_end hlt c92 h1))
                clear c34 c92
                clear HBad HStep HQ HN
                go_wp2
                exact HB.out _ hkX.out
            · have n92 : (((s[k]'hlt).toNat : Int) != 92) = true := by simpa using c92
              have HS := HStep.out (s[k]'hlt) (k + 1) (q_plain hlt c34 (fun h => h.elim c32 c126) c92)
              clear c34 c92
              clear HBad HStep HQ HN
              go_wp2_with (at_builtin; refine app_bytes (v := v) rfl _ _ rfl hkX.out rfl hoX.out [s[k]'hlt] rfl rfl (by simp; omega) ?_; intro v2 W2 ho2 hk2)
              go_roundw
              case rel => exact ⟨k + 1, v2, _, by omega, by omega, by go_num, rfl, hk2, ho2, by simp; omega, HS⟩
              case measure => simp [intOf]; omega
    · have HB := Lib.hid (HBad.out (q_end (by omega)))
      clear HBad HQ HN
      go_wp2
      exact HB.out _ hkX.out
theorem quote_ok (s : ByteArray) (i0 : Nat) (w : World) (hs : s.size ≤ 100000) (h0 : i0 < s.size) (h34 : ((s[i0]'h0).toNat : Int) = 34) {l rest : Bs} (h : rQ (sfx s (i0 + 1)) = some (l, rest)) : Calls Tryz.prog 125 #[.string s, .int .i64 i0] w (Ret w (.tuple #[.string (st l), .int .i64 (((s.size - rest.length : Nat) : Int) - i0)])) :=
  quote_walk s i0 w hs h0 h34 _ (Lib.hid ⟨fun l2 r2 w' h2 hk => (by rw [h] at h2; cases h2; exact ⟨rfl, hk⟩), fun w' h2 hk => (by rw [h] at h2; cases h2)⟩)
theorem quote_bad (s : ByteArray) (i0 : Nat) (w : World) (hs : s.size ≤ 100000) (h0 : i0 < s.size) (h34 : ((s[i0]'h0).toNat : Int) = 34) (h : rQ (sfx s (i0 + 1)) = none) : Calls Tryz.prog 125 #[.string s, .int .i64 i0] w (Ret w (.tuple #[.string ⟨#[]⟩, .int .i64 0])) :=
  quote_walk s i0 w hs h0 h34 _ (Lib.hid ⟨fun l2 r2 w' h2 hk => (by rw [h] at h2; cases h2), fun w' h2 hk => ⟨rfl, hk⟩⟩)
end Go.Proofs.YtpmheafccfnfjaaGreatDoor
