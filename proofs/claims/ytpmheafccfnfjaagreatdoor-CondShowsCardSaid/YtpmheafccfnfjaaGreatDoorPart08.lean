/- The reference's split. The reference's reader: now, skip, name, in. The reference's Literal at the head of a word; side. The reference's side. -/
import Derived.Test.YtpmheafccfnfjaaGreatDoorPart07
set_option linter.unusedSimpArgs false
set_option linter.unusedVariables false
namespace Go.Proofs.YtpmheafccfnfjaaGreatDoor
open Go Go.RowKit
theorem splitF_fuel : ∀ (f g : Nat) (r : Bs), r.length ≤ f → r.length ≤ g → splitF f r = splitF g r
  | 0, 0, _, _, _ => rfl
  | 0, g + 1, r, hf, _ => by
    have : r = [] := List.eq_nil_of_length_eq_zero (by omega)
    subst this
    simp [splitF, dropB]
  | f + 1, 0, r, _, hg => by
    have : r = [] := List.eq_nil_of_length_eq_zero (by omega)
    subst this
    simp [splitF, dropB]
  | f + 1, g + 1, r, hf, hg => by
    unfold splitF
    split
    · rfl
    · rename_i h0
      cases hs : stepR (dropB r) with
      | none => rfl
      | some n =>
        have hn := step_len hs
        have h1 := wordLen_pos h0
        have h2 := dropB_le r
        have h3 : ((dropB r).drop n).length ≤ (dropB r).length - 1 := by rw [List.length_drop]; omega
        simp only
        rw [splitF_fuel f g _ (by omega) (by omega)]
theorem spl_eq (r : Bs) : rSplit r = if dropB r = [] then some [] else match stepR (dropB r) with
    | none => none
    | some n => (rSplit ((dropB r).drop n)).map ((dropB r).take n :: ·) := by
  have h : rSplit r = splitF (r.length + 1) r := splitF_fuel _ _ _ (Nat.le_refl _) (Nat.le_succ _)
  rw [h]
  conv => lhs; unfold splitF
  split
  · rfl
  · rename_i h0
    cases hs : stepR (dropB r) with
    | none => rfl
    | some n =>
      have hn := step_len hs
      have h1 := wordLen_pos h0
      have h2 := dropB_le r
      simp only
      rw [rSplit, splitF_fuel r.length _ _ (by rw [List.length_drop]; omega) (Nat.le_refl _)]
section
variable {s : ByteArray} {k : Nat}
theorem spl_end (h : s.size ≤ k) : rSplit (sfx s k) = some [] := by rw [sfx_nil h]; rfl
theorem spl_32 (h : k < s.size) (e : ((s[k]'h).toNat : Int) = 32) : rSplit (sfx s k) = rSplit (sfx s (k + 1)) := by
  rw [spl_eq, spl_eq (sfx s (k + 1)), sfx_c h, (zc h 32).1 e]
  rfl
theorem drop_no (h : k < s.size) (e : ¬ ((s[k]'h).toNat : Int) = 32) : dropB (sfx s k) = sfx s k := by
  have : s[k]'h ≠ 32 := fun x => e ((zc h 32).2 x)
  rw [sfx_c h]
  unfold dropB
  rw [List.dropWhile_cons]
  simp [this]
theorem spl_none (h : k < s.size) (e : ¬ ((s[k]'h).toNat : Int) = 32) (hs : stepR (sfx s k) = none) : rSplit (sfx s k) = none := by
  rw [spl_eq, drop_no h e, hs, if_neg (by rw [sfx_c h]; simp)]
theorem spl_some (h : k < s.size) (e : ¬ ((s[k]'h).toNat : Int) = 32) {n : Nat} (hs : stepR (sfx s k) = some n) : rSplit (sfx s k) = (rSplit (sfx s (k + n))).map ((sfx s k).take n :: ·) ∧ 0 < n ∧ k + n ≤ s.size := by
  have hn := step_len hs
  have hne : sfx s k ≠ [] := by rw [sfx_c h]; simp
  have h1 := wordLen_pos hne
  have h2 := wordLen_le (sfx s k)
  have hl : (sfx s k).length = s.size - k := by simp
  refine ⟨?_, by omega, by omega⟩
  rw [spl_eq, drop_no h e, hs, if_neg hne]
  simp only
  unfold sfx
  rw [List.drop_drop]
theorem sub_st {n : Nat} (h : k + n ≤ s.size) : s.extract k (k + n) = st ((sfx s k).take n) := by
  apply toList_inj
  rw [toList_data, ext_data, st_list']
  unfold sfx
  rw [List.drop_take]
  congr 1
  omega
theorem sub_list {n : Nat} (h : k + n ≤ s.size) : (s.extract k (k + n)).data.toList = (sfx s k).take n := by rw [sub_st h, st_list]
theorem inn_Z (h : k < s.size) : inn (s[k]'h) = innerZ ((s[k]'h).toNat : Int) := rfl
/-- How many bytes of a word stand behind the first. -/
theorem tw_at {j : Nat} (h : k < s.size) (hj1 : 1 ≤ j) (hj : k + j ≤ s.size) (hin : ∀ i, 1 ≤ i → i < j → innerZ (bt s (k + i)) = true) (he : k + j < s.size → innerZ (bt s (k + j)) = false) : 1 + ((sfx s (k + 1)).takeWhile inn).length = j ∧ s[k]'h :: (sfx s (k + 1)).takeWhile inn = (sfx s k).take j := by
  have hl : (sfx s (k + 1)).length = s.size - (k + 1) := by simp
  have e : ((sfx s (k + 1)).takeWhile inn).length = j - 1 := by
    refine tw_len (by omega) (fun i hi hij => ?_) (fun hi => ?_)
    · have := hin (1 + i) (by omega) (by omega)
      rw [bt_list (by omega)] at this
      unfold sfx
      rw [List.getElem_drop]
      have e : k + 1 + i = k + (1 + i) := by omega
      simp only [e]
      exact this
    · have := he (by omega)
      rw [bt_list (by omega)] at this
      unfold sfx
      rw [List.getElem_drop]
      have e : k + 1 + (j - 1) = k + j := by omega
      simp only [e]
      exact this
  refine ⟨by omega, ?_⟩
  have e2 : (sfx s (k + 1)).takeWhile inn = (sfx s (k + 1)).take (j - 1) := by
    have := List.prefix_iff_eq_take.1 (List.takeWhile_prefix (p := inn) (l := sfx s (k + 1)))
    rw [e] at this
    exact this
  rw [e2, sfx_c h]
  obtain ⟨i, rfl⟩ : ∃ i, j = i + 1 := ⟨j - 1, by omega⟩
  rfl
end
theorem own_start (w : World) : OwnT w.heap.size w (.slice none 0 0) [] := ⟨rfl, .inl ⟨rfl, rfl⟩⟩
/-- What split hands back. -/
structure SpR (w : World) (s : ByteArray) (R : Ending → World → Prop) : Prop where
  ok : ∀ L v w', rSplit s.data.toList = some L → Kp w w' → OwnT w.heap.size w' v (L.map st) → L.length ≤ s.size → R (.returned (.tuple #[v, .bool true])) w'
  bad : ∀ w', rSplit s.data.toList = none → Kp w w' → R (.returned (.tuple #[.slice none 0 0, .bool false])) w'
set_option maxHeartbeats 8000000 in
set_option maxRecDepth 100000 in
theorem split_walk (s : ByteArray) (w : World) (hs : s.size ≤ 100000) (R : Ending → World → Prop) (HR : Hid (SpR w s R)) :
    Calls Tryz.prog 79 #[.string s] w R := by
  have HWd := Lib.hid (fun (c : Int) W => rword_ret c W)
  go_enter Tryz.func79, Tryz.ntmps79
  go_wp2
  go_loopw [4, 5] (fun v i wr => ∃ (k : Nat) (v' : Value) (acc : List Bs), k ≤ s.size ∧ i = .int .i64 k ∧ v' = v ∧ Hid (Kp w wr) ∧ Hid (OwnT w.heap.size wr v' (acc.map st)) ∧ acc.length ≤ k ∧ Hid (rSplit s.data.toList = (rSplit (sfx s k)).map (acc ++ ·))) (fun _ i _ => s.size - (intOf i).toNat)
  case atStart =>
    refine ⟨0, _, [], Nat.zero_le _, rfl, rfl, Kp.refl w, own_start w, by simp, ?_⟩
    show _ = _
    rw [show sfx s 0 = s.data.toList from rfl]
    cases rSplit s.data.toList <;> rfl
  case round =>
    rename World => X
    obtain ⟨k, v, acc, hk, hi, hv, hkX, hoX, hak, HQ⟩ := hrel
    subst hi hv
    have hal : (acc.map st).length ≤ 200000 := by rw [List.length_map]; omega
    by_cases hlt : k < s.size
    · have hr : 0 ≤ ((s[k]'hlt).toNat : Int) ∧ ((s[k]'hlt).toNat : Int) ≤ 255 := by have := UInt8.toNat_lt (s[k]'hlt); omega
      have g0 := hr.1
      by_cases c32 : ((s[k]'hlt).toNat : Int) = 32
      · have n32 : (((s[k]'hlt).toNat : Int) == 32) = true := by simpa using c32
        have HS : Hid (rSplit s.data.toList = (rSplit (sfx s (k + 1))).map (acc ++ ·)) := by
          show _ = _
          rw [HQ.out, spl_32 hlt c32]
        clear HQ c32
        go_wp2
        go_roundw
        case rel => exact ⟨k + 1, v, acc, by omega, by go_num, rfl, hkX, hoX, by omega, HS⟩
        case measure => simp [intOf]; omega
      · have n32 : (((s[k]'hlt).toNat : Int) == 32) = false := by simpa using c32
        have HFail : Hid (stepR (sfx s k) = none → ∀ w', Kp w w' → R (.returned (.tuple #[.slice none 0 0, .bool false])) w') := fun h w' hw => HR.out.bad w' (by rw [HQ.out, spl_none hlt c32 h]; rfl) hw
        have HStep : Hid (∀ n, stepR (sfx s k) = some n → Hid (rSplit s.data.toList = (rSplit (sfx s (k + n))).map ((acc ++ [(sfx s k).take n]) ++ ·)) ∧ 0 < n ∧ k + n ≤ s.size) := fun n h => by
          obtain ⟨e1, e2, e3⟩ := spl_some hlt c32 h
          refine ⟨?_, e2, e3⟩
          show _ = _
          rw [HQ.out, e1]
          cases rSplit (sfx s (k + n)) <;> simp
        have hsc := sfx_c hlt
        clear HQ
        by_cases c95 : ((s[k]'hlt).toNat : Int) = 95
        · have n95 : (((s[k]'hlt).toNat : Int) != 95) = false := by simpa using c95
          have hin : innerZ ((s[k]'hlt).toNat : Int) = true := by rw [c95]; decide
          have HW1 := Lib.hid (HWd.out ((s[k]'hlt).toNat : Int))
          rw [hin] at HW1
          have HB := Lib.hid (HFail.out (by
            have e := (zc hlt 95).1 c95
            rw [hsc, e, stepR_c]
            rw [if_neg (by decide), if_neg (by decide), if_neg (by decide), if_neg (by simp), if_neg (by simp)]))
          have m45 : (((s[k]'hlt).toNat : Int) == 45) = false := by rw [c95]; rfl
          have m34 : (((s[k]'hlt).toNat : Int) == 34) = false := by rw [c95]; rfl
          have m60 : (((s[k]'hlt).toNat : Int) == 60) = false := by rw [c95]; rfl
          have m62 : (((s[k]'hlt).toNat : Int) == 62) = false := by rw [c95]; rfl
          have q40 : (((s[k]'hlt).toNat : Int) != 40) = true := by rw [c95]; rfl
          have q41 : (((s[k]'hlt).toNat : Int) != 41) = true := by rw [c95]; rfl
          have q58 : (((s[k]'hlt).toNat : Int) != 58) = true := by rw [c95]; rfl
          have q61 : (((s[k]'hlt).toNat : Int) != 61) = true := by rw [c95]; rfl
          have q60 : (((s[k]'hlt).toNat : Int) != 60) = true := by rw [c95]; rfl
          have q62 : (((s[k]'hlt).toNat : Int) != 62) = true := by rw [c95]; rfl
          clear hsc HFail HStep c95 c32 hin
          go_wp2_with (go_at_call 123; (with_reducible refine Calls_ret (HW1.out _) ?_); intro y1)
          exact HB.out _ (hkX.out.more _)
        · have n95 : (((s[k]'hlt).toNat : Int) != 95) = true := by simpa using c95
          by_cases hin : innerZ ((s[k]'hlt).toNat : Int) = true
          · have HW1 := Lib.hid (HWd.out ((s[k]'hlt).toNat : Int))
            rw [hin] at HW1
            have hstep := fun j h1 h2 h3 h4 => tw_at (s := s) (k := k) (j := j) hlt h1 h2 h3 h4
            have hcond : (inn (s[k]'hlt) && s[k]'hlt != 95) = true := by
              rw [Bool.and_eq_true]
              exact ⟨hin, by rw [bne_iff_ne]; exact fun x => c95 ((zc hlt 95).2 x)⟩
            by_cases c97 : 97 ≤ ((s[k]'hlt).toNat : Int)
            · have hu97 : 97 ≤ s[k]'hlt := by rw [UInt8.le_iff_toNat_le]; show 97 ≤ (s[k]'hlt).toNat; omega
              have hst : ∀ j, 1 + ((sfx s (k + 1)).takeWhile inn).length = j ∧ s[k]'hlt :: (sfx s (k + 1)).takeWhile inn = (sfx s k).take j → stepR (sfx s k) = if nameOK ((sfx s k).take j) then some j else none := fun j hj => by
                conv => lhs; rw [hsc, stepR_c, if_pos hcond, if_pos hu97, hj.2, hj.1]
              replace hst := Lib.hid hst
              replace hstep := Lib.hid hstep
              clear hsc c32 c95 hin hcond hu97
              as_aux_lemma =>
                go_wp2_with (go_at_call 123; (with_reducible refine Calls_ret (HW1.out _) ?_); intro y1)
                go_loopw [7] (fun n wr' => ∃ j : Nat, 1 ≤ j ∧ k + j ≤ s.size ∧ n = .int .i64 j ∧ Hid (Kp X wr') ∧ Hid (∀ i, 1 ≤ i → i < j → innerZ (bt s (k + i)) = true)) (fun n _ => s.size - (intOf n).toNat)
                case atStart => exact ⟨1, Nat.le_refl _, by omega, rfl, kp_xt _ _, fun i h1 h2 => absurd h2 (by omega)⟩
                case round =>
                  rename World => Y
                  obtain ⟨j, hj1, hjk, hjv, hkY, HI⟩ := hrel
                  subst hjv
                  by_cases hgo : ∃ h : k + j < s.size, innerZ ((s[k + j]'h).toNat : Int) = true
                  · obtain ⟨hlt2, hin2⟩ := hgo
                    have HW2 := Lib.hid (HWd.out ((s[k + j]'hlt2).toNat : Int))
                    rw [hin2] at HW2
                    have i2 : (k : Int) + j < s.size := by omega
                    have i3 : 0 ≤ (k : Int) + j := by omega
                    have HI2 : Hid (∀ i, 1 ≤ i → i < j + 1 → innerZ (bt s (k + i)) = true) := fun i h1 h2 => by
                      rcases Nat.lt_succ_iff_lt_or_eq.1 h2 with h | rfl
                      · exact HI.out i h1 h
                      · rw [← bt_of hlt2]; exact hin2
                    clear HI hin2 hst hstep HFail HStep
                    go_wp2_with (go_at_call 123; (with_reducible refine Calls_ret (HW2.out _) ?_); intro y3)
                    go_roundw
                    case rel => exact ⟨j + 1, by omega, by omega, by go_num, hkY.out.more _, HI2⟩
                    case measure => simp [intOf]; omega
                  · have hj := hstep.out j hj1 hjk HI.out (fun h => by
                      rw [← bt_of h]
                      have : ¬ innerZ ((s[k + j]'h).toNat : Int) = true := fun h2 => hgo ⟨h, h2⟩
                      simpa using this)
                    have hs2 := hst.out j hj
                    have hsub := Lib.hid (sub_st hjk)
                    have hex : ¬ (k : Int) + j < s.size ∨ ∃ h : k + j < s.size, innerZ ((s[k + j]'h).toNat : Int) = false := by
                      by_cases h : k + j < s.size
                      · right
                        have : ¬ innerZ ((s[k + j]'h).toNat : Int) = true := fun h2 => hgo ⟨h, h2⟩
                        exact ⟨h, by simpa using this⟩
                      · left; omega
                    have HC := Lib.hid (fun W => rname_ret (s.extract k (k + j)) W)
                    rw [sub_list hjk] at HC
                    have i3 : 0 ≤ (k : Int) + j := by omega
                    have i4 : (k : Int) + j ≤ s.size := by omega
                    have hkW : Hid (Kp w Y) := hkX.out.trans hkY.out
                    have hoY := Lib.hid (hoX.out.kp hkY.out)
                    clear hgo HI hst hstep hj
                    cases hok : nameOK ((sfx s k).take j) with
                    | false =>
                      rw [hok] at HC hs2
                      have HB := Lib.hid (HFail.out hs2)
                      clear hok hs2 HFail HStep
                      rcases hex with hex | ⟨hlt2, hin2⟩
                      · go_wp2_with (go_at_call 70; (with_reducible refine Calls_ret (HC.out _) ?_); intro y5)
                        exact HB.out _ (hkW.out.more _)
                      · have HW2 := Lib.hid (HWd.out ((s[k + j]'hlt2).toNat : Int))
                        rw [hin2] at HW2
                        have i2 : (k : Int) + j < s.size := by omega
                        clear hin2
                        go_wp2_with (first | (go_at_call 123; (with_reducible refine Calls_ret (HW2.out _) ?_); intro y3) | (go_at_call 70; (with_reducible refine Calls_ret (HC.out _) ?_); intro y5))
                        exact HB.out _ (hkW.out.more _)
                    | true =>
                      rw [hok] at HC hs2
                      obtain ⟨HS, hn0, hnk⟩ := HStep.out j hs2
                      clear hok hs2 HFail HStep
                      rcases hex with hex | ⟨hlt2, hin2⟩
                      · go_wp2_with (first | (go_at_call 70; (with_reducible refine Calls_ret (HC.out _) ?_); intro y5) | (at_builtin; refine app_text (v := v) rfl _ _ rfl (hkW.out.more _) rfl (hoY.out.kp (kp_xt Y _)) (s.extract k (k + j)) rfl (by omega) ?_; intro g cap y7 ho7))
                        go_roundw
                        case rel =>
                          refine ⟨k + j, _, acc ++ [(sfx s k).take j], by omega, by go_num, rfl, kp_xt _ _, ?_, by simp; omega, HS⟩
                          rw [List.map_append, List.map_cons, List.map_nil, ← hsub.out]
                          rw [List.length_map] at ho7
                          exact ho7
                        case measure => simp [intOf]; omega
                      · have HW2 := Lib.hid (HWd.out ((s[k + j]'hlt2).toNat : Int))
                        rw [hin2] at HW2
                        have i2 : (k : Int) + j < s.size := by omega
                        clear hin2
                        go_wp2_with (first | (go_at_call 123; (with_reducible refine Calls_ret (HW2.out _) ?_); intro y3) | (go_at_call 70; (with_reducible refine Calls_ret (HC.out _) ?_); intro y5) | (at_builtin; refine app_text (v := v) rfl _ _ rfl (hkW.out.more _) rfl (hoY.out.kp (kp_xt Y _)) (s.extract k (k + j)) rfl (by omega) ?_; intro g cap y7 ho7))
                        go_roundw
                        case rel =>
                          refine ⟨k + j, _, acc ++ [(sfx s k).take j], by omega, by go_num, rfl, kp_xt _ _, ?_, by simp; omega, HS⟩
                          rw [List.map_append, List.map_cons, List.map_nil, ← hsub.out]
                          rw [List.length_map] at ho7
                          exact ho7
                        case measure => simp [intOf]; omega
            · have hu97 : ¬ 97 ≤ s[k]'hlt := by rw [UInt8.le_iff_toNat_le]; show ¬ 97 ≤ (s[k]'hlt).toNat; omega
              have hst : ∀ j, 1 + ((sfx s (k + 1)).takeWhile inn).length = j ∧ s[k]'hlt :: (sfx s (k + 1)).takeWhile inn = (sfx s k).take j → stepR (sfx s k) = if rWhole ((sfx s k).take j) then some j else none := fun j hj => by
                conv => lhs; rw [hsc, stepR_c, if_pos hcond, if_neg hu97, hj.2, hj.1]
              replace hst := Lib.hid hst
              replace hstep := Lib.hid hstep
              clear hsc c32 c95 hin hcond hu97
              as_aux_lemma =>
                go_wp2_with (go_at_call 123; (with_reducible refine Calls_ret (HW1.out _) ?_); intro y1)
                go_loopw [7] (fun n wr' => ∃ j : Nat, 1 ≤ j ∧ k + j ≤ s.size ∧ n = .int .i64 j ∧ Hid (Kp X wr') ∧ Hid (∀ i, 1 ≤ i → i < j → innerZ (bt s (k + i)) = true)) (fun n _ => s.size - (intOf n).toNat)
                case atStart => exact ⟨1, Nat.le_refl _, by omega, rfl, kp_xt _ _, fun i h1 h2 => absurd h2 (by omega)⟩
                case round =>
                  rename World => Y
                  obtain ⟨j, hj1, hjk, hjv, hkY, HI⟩ := hrel
                  subst hjv
                  by_cases hgo : ∃ h : k + j < s.size, innerZ ((s[k + j]'h).toNat : Int) = true
                  · obtain ⟨hlt2, hin2⟩ := hgo
                    have HW2 := Lib.hid (HWd.out ((s[k + j]'hlt2).toNat : Int))
                    rw [hin2] at HW2
                    have i2 : (k : Int) + j < s.size := by omega
                    have i3 : 0 ≤ (k : Int) + j := by omega
                    have HI2 : Hid (∀ i, 1 ≤ i → i < j + 1 → innerZ (bt s (k + i)) = true) := fun i h1 h2 => by
                      rcases Nat.lt_succ_iff_lt_or_eq.1 h2 with h | rfl
                      · exact HI.out i h1 h
                      · rw [← bt_of hlt2]; exact hin2
                    clear HI hin2 hst hstep HFail HStep
                    go_wp2_with (go_at_call 123; (with_reducible refine Calls_ret (HW2.out _) ?_); intro y3)
                    go_roundw
                    case rel => exact ⟨j + 1, by omega, by omega, by go_num, hkY.out.more _, HI2⟩
                    case measure => simp [intOf]; omega
                  · have hj := hstep.out j hj1 hjk HI.out (fun h => by
                      rw [← bt_of h]
                      have : ¬ innerZ ((s[k + j]'h).toNat : Int) = true := fun h2 => hgo ⟨h, h2⟩
                      simpa using this)
                    have hs2 := hst.out j hj
                    have hsub := Lib.hid (sub_st hjk)
                    have hex : ¬ (k : Int) + j < s.size ∨ ∃ h : k + j < s.size, innerZ ((s[k + j]'h).toNat : Int) = false := by
                      by_cases h : k + j < s.size
                      · right
                        have : ¬ innerZ ((s[k + j]'h).toNat : Int) = true := fun h2 => hgo ⟨h, h2⟩
                        exact ⟨h, by simpa using this⟩
                      · left; omega
                    have HC := Lib.hid (fun W => rwhole_ret (s.extract k (k + j)) W (by rw [ext_size hjk]; omega))
                    rw [sub_list hjk] at HC
                    have i3 : 0 ≤ (k : Int) + j := by omega
                    have i4 : (k : Int) + j ≤ s.size := by omega
                    have hkW : Hid (Kp w Y) := hkX.out.trans hkY.out
                    have hoY := Lib.hid (hoX.out.kp hkY.out)
                    clear hgo HI hst hstep hj
                    cases hok : rWhole ((sfx s k).take j) with
                    | false =>
                      rw [hok] at HC hs2
                      have HB := Lib.hid (HFail.out hs2)
                      clear hok hs2 HFail HStep
                      rcases hex with hex | ⟨hlt2, hin2⟩
                      · go_wp2_with (go_at_call 124; (with_reducible refine Calls_ret (HC.out _) ?_); intro y5)
                        exact HB.out _ (hkW.out.more _)
                      · have HW2 := Lib.hid (HWd.out ((s[k + j]'hlt2).toNat : Int))
                        rw [hin2] at HW2
                        have i2 : (k : Int) + j < s.size := by omega
                        clear hin2
                        go_wp2_with (first | (go_at_call 123; (with_reducible refine Calls_ret (HW2.out _) ?_); intro y3) | (go_at_call 124; (with_reducible refine Calls_ret (HC.out _) ?_); intro y5))
                        exact HB.out _ (hkW.out.more _)
                    | true =>
                      rw [hok] at HC hs2
                      obtain ⟨HS, hn0, hnk⟩ := HStep.out j hs2
                      clear hok hs2 HFail HStep
                      rcases hex with hex | ⟨hlt2, hin2⟩
                      · go_wp2_with (first | (go_at_call 124; (with_reducible refine Calls_ret (HC.out _) ?_); intro y5) | (at_builtin; refine app_text (v := v) rfl _ _ rfl (hkW.out.more _) rfl (hoY.out.kp (kp_xt Y _)) (s.extract k (k + j)) rfl (by omega) ?_; intro g cap y7 ho7))
                        go_roundw
                        case rel =>
                          refine ⟨k + j, _, acc ++ [(sfx s k).take j], by omega, by go_num, rfl, kp_xt _ _, ?_, by simp; omega, HS⟩
                          rw [List.map_append, List.map_cons, List.map_nil, ← hsub.out]
                          rw [List.length_map] at ho7
                          exact ho7
                        case measure => simp [intOf]; omega
                      · have HW2 := Lib.hid (HWd.out ((s[k + j]'hlt2).toNat : Int))
                        rw [hin2] at HW2
                        have i2 : (k : Int) + j < s.size := by omega
                        clear hin2
                        go_wp2_with (first | (go_at_call 123; (with_reducible refine Calls_ret (HW2.out _) ?_); intro y3) | (go_at_call 124; (with_reducible refine Calls_ret (HC.out _) ?_); intro y5) | (at_builtin; refine app_text (v := v) rfl _ _ rfl (hkW.out.more _) rfl (hoY.out.kp (kp_xt Y _)) (s.extract k (k + j)) rfl (by omega) ?_; intro g cap y7 ho7))
                        go_roundw
                        case rel =>
                          refine ⟨k + j, _, acc ++ [(sfx s k).take j], by omega, by go_num, rfl, kp_xt _ _, ?_, by simp; omega, HS⟩
                          rw [List.map_append, List.map_cons, List.map_nil, ← hsub.out]
                          rw [List.length_map] at ho7
                          exact ho7
                        case measure => simp [intOf]; omega
          · have hin' : innerZ ((s[k]'hlt).toNat : Int) = false := by simpa using hin
            have HW1 := Lib.hid (HWd.out ((s[k]'hlt).toNat : Int))
            rw [hin'] at HW1
            have hcond : ¬ (inn (s[k]'hlt) && s[k]'hlt != 95) = true := by
              rw [Bool.and_eq_true]
              exact fun x => hin x.1
            by_cases c45 : ((s[k]'hlt).toNat : Int) = 45
            · have m45 : (((s[k]'hlt).toNat : Int) == 45) = true := by simpa using c45
              have hstep := fun j h1 h2 h3 h4 => tw_at (s := s) (k := k) (j := j) hlt h1 h2 h3 h4
              have hst : ∀ j, 1 + ((sfx s (k + 1)).takeWhile inn).length = j ∧ s[k]'hlt :: (sfx s (k + 1)).takeWhile inn = (sfx s k).take j → stepR (sfx s k) = if rWhole ((sfx s k).take j) then some j else none := fun j hj => by
                conv => lhs; rw [hsc, stepR_c, if_neg hcond, if_pos ((zc hlt 45).1 c45), hj.2, hj.1]
              replace hst := Lib.hid hst
              replace hstep := Lib.hid hstep
              clear hsc c32 c95 hin hcond hin' c45
              as_aux_lemma =>
                go_wp2_with (go_at_call 123; (with_reducible refine Calls_ret (HW1.out _) ?_); intro y1)
                go_loopw [7] (fun n wr' => ∃ j : Nat, 1 ≤ j ∧ k + j ≤ s.size ∧ n = .int .i64 j ∧ Hid (Kp X wr') ∧ Hid (∀ i, 1 ≤ i → i < j → innerZ (bt s (k + i)) = true)) (fun n _ => s.size - (intOf n).toNat)
                case atStart => exact ⟨1, Nat.le_refl _, by omega, rfl, kp_xt _ _, fun i h1 h2 => absurd h2 (by omega)⟩
                case round =>
                  rename World => Y
                  obtain ⟨j, hj1, hjk, hjv, hkY, HI⟩ := hrel
                  subst hjv
                  by_cases hgo : ∃ h : k + j < s.size, innerZ ((s[k + j]'h).toNat : Int) = true
                  · obtain ⟨hlt2, hin2⟩ := hgo
                    have HW2 := Lib.hid (HWd.out ((s[k + j]'hlt2).toNat : Int))
                    rw [hin2] at HW2
                    have i2 : (k : Int) + j < s.size := by omega
                    have i3 : 0 ≤ (k : Int) + j := by omega
                    have HI2 : Hid (∀ i, 1 ≤ i → i < j + 1 → innerZ (bt s (k + i)) = true) := fun i h1 h2 => by
                      rcases Nat.lt_succ_iff_lt_or_eq.1 h2 with h | rfl
                      · exact HI.out i h1 h
                      · rw [← bt_of hlt2]; exact hin2
                    clear HI hin2 hst hstep HFail HStep
                    go_wp2_with (go_at_call 123; (with_reducible refine Calls_ret (HW2.out _) ?_); intro y3)
                    go_roundw
                    case rel => exact ⟨j + 1, by omega, by omega, by go_num, hkY.out.more _, HI2⟩
                    case measure => simp [intOf]; omega
                  · have hj := hstep.out j hj1 hjk HI.out (fun h => by
                      rw [← bt_of h]
                      have : ¬ innerZ ((s[k + j]'h).toNat : Int) = true := fun h2 => hgo ⟨h, h2⟩
                      simpa using this)
                    have hs2 := hst.out j hj
                    have hsub := Lib.hid (sub_st hjk)
                    have hex : ¬ (k : Int) + j < s.size ∨ ∃ h : k + j < s.size, innerZ ((s[k + j]'h).toNat : Int) = false := by
                      by_cases h : k + j < s.size
                      · right
                        have : ¬ innerZ ((s[k + j]'h).toNat : Int) = true := fun h2 => hgo ⟨h, h2⟩
                        exact ⟨h, by simpa using this⟩
                      · left; omega
                    have HC := Lib.hid (fun W => rwhole_ret (s.extract k (k + j)) W (by rw [ext_size hjk]; omega))
                    rw [sub_list hjk] at HC
                    have i3 : 0 ≤ (k : Int) + j := by omega
                    have i4 : (k : Int) + j ≤ s.size := by omega
                    have hkW : Hid (Kp w Y) := hkX.out.trans hkY.out
                    have hoY := Lib.hid (hoX.out.kp hkY.out)
                    clear hgo HI hst hstep hj
                    cases hok : rWhole ((sfx s k).take j) with
                    | false =>
                      rw [hok] at HC hs2
                      have HB := Lib.hid (HFail.out hs2)
                      clear hok hs2 HFail HStep
                      rcases hex with hex | ⟨hlt2, hin2⟩
                      · go_wp2_with (go_at_call 124; (with_reducible refine Calls_ret (HC.out _) ?_); intro y5)
                        exact HB.out _ (hkW.out.more _)
                      · have HW2 := Lib.hid (HWd.out ((s[k + j]'hlt2).toNat : Int))
                        rw [hin2] at HW2
                        have i2 : (k : Int) + j < s.size := by omega
                        clear hin2
                        go_wp2_with (first | (go_at_call 123; (with_reducible refine Calls_ret (HW2.out _) ?_); intro y3) | (go_at_call 124; (with_reducible refine Calls_ret (HC.out _) ?_); intro y5))
                        exact HB.out _ (hkW.out.more _)
                    | true =>
                      rw [hok] at HC hs2
                      obtain ⟨HS, hn0, hnk⟩ := HStep.out j hs2
                      clear hok hs2 HFail HStep
                      rcases hex with hex | ⟨hlt2, hin2⟩
                      · go_wp2_with (first | (go_at_call 124; (with_reducible refine Calls_ret (HC.out _) ?_); intro y5) | (at_builtin; refine app_text (v := v) rfl _ _ rfl (hkW.out.more _) rfl (hoY.out.kp (kp_xt Y _)) (s.extract k (k + j)) rfl (by omega) ?_; intro g cap y7 ho7))
                        go_roundw
                        case rel =>
                          refine ⟨k + j, _, acc ++ [(sfx s k).take j], by omega, by go_num, rfl, kp_xt _ _, ?_, by simp; omega, HS⟩
                          rw [List.map_append, List.map_cons, List.map_nil, ← hsub.out]
                          rw [List.length_map] at ho7
                          exact ho7
                        case measure => simp [intOf]; omega
                      · have HW2 := Lib.hid (HWd.out ((s[k + j]'hlt2).toNat : Int))
                        rw [hin2] at HW2
                        have i2 : (k : Int) + j < s.size := by omega
                        clear hin2
                        go_wp2_with (first | (go_at_call 123; (with_reducible refine Calls_ret (HW2.out _) ?_); intro y3) | (go_at_call 124; (with_reducible refine Calls_ret (HC.out _) ?_); intro y5) | (at_builtin; refine app_text (v := v) rfl _ _ rfl (hkW.out.more _) rfl (hoY.out.kp (kp_xt Y _)) (s.extract k (k + j)) rfl (by omega) ?_; intro g cap y7 ho7))
                        go_roundw
                        case rel =>
                          refine ⟨k + j, _, acc ++ [(sfx s k).take j], by omega, by go_num, rfl, kp_xt _ _, ?_, by simp; omega, HS⟩
                          rw [List.map_append, List.map_cons, List.map_nil, ← hsub.out]
                          rw [List.length_map] at ho7
                          exact ho7
                        case measure => simp [intOf]; omega
            · have m45 : (((s[k]'hlt).toNat : Int) == 45) = false := by simpa using c45
              have u45 : ¬ s[k]'hlt = 45 := fun x => c45 ((zc hlt 45).2 x)
              by_cases c34 : ((s[k]'hlt).toNat : Int) = 34
              · have m34 : (((s[k]'hlt).toNat : Int) == 34) = true := by simpa using c34
                have u34 := (zc hlt 34).1 c34
                have hq : stepR (sfx s k) = (rQ (sfx s (k + 1))).map (fun r => 1 + ((sfx s (k + 1)).length - r.2.length)) := by
                  conv => lhs; rw [hsc, stepR_c, if_neg hcond, if_neg u45, if_pos u34]
                cases hQ : rQ (sfx s (k + 1)) with
                | none =>
                  have HQt := Lib.hid (fun W => quote_bad s k W hs hlt c34 hQ)
                  have HB := Lib.hid (HFail.out (by rw [hq, hQ]; rfl))
                  clear hsc HFail HStep c95 c32 hin hin' hcond c45 u45 c34 u34 hq hQ
                  go_wp2_with (first | (go_at_call 123; (with_reducible refine Calls_ret (HW1.out _) ?_); intro y1) | (go_at_call 125; refine Calls_ret (HQt.out _) ?_; intro y2))
                  exact HB.out _ (hkX.out.more _)
                | some r =>
                  obtain ⟨l, rest⟩ := r
                  have HQt := Lib.hid (fun W => quote_ok s k W hs hlt c34 hQ)
                  have hrl : rest.length < (sfx s (k + 1)).length := by
                    have := rQ_some _ (Nat.le_refl _) hQ
                    have := congrArg List.length this
                    simp only [List.length_append, List.length_cons] at this
                    omega
                  have hll : (sfx s (k + 1)).length = s.size - (k + 1) := by simp
                  obtain ⟨n, hn⟩ : ∃ n, n = 1 + ((sfx s (k + 1)).length - rest.length) := ⟨_, rfl⟩
                  obtain ⟨HS, hn0, hnk⟩ := HStep.out n (by rw [hq, hQ, hn]; rfl)
                  have hnv : (((s.size - rest.length : Nat) : Int) - k) = (n : Int) := by omega
                  rw [hnv] at HQt
                  have nz : ((n : Int) == 0) = false := by simp; omega
                  have hsub := Lib.hid (sub_st hnk)
                  clear hsc HFail HStep c95 c32 hin hin' hcond c45 u45 c34 u34 hq hQ hrl hll hn hnv
                  go_wp2_with (first | (go_at_call 123; (with_reducible refine Calls_ret (HW1.out _) ?_); intro y1) | (go_at_call 125; refine Calls_ret (HQt.out _) ?_; intro y2) | (at_builtin; refine app_text (v := v) rfl _ _ rfl (hkX.out.more _) rfl (hoX.out.kp (kp_xt X _)) (s.extract k (k + n)) rfl (by omega) ?_; intro g cap y7 ho7))
                  go_roundw
                  case rel =>
                    refine ⟨k + n, _, acc ++ [(sfx s k).take n], by omega, by go_num, rfl, kp_xt _ _, ?_, by simp; omega, HS⟩
                    rw [List.map_append, List.map_cons, List.map_nil, ← hsub.out]
                    rw [List.length_map] at ho7
                    exact ho7
                  case measure => simp [intOf]; omega
              · have m34 : (((s[k]'hlt).toNat : Int) == 34) = false := by simpa using c34
                have u34 : ¬ s[k]'hlt = 34 := fun x => c34 ((zc hlt 34).2 x)
                have hstp : stepR (sfx s k) = if (s[k]'hlt = 60 ∧ ((sfx s (k + 1)).head? = some 62 ∨ (sfx s (k + 1)).head? = some 61)) ∨ (s[k]'hlt = 62 ∧ (sfx s (k + 1)).head? = some 61) then some 2
                  else if s[k]'hlt = 40 ∨ s[k]'hlt = 41 ∨ s[k]'hlt = 58 ∨ s[k]'hlt = 61 ∨ s[k]'hlt = 60 ∨ s[k]'hlt = 62 then some 1 else none := by
                  conv => lhs; rw [hsc, stepR_c, if_neg hcond, if_neg u45, if_neg u34]
                have hhd : ∀ (h1 : k + 1 < s.size) (c : UInt8), (sfx s (k + 1)).head? = some c ↔ ((s[k + 1]'h1).toNat : Int) = (c.toNat : Int) := fun h1 c => by
                  rw [sfx_c h1, List.head?_cons, Option.some.injEq]
                  exact (zc h1 c).symm
                have hhn : ¬ k + 1 < s.size → (sfx s (k + 1)).head? = none := fun h1 => by rw [sfx_nil (by omega)]; rfl
                by_cases c60 : ((s[k]'hlt).toNat : Int) = 60
                · have m60 : (((s[k]'hlt).toNat : Int) == 60) = true := by simpa using c60
                  have q60 : (((s[k]'hlt).toNat : Int) != 60) = false := by simpa using c60
                  have m62 : (((s[k]'hlt).toNat : Int) == 62) = false := by rw [c60]; rfl
                  have q40 : (((s[k]'hlt).toNat : Int) != 40) = true := by rw [c60]; rfl
                  have q41 : (((s[k]'hlt).toNat : Int) != 41) = true := by rw [c60]; rfl
                  have q58 : (((s[k]'hlt).toNat : Int) != 58) = true := by rw [c60]; rfl
                  have q61 : (((s[k]'hlt).toNat : Int) != 61) = true := by rw [c60]; rfl
                  have e60 := (zc hlt 60).1 c60
                  rw [e60] at hstp
                  by_cases h1 : k + 1 < s.size
                  · have i1 : (k : Int) + 1 < s.size := by omega
                    by_cases d62 : ((s[k + 1]'h1).toNat : Int) = 62
                    · have z62 : (((s[k + 1]'h1).toNat : Int) == 62) = true := by simpa using d62
                      obtain ⟨HS, hn0, hnk⟩ := HStep.out 2 (by rw [hstp, if_pos (.inl ⟨rfl, .inl ((hhd h1 62).2 d62)⟩)])
                      as_aux_lemma =>
                        have hsub := Lib.hid (sub_st hnk)
                        clear hsc HFail HStep c95 c32 hin hin' hcond c45 u45 c34 u34 hstp hhd hhn
                        try clear d62
                        try clear d61
                        try clear e60
                        try clear e62
                        try clear c60
                        try clear c62
                        try clear c40
                        try clear c41
                        try clear c58
                        try clear c61
                        try clear u60
                        try clear u62
                        try clear u40
                        try clear u41
                        try clear u58
                        try clear u61
                        go_wp2_with (first | (go_at_call 123; (with_reducible refine Calls_ret (HW1.out _) ?_); intro y1) | (at_builtin; refine app_text (v := v) rfl _ _ rfl (hkX.out.more _) rfl (hoX.out.kp (kp_xt X _)) (s.extract k (k + 2)) rfl (by omega) ?_; intro g cap y7 ho7))
                        go_roundw
                        case rel =>
                          refine ⟨k + 2, _, acc ++ [(sfx s k).take 2], by omega, by go_num, rfl, kp_xt _ _, ?_, by simp; omega, HS⟩
                          rw [List.map_append, List.map_cons, List.map_nil, ← hsub.out]
                          rw [List.length_map] at ho7
                          exact ho7
                        case measure => simp [intOf]; omega
                    · have z62 : (((s[k + 1]'h1).toNat : Int) == 62) = false := by simpa using d62
                      by_cases d61 : ((s[k + 1]'h1).toNat : Int) = 61
                      · have z61 : (((s[k + 1]'h1).toNat : Int) == 61) = true := by simpa using d61
                        obtain ⟨HS, hn0, hnk⟩ := HStep.out 2 (by rw [hstp, if_pos (.inl ⟨rfl, .inr ((hhd h1 61).2 d61)⟩)])
                        as_aux_lemma =>
                          have hsub := Lib.hid (sub_st hnk)
                          clear hsc HFail HStep c95 c32 hin hin' hcond c45 u45 c34 u34 hstp hhd hhn
                          try clear d62
                          try clear d61
                          try clear e60
                          try clear e62
                          try clear c60
                          try clear c62
                          try clear c40
                          try clear c41
                          try clear c58
                          try clear c61
                          try clear u60
                          try clear u62
                          try clear u40
                          try clear u41
                          try clear u58
                          try clear u61
                          go_wp2_with (first | (go_at_call 123; (with_reducible refine Calls_ret (HW1.out _) ?_); intro y1) | (at_builtin; refine app_text (v := v) rfl _ _ rfl (hkX.out.more _) rfl (hoX.out.kp (kp_xt X _)) (s.extract k (k + 2)) rfl (by omega) ?_; intro g cap y7 ho7))
                          go_roundw
                          case rel =>
                            refine ⟨k + 2, _, acc ++ [(sfx s k).take 2], by omega, by go_num, rfl, kp_xt _ _, ?_, by simp; omega, HS⟩
                            rw [List.map_append, List.map_cons, List.map_nil, ← hsub.out]
                            rw [List.length_map] at ho7
                            exact ho7
                          case measure => simp [intOf]; omega
                      · have z61 : (((s[k + 1]'h1).toNat : Int) == 61) = false := by simpa using d61
                        obtain ⟨HS, hn0, hnk⟩ := HStep.out 1 (by
                          rw [hstp, if_neg, if_pos (by simp)]
                          rintro (⟨_, h | h⟩ | ⟨h, _⟩)
                          · exact d62 ((hhd h1 62).1 h)
                          · exact d61 ((hhd h1 61).1 h)
                          · cases h)
                        as_aux_lemma =>
                          have hsub := Lib.hid (sub_st hnk)
                          clear hsc HFail HStep c95 c32 hin hin' hcond c45 u45 c34 u34 hstp hhd hhn
                          try clear d62
                          try clear d61
                          try clear e60
                          try clear e62
                          try clear c60
                          try clear c62
                          try clear c40
                          try clear c41
                          try clear c58
                          try clear c61
                          try clear u60
                          try clear u62
                          try clear u40
                          try clear u41
                          try clear u58
                          try clear u61
                          go_wp2_with (first | (go_at_call 123; (with_reducible refine Calls_ret (HW1.out _) ?_); intro y1) | (at_builtin; refine app_text (v := v) rfl _ _ rfl (hkX.out.more _) rfl (hoX.out.kp (kp_xt X _)) (s.extract k (k + 1)) rfl (by omega) ?_; intro g cap y7 ho7))
                          go_roundw
                          case rel =>
                            refine ⟨k + 1, _, acc ++ [(sfx s k).take 1], by omega, by go_num, rfl, kp_xt _ _, ?_, by simp; omega, HS⟩
                            rw [List.map_append, List.map_cons, List.map_nil, ← hsub.out]
                            rw [List.length_map] at ho7
                            exact ho7
                          case measure => simp [intOf]; omega
                  · have i1 : ¬ (k : Int) + 1 < s.size := by omega
                    obtain ⟨HS, hn0, hnk⟩ := HStep.out 1 (by
                      rw [hstp, hhn h1, if_neg (by simp), if_pos (by simp)])
                    as_aux_lemma =>
                      have hsub := Lib.hid (sub_st hnk)
                      clear hsc HFail HStep c95 c32 hin hin' hcond c45 u45 c34 u34 hstp hhd hhn
                      try clear d62
                      try clear d61
                      try clear e60
                      try clear e62
                      try clear c60
                      try clear c62
                      try clear c40
                      try clear c41
                      try clear c58
                      try clear c61
                      try clear u60
                      try clear u62
                      try clear u40
                      try clear u41
                      try clear u58
                      try clear u61
                      go_wp2_with (first | (go_at_call 123; (with_reducible refine Calls_ret (HW1.out _) ?_); intro y1) | (at_builtin; refine app_text (v := v) rfl _ _ rfl (hkX.out.more _) rfl (hoX.out.kp (kp_xt X _)) (s.extract k (k + 1)) rfl (by omega) ?_; intro g cap y7 ho7))
                      go_roundw
                      case rel =>
                        refine ⟨k + 1, _, acc ++ [(sfx s k).take 1], by omega, by go_num, rfl, kp_xt _ _, ?_, by simp; omega, HS⟩
                        rw [List.map_append, List.map_cons, List.map_nil, ← hsub.out]
                        rw [List.length_map] at ho7
                        exact ho7
                      case measure => simp [intOf]; omega
                · have m60 : (((s[k]'hlt).toNat : Int) == 60) = false := by simpa using c60
                  have q60 : (((s[k]'hlt).toNat : Int) != 60) = true := by simpa using c60
                  have u60 : ¬ s[k]'hlt = 60 := fun x => c60 ((zc hlt 60).2 x)
                  by_cases c62 : ((s[k]'hlt).toNat : Int) = 62
                  · have m62 : (((s[k]'hlt).toNat : Int) == 62) = true := by simpa using c62
                    have q62 : (((s[k]'hlt).toNat : Int) != 62) = false := by simpa using c62
                    have q40 : (((s[k]'hlt).toNat : Int) != 40) = true := by rw [c62]; rfl
                    have q41 : (((s[k]'hlt).toNat : Int) != 41) = true := by rw [c62]; rfl
                    have q58 : (((s[k]'hlt).toNat : Int) != 58) = true := by rw [c62]; rfl
                    have q61 : (((s[k]'hlt).toNat : Int) != 61) = true := by rw [c62]; rfl
                    have e62 := (zc hlt 62).1 c62
                    rw [e62] at hstp
                    by_cases h1 : k + 1 < s.size
                    · have i1 : (k : Int) + 1 < s.size := by omega
                      by_cases d61 : ((s[k + 1]'h1).toNat : Int) = 61
                      · have z61 : (((s[k + 1]'h1).toNat : Int) == 61) = true := by simpa using d61
                        obtain ⟨HS, hn0, hnk⟩ := HStep.out 2 (by rw [hstp, if_pos (.inr ⟨rfl, (hhd h1 61).2 d61⟩)])
                        as_aux_lemma =>
                          have hsub := Lib.hid (sub_st hnk)
                          clear hsc HFail HStep c95 c32 hin hin' hcond c45 u45 c34 u34 hstp hhd hhn
                          try clear d62
                          try clear d61
                          try clear e60
                          try clear e62
                          try clear c60
                          try clear c62
                          try clear c40
                          try clear c41
                          try clear c58
                          try clear c61
                          try clear u60
                          try clear u62
                          try clear u40
                          try clear u41
                          try clear u58
                          try clear u61
                          go_wp2_with (first | (go_at_call 123; (with_reducible refine Calls_ret (HW1.out _) ?_); intro y1) | (at_builtin; refine app_text (v := v) rfl _ _ rfl (hkX.out.more _) rfl (hoX.out.kp (kp_xt X _)) (s.extract k (k + 2)) rfl (by omega) ?_; intro g cap y7 ho7))
                          go_roundw
                          case rel =>
                            refine ⟨k + 2, _, acc ++ [(sfx s k).take 2], by omega, by go_num, rfl, kp_xt _ _, ?_, by simp; omega, HS⟩
                            rw [List.map_append, List.map_cons, List.map_nil, ← hsub.out]
                            rw [List.length_map] at ho7
                            exact ho7
                          case measure => simp [intOf]; omega
                      · have z61 : (((s[k + 1]'h1).toNat : Int) == 61) = false := by simpa using d61
                        obtain ⟨HS, hn0, hnk⟩ := HStep.out 1 (by
                          rw [hstp, if_neg, if_pos (by simp)]
                          rintro (⟨h, _⟩ | ⟨_, h⟩)
                          · cases h
                          · exact d61 ((hhd h1 61).1 h))
                        as_aux_lemma =>
                          have hsub := Lib.hid (sub_st hnk)
                          clear hsc HFail HStep c95 c32 hin hin' hcond c45 u45 c34 u34 hstp hhd hhn
                          try clear d62
                          try clear d61
                          try clear e60
                          try clear e62
                          try clear c60
                          try clear c62
                          try clear c40
                          try clear c41
                          try clear c58
                          try clear c61
                          try clear u60
                          try clear u62
                          try clear u40
                          try clear u41
                          try clear u58
                          try clear u61
                          go_wp2_with (first | (go_at_call 123; (with_reducible refine Calls_ret (HW1.out _) ?_); intro y1) | (at_builtin; refine app_text (v := v) rfl _ _ rfl (hkX.out.more _) rfl (hoX.out.kp (kp_xt X _)) (s.extract k (k + 1)) rfl (by omega) ?_; intro g cap y7 ho7))
                          go_roundw
                          case rel =>
                            refine ⟨k + 1, _, acc ++ [(sfx s k).take 1], by omega, by go_num, rfl, kp_xt _ _, ?_, by simp; omega, HS⟩
                            rw [List.map_append, List.map_cons, List.map_nil, ← hsub.out]
                            rw [List.length_map] at ho7
                            exact ho7
                          case measure => simp [intOf]; omega
                    · have i1 : ¬ (k : Int) + 1 < s.size := by omega
                      obtain ⟨HS, hn0, hnk⟩ := HStep.out 1 (by
                        rw [hstp, hhn h1, if_neg (by simp), if_pos (by simp)])
                      as_aux_lemma =>
                        have hsub := Lib.hid (sub_st hnk)
                        clear hsc HFail HStep c95 c32 hin hin' hcond c45 u45 c34 u34 hstp hhd hhn
                        try clear d62
                        try clear d61
                        try clear e60
                        try clear e62
                        try clear c60
                        try clear c62
                        try clear c40
                        try clear c41
                        try clear c58
                        try clear c61
                        try clear u60
                        try clear u62
                        try clear u40
                        try clear u41
                        try clear u58
                        try clear u61
                        go_wp2_with (first | (go_at_call 123; (with_reducible refine Calls_ret (HW1.out _) ?_); intro y1) | (at_builtin; refine app_text (v := v) rfl _ _ rfl (hkX.out.more _) rfl (hoX.out.kp (kp_xt X _)) (s.extract k (k + 1)) rfl (by omega) ?_; intro g cap y7 ho7))
                        go_roundw
                        case rel =>
                          refine ⟨k + 1, _, acc ++ [(sfx s k).take 1], by omega, by go_num, rfl, kp_xt _ _, ?_, by simp; omega, HS⟩
                          rw [List.map_append, List.map_cons, List.map_nil, ← hsub.out]
                          rw [List.length_map] at ho7
                          exact ho7
                        case measure => simp [intOf]; omega
                  · have m62 : (((s[k]'hlt).toNat : Int) == 62) = false := by simpa using c62
                    have q62 : (((s[k]'hlt).toNat : Int) != 62) = true := by simpa using c62
                    have u62 : ¬ s[k]'hlt = 62 := fun x => c62 ((zc hlt 62).2 x)
                    rw [if_neg (by simp [u60, u62])] at hstp
                    by_cases c40 : ((s[k]'hlt).toNat : Int) = 40
                    · have q40 : (((s[k]'hlt).toNat : Int) != 40) = false := by simpa using c40
                      obtain ⟨HS, hn0, hnk⟩ := HStep.out 1 (by rw [hstp, if_pos (by simp [(zc hlt 40).1 c40])])
                      as_aux_lemma =>
                        have hsub := Lib.hid (sub_st hnk)
                        clear hsc HFail HStep c95 c32 hin hin' hcond c45 u45 c34 u34 hstp hhd hhn
                        try clear d62
                        try clear d61
                        try clear e60
                        try clear e62
                        try clear c60
                        try clear c62
                        try clear c40
                        try clear c41
                        try clear c58
                        try clear c61
                        try clear u60
                        try clear u62
                        try clear u40
                        try clear u41
                        try clear u58
                        try clear u61
                        go_wp2_with (first | (go_at_call 123; (with_reducible refine Calls_ret (HW1.out _) ?_); intro y1) | (at_builtin; refine app_text (v := v) rfl _ _ rfl (hkX.out.more _) rfl (hoX.out.kp (kp_xt X _)) (s.extract k (k + 1)) rfl (by omega) ?_; intro g cap y7 ho7))
                        go_roundw
                        case rel =>
                          refine ⟨k + 1, _, acc ++ [(sfx s k).take 1], by omega, by go_num, rfl, kp_xt _ _, ?_, by simp; omega, HS⟩
                          rw [List.map_append, List.map_cons, List.map_nil, ← hsub.out]
                          rw [List.length_map] at ho7
                          exact ho7
                        case measure => simp [intOf]; omega
                    · have q40 : (((s[k]'hlt).toNat : Int) != 40) = true := by simpa using c40
                      have u40 : ¬ s[k]'hlt = 40 := fun x => c40 ((zc hlt 40).2 x)
                      by_cases c41 : ((s[k]'hlt).toNat : Int) = 41
                      · have q41 : (((s[k]'hlt).toNat : Int) != 41) = false := by simpa using c41
                        obtain ⟨HS, hn0, hnk⟩ := HStep.out 1 (by rw [hstp, if_pos (by simp [(zc hlt 41).1 c41])])
                        as_aux_lemma =>
                          have hsub := Lib.hid (sub_st hnk)
                          clear hsc HFail HStep c95 c32 hin hin' hcond c45 u45 c34 u34 hstp hhd hhn
                          try clear d62
                          try clear d61
                          try clear e60
                          try clear e62
                          try clear c60
                          try clear c62
                          try clear c40
                          try clear c41
                          try clear c58
                          try clear c61
                          try clear u60
                          try clear u62
                          try clear u40
                          try clear u41
                          try clear u58
                          try clear u61
                          go_wp2_with (first | (go_at_call 123; (with_reducible refine Calls_ret (HW1.out _) ?_); intro y1) | (at_builtin; refine app_text (v := v) rfl _ _ rfl (hkX.out.more _) rfl (hoX.out.kp (kp_xt X _)) (s.extract k (k + 1)) rfl (by omega) ?_; intro g cap y7 ho7))
                          go_roundw
                          case rel =>
                            refine ⟨k + 1, _, acc ++ [(sfx s k).take 1], by omega, by go_num, rfl, kp_xt _ _, ?_, by simp; omega, HS⟩
                            rw [List.map_append, List.map_cons, List.map_nil, ← hsub.out]
                            rw [List.length_map] at ho7
                            exact ho7
                          case measure => simp [intOf]; omega
                      · have q41 : (((s[k]'hlt).toNat : Int) != 41) = true := by simpa using c41
                        have u41 : ¬ s[k]'hlt = 41 := fun x => c41 ((zc hlt 41).2 x)
                        by_cases c58 : ((s[k]'hlt).toNat : Int) = 58
                        · have q58 : (((s[k]'hlt).toNat : Int) != 58) = false := by simpa using c58
                          obtain ⟨HS, hn0, hnk⟩ := HStep.out 1 (by rw [hstp, if_pos (by simp [(zc hlt 58).1 c58])])
                          as_aux_lemma =>
                            have hsub := Lib.hid (sub_st hnk)
                            clear hsc HFail HStep c95 c32 hin hin' hcond c45 u45 c34 u34 hstp hhd hhn
                            try clear d62
                            try clear d61
                            try clear e60
                            try clear e62
                            try clear c60
                            try clear c62
                            try clear c40
                            try clear c41
                            try clear c58
                            try clear c61
                            try clear u60
                            try clear u62
                            try clear u40
                            try clear u41
                            try clear u58
                            try clear u61
                            go_wp2_with (first | (go_at_call 123; (with_reducible refine Calls_ret (HW1.out _) ?_); intro y1) | (at_builtin; refine app_text (v := v) rfl _ _ rfl (hkX.out.more _) rfl (hoX.out.kp (kp_xt X _)) (s.extract k (k + 1)) rfl (by omega) ?_; intro g cap y7 ho7))
                            go_roundw
                            case rel =>
                              refine ⟨k + 1, _, acc ++ [(sfx s k).take 1], by omega, by go_num, rfl, kp_xt _ _, ?_, by simp; omega, HS⟩
                              rw [List.map_append, List.map_cons, List.map_nil, ← hsub.out]
                              rw [List.length_map] at ho7
                              exact ho7
                            case measure => simp [intOf]; omega
                        · have q58 : (((s[k]'hlt).toNat : Int) != 58) = true := by simpa using c58
                          have u58 : ¬ s[k]'hlt = 58 := fun x => c58 ((zc hlt 58).2 x)
                          by_cases c61 : ((s[k]'hlt).toNat : Int) = 61
                          · have q61 : (((s[k]'hlt).toNat : Int) != 61) = false := by simpa using c61
                            obtain ⟨HS, hn0, hnk⟩ := HStep.out 1 (by rw [hstp, if_pos (by simp [(zc hlt 61).1 c61])])
                            as_aux_lemma =>
                              have hsub := Lib.hid (sub_st hnk)
                              clear hsc HFail HStep c95 c32 hin hin' hcond c45 u45 c34 u34 hstp hhd hhn
                              try clear d62
                              try clear d61
                              try clear e60
                              try clear e62
                              try clear c60
                              try clear c62
                              try clear c40
                              try clear c41
                              try clear c58
                              try clear c61
                              try clear u60
                              try clear u62
                              try clear u40
                              try clear u41
                              try clear u58
                              try clear u61
                              go_wp2_with (first | (go_at_call 123; (with_reducible refine Calls_ret (HW1.out _) ?_); intro y1) | (at_builtin; refine app_text (v := v) rfl _ _ rfl (hkX.out.more _) rfl (hoX.out.kp (kp_xt X _)) (s.extract k (k + 1)) rfl (by omega) ?_; intro g cap y7 ho7))
                              go_roundw
                              case rel =>
                                refine ⟨k + 1, _, acc ++ [(sfx s k).take 1], by omega, by go_num, rfl, kp_xt _ _, ?_, by simp; omega, HS⟩
                                rw [List.map_append, List.map_cons, List.map_nil, ← hsub.out]
                                rw [List.length_map] at ho7
                                exact ho7
                              case measure => simp [intOf]; omega
                          · have q61 : (((s[k]'hlt).toNat : Int) != 61) = true := by simpa using c61
                            have u61 : ¬ s[k]'hlt = 61 := fun x => c61 ((zc hlt 61).2 x)
                            rw [if_neg (by simp [u40, u41, u58, u61, u60, u62])] at hstp
                            have HB := Lib.hid (HFail.out hstp)
                            clear hsc HFail HStep c95 c32 hin hin' hcond c45 u45 c34 u34 hstp hhd hhn
                            try clear c60
                            try clear c62
                            go_wp2_with (go_at_call 123; (with_reducible refine Calls_ret (HW1.out _) ?_); intro y1)
                            exact HB.out _ (hkX.out.more _)
    · have hke : k = s.size := by omega
      have HB : Hid (∀ w', Kp w w' → OwnT w.heap.size w' v (acc.map st) → R (.returned (.tuple #[v, .bool true])) w') := fun w' h1 h2 => HR.out.ok acc v w' (by rw [HQ.out, spl_end (by omega)]; simp) h1 h2 (by omega)
      clear HQ
      go_wp2
      exact HB.out _ hkX.out hoX.out
end Go.Proofs.YtpmheafccfnfjaaGreatDoor
namespace Go.Proofs.YtpmheafccfnfjaaGreatDoor
open Go Go.RowKit
/-- The reference's reader: the words, the place, the level, whether it is bad, whether too deep. -/
abbrev rfO (v : Value) (k d : Int) (bad lim : Bool) : Obj := .cells #[v, .int .i64 k, .int .i64 d, .bool bad, .bool lim] 107 (0, 0)
/-- Words that are read, not in block b. -/
def WdsX (b : Nat) (W : World) (v : Value) (L : List Bs) : Prop := L.length ≤ 100000 ∧ ((v = .slice none 0 0 ∧ L = []) ∨ ∃ g c, v = .slice (some ⟨g, 0, none⟩) L.length c ∧ g ≠ b ∧ g < W.heap.size ∧ ∀ (j : Nat) x, L[j]? = some x → W.cell? ⟨g, j, none⟩ = some (.string (st x)))
theorem WdsX.kb {b : Nat} {W X : World} {v : Value} {L : List Bs} (h : WdsX b W v L) (k : Kb b W X) : WdsX b X v L := by
  obtain ⟨h0, h | ⟨g, c, h1, h2, h3, h4⟩⟩ := h
  · exact ⟨h0, .inl h⟩
  · exact ⟨h0, .inr ⟨g, c, h1, h2, Nat.lt_of_lt_of_le h3 k.size, fun j x hj => by rw [World.cell?_of_block (w := W) (a := ⟨g, j, none⟩) (k.block _ h3 h2)]; exact h4 j x hj⟩⟩
theorem hd_drop {L : List Bs} {k : Nat} (h : k < L.length) : hd (L.drop k) = L[k] := by
  unfold hd
  rw [List.drop_eq_getElem_cons h]
  rfl
theorem tail_drop (L : List Bs) (k : Nat) : (L.drop k).tail = L.drop (k + 1) := by simp
section
variable {b : Nat} {w : World} {v : Value} {L : List Bs} {k : Nat} {d : Int} {bad lim : Bool}
theorem now_ret (h : w.heap[b]? = some (rfO v k d bad lim)) (hv : WdsX b w v L) (hk : k ≤ L.length) :
    Calls Tryz.prog 126 #[.pointer (some ⟨b, 0, none⟩)] w (Ret w (.string (st (hd (L.drop k))))) := by
  have hb : b < w.heap.size := (Array.getElem?_eq_some_iff.1 h).1
  have c0 : w.cell? ⟨b, 0, none⟩ = some v := by rw [Lib.cell_of_heap h]; rfl
  have c1 : w.cell? ⟨b, 1, none⟩ = some (.int .i64 k) := by rw [Lib.cell_of_heap h]; rfl
  obtain ⟨hL, ⟨rfl, rfl⟩ | ⟨g, c, rfl, hgb, hg, hc⟩⟩ := hv
  · have hk0 : k = 0 := by simpa using hk
    subst hk0
    have e : st (hd (([] : List Bs).drop 0)) = ⟨#[]⟩ := rfl
    rw [e]
    clear e h
    go_enter Tryz.func126, Tryz.ntmps126
    go_wp2
    refine wp_region_xt (by kernel_rfl) (by kernel_rfl) ?_
    repeat (go_big_quiet_step (fail))
    refine wpQuiet_nil ?_
    intro x1
    go_wp2
    go_ret
    exact ret_of rfl (kp_xt _ _)
  · by_cases hlt : k < L.length
    · have hcell := hc k L[k] (by simp [hlt])
      rw [hd_drop hlt]
      generalize st L[k] = q at *
      clear h hc
      go_enter Tryz.func126, Tryz.ntmps126
      go_wp2
      refine wp_region_xt (by kernel_rfl) (by kernel_rfl) ?_
      repeat (go_big_quiet_step (fail))
      refine wpQuiet_nil ?_
      intro x1
      go_wp2
      refine wp_region_xt (by kernel_rfl) (by kernel_rfl) ?_
      repeat (go_big_quiet_step (fail))
      refine wpQuiet_nil ?_
      intro x2
      go_wp2
      go_ret
      exact ret_of rfl (Kp.more (kp_xt _ _) _)
    · have hke : k = L.length := by omega
      have e : st (hd (L.drop k)) = ⟨#[]⟩ := by rw [hke, List.drop_length]; rfl
      rw [e]
      clear e h hc
      go_enter Tryz.func126, Tryz.ntmps126
      go_wp2
      refine wp_region_xt (by kernel_rfl) (by kernel_rfl) ?_
      repeat (go_big_quiet_step (fail))
      refine wpQuiet_nil ?_
      intro x1
      go_wp2
      go_ret
      exact ret_of rfl (kp_xt _ _)
theorem rf_start {o : Obj} (h : w.heap[b]? = some o) : ∃ y, w = sb (xt w y) b o := (Kb.refl b w).out (Array.getElem?_eq_some_iff.1 h).1 h
/-- skip, where the word is next. -/
theorem skip_yes (t : ByteArray) (h : w.heap[b]? = some (rfO v k d false lim)) (hv : WdsX b w v L) (hk : k ≤ L.length) (ht : hd (L.drop k) = t.data.toList) (hne : t.data.toList ≠ []) :
    Calls Tryz.prog 139 #[.pointer (some ⟨b, 0, none⟩), .string t] w (RetB w b (rfO v (k + 1 : Nat) d false lim) (.bool true)) := by
  have hb : b < w.heap.size := (Array.getElem?_eq_some_iff.1 h).1
  have HN := now_ret h hv hk
  have hq : ((st (hd (L.drop k))).toList == t.toList) = true := by rw [st_list', ht, toList_data]; simp
  have hlen : L.length ≤ 100000 := hv.1
  generalize st (hd (L.drop k)) = q at *
  obtain ⟨y, hy⟩ := rf_start h
  suffices H : ∀ y, Calls Tryz.prog 126 #[.pointer (some ⟨b, 0, none⟩)] (sb (xt w y) b (rfO v k d false lim)) (Ret (sb (xt w y) b (rfO v k d false lim)) (.string q)) → Calls Tryz.prog 139 #[.pointer (some ⟨b, 0, none⟩), .string t] (sb (xt w y) b (rfO v k d false lim)) (RetB w b (rfO v (k + 1 : Nat) d false lim) (.bool true)) by
    have := H y (by rw [← hy]; exact HN)
    rwa [← hy] at this
  intro y HN
  replace HN := Lib.hid HN
  have hk2 : (k : Int) ≤ 100000 := by omega
  have hk3 : 0 ≤ (k : Int) := by omega
  clear h hv ht hne hy
  go_enter Tryz.func139, Tryz.ntmps139
  go_wp2_with (go_at_call 126; refine Calls_retS (F := fun _ => True) (fun _ _ => trivial) hb trivial HN.out ?_; intro y1 _)
  go_ret
  exact retB_1 hb rfl (by simp)
/-- skip, where it is not. -/
theorem skip_no (t : ByteArray) (h : w.heap[b]? = some (rfO v k d bad lim)) (hv : WdsX b w v L) (hk : k ≤ L.length) (ht : bad = true ∨ ¬ hd (L.drop k) = t.data.toList) :
    Calls Tryz.prog 139 #[.pointer (some ⟨b, 0, none⟩), .string t] w (Ret w (.bool false)) := by
  have hb : b < w.heap.size := (Array.getElem?_eq_some_iff.1 h).1
  have c3 : w.cell? ⟨b, 3, none⟩ = some (.bool bad) := by rw [Lib.cell_of_heap h]; rfl
  have HN := Lib.hid (now_ret h hv hk)
  have hq : bad = true ∨ ((st (hd (L.drop k))).toList == t.toList) = false := by
    rcases ht with ht | ht
    · exact .inl ht
    · right
      rw [st_list', toList_data, beq_eq_false_iff_ne]
      exact ht
  generalize st (hd (L.drop k)) = q at *
  clear h hv ht
  cases bad with
  | true =>
    clear hq
    go_enter Tryz.func139, Tryz.ntmps139
    go_wp2
    go_ret
    exact ret_of rfl (Kp.refl _)
  | false =>
    have hq' : (q.toList == t.toList) = false := by simpa using hq
    clear hq
    go_enter Tryz.func139, Tryz.ntmps139
    go_wp2_with (go_at_call 126; refine Calls_ret HN.out ?_; intro y1)
    go_ret
    exact ret_of rfl (kp_xt _ _)
/-- name: whether the next word is a name. -/
theorem rname_q (h : w.heap[b]? = some (rfO v k d bad lim)) (hv : WdsX b w v L) (hk : k ≤ L.length) :
    Calls Tryz.prog 127 #[.pointer (some ⟨b, 0, none⟩)] w (Ret w (.bool (nameOK (hd (L.drop k)) && !keptB (hd (L.drop k))))) := by
  have HN := Lib.hid (now_ret h hv hk)
  have HM := Lib.hid (fun W => rname_ret (st (hd (L.drop k))) W)
  have HK := Lib.hid (fun W => rkept_ret (hd (L.drop k)) W)
  rw [st_list] at HM
  clear h hv
  generalize st (hd (L.drop k)) = q at *
  cases h1 : nameOK (hd (L.drop k)) with
  | false =>
    rw [h1] at HM
    go_enter Tryz.func127, Tryz.ntmps127
    go_wp2_with (first | (go_at_call 126; refine Calls_ret HN.out ?_; intro y1) | (go_at_call 70; refine Calls_ret (HM.out _) ?_; intro y2))
    go_ret
    exact ret_of rfl (kp_xt _ _)
  | true =>
    rw [h1] at HM
    generalize keptB (hd (L.drop k)) = kk at *
    cases kk
    all_goals
      go_enter Tryz.func127, Tryz.ntmps127
      go_wp2_with (first | (go_at_call 126; refine Calls_ret HN.out ?_; intro y1) | (go_at_call 70; refine Calls_ret (HM.out _) ?_; intro y2) | (go_at_call 71; refine Calls_ret (HK.out _) ?_; intro y3))
      go_ret
      exact ret_of rfl (kp_xt _ _)
/-- in: a level deeper. -/
theorem in_ret (hd0 : 0 ≤ d) (hd1 : d ≤ 1000000) (h : w.heap[b]? = some (rfO v k d bad lim)) :
    Calls Tryz.prog 195 #[.pointer (some ⟨b, 0, none⟩)] w (RetB w b (rfO v k (d + 1) bad (lim || decide (20 < d + 1))) (.tuple #[])) := by
  have hb : b < w.heap.size := (Array.getElem?_eq_some_iff.1 h).1
  obtain ⟨y, hy⟩ := rf_start h
  suffices H : ∀ y, Calls Tryz.prog 195 #[.pointer (some ⟨b, 0, none⟩)] (sb (xt w y) b (rfO v k d bad lim)) (RetB w b (rfO v k (d + 1) bad (lim || decide (20 < d + 1))) (.tuple #[])) by
    have := H y
    rwa [← hy] at this
  intro y
  clear hy h
  by_cases h20 : 20 < d + 1
  · rw [decide_eq_true h20, Bool.or_true]
    go_enter Tryz.func195, Tryz.ntmps195
    go_wp2
    exact bodyPost_end (results_none rfl _ _ _) rfl (retB_1 hb rfl (by simp))
  · rw [decide_eq_false h20, Bool.or_false]
    go_enter Tryz.func195, Tryz.ntmps195
    go_wp2
    exact bodyPost_end (results_none rfl _ _ _) rfl (retB_1 hb rfl (by simp))
end
end Go.Proofs.YtpmheafccfnfjaaGreatDoor
namespace Go.Proofs.YtpmheafccfnfjaaGreatDoor
open Go Go.RowKit
/-- ref01.Literal at 0. -/
def rLitV (t : Bs) : Vl × Int := if t.head? = some 34 then (match rQ t.tail with
    | some (l, rest) => (⟨2, 0, st l⟩, ((t.length - rest.length : Nat) : Int))
    | none => (⟨2, 0, ⟨#[]⟩⟩, 0))
  else (⟨1, (rNum t).1, ⟨#[]⟩⟩, ((rNum t).2 : Int))
theorem rLit_V (t : Bs) : rLit t = if t ≠ [] ∧ (rLitV t).2 = (t.length : Int) ∧ (rLitV t).1.ok = true then some (rLitV t).1 else none := by
  unfold rLit rLitV
  split
  · rename_i h34
    cases t with
    | nil => cases h34
    | cons c u =>
      simp only [List.tail_cons]
      rcases (by cases rQ u with
        | none => exact .inl rfl
        | some r => exact .inr ⟨r.1, r.2, rfl⟩ : rQ u = none ∨ ∃ l rest, rQ u = some (l, rest)) with hq | ⟨l, rest, hq⟩
      · simp only [hq]
        rw [if_neg]
        rintro ⟨_, h, _⟩
        simp at h
        omega
      · simp only [hq]
        have hr := rQ_some _ (Nat.le_refl _) hq
        have hl : rest.length < u.length := by
          have := congrArg List.length hr
          simp only [List.length_append, List.length_cons] at this
          omega
        have e : (rest = [] ∧ validV 2 0 (st l) = true) ↔ (c :: u ≠ [] ∧ (((c :: u).length - rest.length : Nat) : Int) = ((c :: u).length : Int) ∧ Vl.ok ⟨2, 0, st l⟩ = true) := by
          constructor
          · rintro ⟨rfl, h⟩
            exact ⟨by simp, by simp, h⟩
          · rintro ⟨_, h, h2⟩
            simp only [List.length_cons] at h
            exact ⟨List.eq_nil_of_length_eq_zero (by omega), h2⟩
        simp only [e]
  · simp only
    have e : (t ≠ [] ∧ (rNum t).2 = t.length ∧ validV 1 (rNum t).1 ⟨#[]⟩ = true) ↔ (t ≠ [] ∧ ((rNum t).2 : Int) = (t.length : Int) ∧ Vl.ok ⟨1, (rNum t).1, ⟨#[]⟩⟩ = true) := by
      constructor
      · rintro ⟨h1, h2, h3⟩; exact ⟨h1, by omega, h3⟩
      · rintro ⟨h1, h2, h3⟩; exact ⟨h1, by omega, h3⟩
    simp only [e]
set_option maxHeartbeats 1000000 in
set_option maxRecDepth 100000 in
theorem lit_num (s : ByteArray) (w : World) (hs : s.size ≤ 100000) (h : s.data.toList.head? ≠ some 34) : Calls Tryz.prog 128 #[.string s, .int .i64 0] w (Ret w (.tuple #[vv 1 (rNum s.data.toList).1 ⟨#[]⟩, .int .i64 (rNum s.data.toList).2])) := by
  have HN := Lib.hid (fun W => rnum_ret s W (by omega))
  generalize rNum s.data.toList = q at *
  by_cases h0 : 0 < s.size
  · have m34 : (((s[0]'h0).toNat : Int) == 34) = false := by
      rw [beq_eq_false_iff_ne]
      intro e
      apply h
      rw [List.head?_eq_getElem?]
      have : s[0]'h0 = 34 := (zc h0 34).1 e
      rw [List.getElem?_eq_getElem (by simpa using h0)]
      congr 1
    clear h
    go_enter Tryz.func128, Tryz.ntmps128
    go_wp2_with (go_at_call 162; refine Calls_ret (HN.out _) ?_; intro y1)
    refine bodyPost_ret (v := .tuple #[vv 1 q.1 ⟨#[]⟩, .int .i64 q.2]) (by simp [results, Tryz.results128, go_sem]) rfl ?_
    exact ret_of rfl (by first | exact ((((((Kp.refl _).alloc _).more _).setCell (by simp) _).setCell (by simp) _).setCell (by simp) _) | exact (((Kp.refl _).alloc _).more _))
  · have hsz : s.size = 0 := by omega
    clear h
    go_enter Tryz.func128, Tryz.ntmps128
    go_wp2_with (go_at_call 162; refine Calls_ret (HN.out _) ?_; intro y1)
    refine bodyPost_ret (v := .tuple #[vv 1 q.1 ⟨#[]⟩, .int .i64 q.2]) (by simp [results, Tryz.results128, go_sem]) rfl ?_
    exact ret_of rfl (by first | exact ((((((Kp.refl _).alloc _).more _).setCell (by simp) _).setCell (by simp) _).setCell (by simp) _) | exact (((Kp.refl _).alloc _).more _))
set_option maxHeartbeats 1000000 in
set_option maxRecDepth 100000 in
theorem lit_quo (s q : ByteArray) (z : Int) (w : World) (h0 : 0 < s.size) (h34 : ((s[0]'h0).toNat : Int) = 34) (HQ : Hid (∀ W, Calls Tryz.prog 125 #[.string s, .int .i64 0] W (Ret W (.tuple #[.string q, .int .i64 z])))) : Calls Tryz.prog 128 #[.string s, .int .i64 0] w (Ret w (.tuple #[vv 2 0 q, .int .i64 z])) := by
  have m34 : (((s[0]'h0).toNat : Int) == 34) = true := by simpa using h34
  clear h34
  go_enter Tryz.func128, Tryz.ntmps128
  go_wp2_with (go_at_call 125; refine Calls_ret (HQ.out _) ?_; intro y1)
  refine bodyPost_ret (v := .tuple #[vv 2 0 q, .int .i64 z]) (by simp [results, Tryz.results128, go_sem]) rfl ?_
  exact ret_of rfl (by first | exact ((((((Kp.refl _).alloc _).more _).setCell (by simp) _).setCell (by simp) _).setCell (by simp) _) | exact (((Kp.refl _).alloc _).more _))
theorem rlit_ret (t : Bs) (w : World) (hs : t.length ≤ 100000) : Calls Tryz.prog 128 #[.string (st t), .int .i64 0] w (Ret w (.tuple #[(rLitV t).1.v, .int .i64 (rLitV t).2])) := by
  have hsz : (st t).size = t.length := st_size t
  by_cases h : t.head? = some 34
  · cases t with
    | nil => cases h
    | cons c u =>
      simp only [List.head?_cons, Option.some.injEq] at h
      subst h
      have h0 : 0 < (st (34 :: u)).size := by rw [hsz]; simp
      have h34 : (((st (34 :: u))[0]'h0).toNat : Int) = 34 := rfl
      have hx : sfx (st (34 :: u)) (0 + 1) = u := by simp [sfx, st_list]
      unfold rLitV
      rw [if_pos (by rfl)]
      simp only [List.tail_cons]
      cases hq : rQ u with
      | none => exact lit_quo _ _ _ w h0 h34 (Lib.hid fun W => quote_bad _ 0 W (by omega) h0 h34 (by rw [hx]; exact hq))
      | some r =>
        obtain ⟨l, rest⟩ := r
        have H := fun W => quote_ok (st (34 :: u)) 0 W (by omega) h0 h34 (l := l) (rest := rest) (by rw [hx]; exact hq)
        rw [hsz] at H
        have e : (((34 :: u).length - rest.length : Nat) : Int) - ((0 : Nat) : Int) = (((34 :: u).length - rest.length : Nat) : Int) := by omega
        rw [e] at H
        exact lit_quo _ _ _ w h0 h34 (Lib.hid H)
  · unfold rLitV
    rw [if_neg h]
    have := lit_num (st t) w (by omega) (by rw [st_list]; exact h)
    rw [st_list] at this
    exact this
end Go.Proofs.YtpmheafccfnfjaaGreatDoor
namespace Go.Proofs.YtpmheafccfnfjaaGreatDoor
open Go Go.RowKit
abbrev sd5 (a b : ByteArray) (k n : Int) (s : ByteArray) : Value := .agg #[.string a, .string b, .int .i64 k, .int .i64 n, .string s]
def sv : Trm → Value
  | .nm a => sd5 (st a) ⟨#[]⟩ 0 0 ⟨#[]⟩
  | .vr a => sd5 ⟨#[]⟩ (st a) 0 0 ⟨#[]⟩
  | .vl x => sd5 ⟨#[]⟩ ⟨#[]⟩ x.k x.n x.s
abbrev zSd : Value := sd5 ⟨#[]⟩ ⟨#[]⟩ 0 0 ⟨#[]⟩
abbrev zSdO : Obj := .cells #[.string ⟨#[]⟩, .string ⟨#[]⟩, .int .i64 0, .int .i64 0, .string ⟨#[]⟩] 67
theorem al_base (w : World) (b : Nat) (o z : Obj) (h : w.heap[b]? = some o) : ∃ W1 y, w.alloc z = sb (xt W1 y) b o ∧ Kp w W1 ∧ b < W1.heap.size ∧ W1.heap[w.heap.size]? = some z ∧ w.heap.size ≠ b := by
  have hb : b < w.heap.size := (Array.getElem?_eq_some_iff.1 h).1
  obtain ⟨y, hy⟩ := (Kb.refl b (w.alloc z)).out (by simp; omega) (show (w.alloc z).heap[b]? = some o by rw [Lib.alloc_old _ _ _ hb]; exact h)
  exact ⟨w.alloc z, y, hy, (Kp.refl w).alloc _, by simp; omega, World.alloc_heap_new _ _, by omega⟩
/-- What side hands back where it reads a term. -/
def SdOK (w : World) (b : Nat) (v : Value) (L : List Bs) (d : Int) (lim : Bool) (x : Trm) (T' : List Bs) (e : Ending) (w' : World) : Prop :=
  e = .returned (sv x) ∧ Kb b w w' ∧ ∃ k, k ≤ L.length ∧ L.drop k = T' ∧ w'.heap[b]? = some (rfO v k d false lim)
/-- .. and where it does not. -/
def SdBad (w : World) (b : Nat) (v : Value) (L : List Bs) (d : Int) (lim : Bool) (k0 : Nat) (e : Ending) (w' : World) : Prop :=
  e = .returned zSd ∧ Kb b w w' ∧ ∃ k : Nat, k0 ≤ k ∧ k ≤ L.length ∧ w'.heap[b]? = some (rfO v k d true lim)
section
variable {b : Nat} {w : World} {v : Value} {L : List Bs} {k : Nat} {d : Int} {lim : Bool}
/-- The ground of a walk. -/
structure SP (w : World) (b : Nat) (v : Value) (L : List Bs) (d : Int) (lim : Bool) (k : Nat) (bad : Bool) (z : Obj) (W1 y : World) : Prop where
  hy : w.alloc z = sb (xt W1 y) b (rfO v k d bad lim)
  hk : Kp w W1
  hb : b < W1.heap.size
  hw : W1.heap[w.heap.size]? = some z
  ne : w.heap.size ≠ b
  bw : b < w.heap.size
  wds : ∀ y o, WdsX b (sb (xt W1 y) b o) v L
theorem SP.mk' {bad : Bool} (z : Obj) (h : w.heap[b]? = some (rfO v k d bad lim)) (hv : WdsX b w v L) : ∃ W1 y, SP w b v L d lim k bad z W1 y := by
  obtain ⟨W1, y, e1, e2, e3, e4, e5⟩ := al_base w b _ z h
  exact ⟨W1, y, e1, e2, e3, e4, e5, (Array.getElem?_eq_some_iff.1 h).1, fun y o => hv.kb (((Kb.of_kp e2).more y).setB o)⟩
variable {bad : Bool} {z : Obj} {W1 y : World}
theorem SP.now (H : SP w b v L d lim k bad z W1 y) : Hid (∀ y (k : Nat) d bad lim, k ≤ L.length → Calls Tryz.prog 126 #[.pointer (some ⟨b, 0, none⟩)] (sb (xt W1 y) b (rfO v k d bad lim)) (Ret (sb (xt W1 y) b (rfO v k d bad lim)) (.string (st (hd (L.drop k)))))) := fun y k d bad lim hk =>
  now_ret (sb_is H.hb) (H.wds _ _) hk
theorem SP.name (H : SP w b v L d lim k bad z W1 y) : Hid (∀ y (k : Nat) d bad lim, k ≤ L.length → Calls Tryz.prog 127 #[.pointer (some ⟨b, 0, none⟩)] (sb (xt W1 y) b (rfO v k d bad lim)) (Ret (sb (xt W1 y) b (rfO v k d bad lim)) (.bool (nameOK (hd (L.drop k)) && !keptB (hd (L.drop k)))))) := fun y k d bad lim hk =>
  rname_q (sb_is H.hb) (H.wds _ _) hk
theorem SP.c (H : SP w b v L d lim k bad zSdO W1 y) (i : Nat) : W1.cell? ⟨w.heap.size, i, none⟩ = (#[Value.string ⟨#[]⟩, .string ⟨#[]⟩, .int .i64 0, .int .i64 0, .string ⟨#[]⟩])[i]? := Lib.cell_of_heap H.hw i
theorem SP.f (H : SP w b v L d lim k bad zSdO W1 y) (i : Nat) : W1.frozen? ⟨w.heap.size, i, none⟩ = false := Lib.frozen_of_heap H.hw i
theorem SP.rl (H : SP w b v L d lim k bad z W1 y) : w.heap.size < W1.heap.size := (Array.getElem?_eq_some_iff.1 H.hw).1
theorem SP.h (H : SP w b v L d lim k bad z W1 y) (y : World) (o : Obj) : (sb (xt W1 y) b o).heap[w.heap.size]? = some z := by
  rw [heap_sb_other _ _ _ H.ne, heap_xt _ _ H.rl]
  exact H.hw
set_option maxHeartbeats 1000000 in
set_option maxRecDepth 100000 in
theorem side_was (h : w.heap[b]? = some (rfO v k d true lim)) (hv : WdsX b w v L) (hk : k ≤ L.length) :
    Calls Tryz.prog 80 #[.pointer (some ⟨b, 0, none⟩)] w (SdBad w b v L d lim k) := by
  obtain ⟨W1, y, H⟩ := SP.mk' zSdO h hv
  have HN := H.now
  have HM := H.name
  have hy := Lib.hid H.hy
  have hb := H.bw
  have hb1 := H.hb
  have ne := H.ne
  have rl := H.rl
  have r0 := H.c 0
  have r1 := H.c 1
  have r2 := H.c 2
  have r3 := H.c 3
  have r4 := H.c 4
  have rf := H.f
  have HH := Lib.hid H
  clear H h hv
  go_enter Tryz.func80, Tryz.ntmps80
  go_wp2_with (go_at_call 126; refine Calls_cast hy.out ?_; refine Calls_retS (F := fun _ => True) (fun _ _ => trivial) hb1 trivial (HN.out _ _ _ _ _ hk) ?_; intro y1 _)
  rw [store5 (HH.out.h y1 (rfO v k d true lim))]
  have ul : w.heap.size < (sb (xt W1 y1) b (rfO v k d true lim)).heap.size := (Array.getElem?_eq_some_iff.1 (HH.out.h y1 (rfO v k d true lim))).1
  refine bodyPost_ret (v := zSd) (by simp [results, Tryz.results80, go_sem, rl, sv]) rfl ?_
  have F := (Fin.base (o := (rfO v k d true lim)) (x := y1) HH.out.hk hb).setB (Nat.le_refl _) hb (.cells #[.string ⟨#[]⟩, .string ⟨#[]⟩, .int .i64 0, .int .i64 0, .string ⟨#[]⟩] 67 (0, 0))
  exact ⟨rfl, F.1, k, Nat.le_refl _, hk, F.2⟩
set_option maxHeartbeats 1000000 in
set_option maxRecDepth 100000 in
theorem side_nm (h : w.heap[b]? = some (rfO v k d false lim)) (hv : WdsX b w v L) (hk : k < L.length) (hn : (nameOK (hd (L.drop k)) && !keptB (hd (L.drop k))) = true) :
    Calls Tryz.prog 80 #[.pointer (some ⟨b, 0, none⟩)] w (SdOK w b v L d lim (.nm (hd (L.drop k))) (L.drop (k + 1))) := by
  have hlen := hv.1
  obtain ⟨W1, y, H⟩ := SP.mk' zSdO h hv
  have HN := H.now
  have HM := H.name
  have hy := Lib.hid H.hy
  have hb := H.bw
  have hb1 := H.hb
  have ne := H.ne
  have rl := H.rl
  have r0 := H.c 0
  have r1 := H.c 1
  have r2 := H.c 2
  have r3 := H.c 3
  have r4 := H.c 4
  have rf := H.f
  have HH := Lib.hid H
  have HMk := Lib.hid (fun y => HM.out y k d false lim (by omega))
  rw [hn] at HMk
  have HNk := Lib.hid (fun y => HN.out y k d false lim (by omega))
  have hk2 : (k : Int) ≤ 100000 := by omega
  clear H h hv HN HM hn
  generalize hd (L.drop k) = t at *
  generalize hq : st t = q at *
  go_enter Tryz.func80, Tryz.ntmps80
  go_wp2_with (first | (go_at_call 126; refine Calls_cast hy.out ?_; refine Calls_retS (F := fun _ => True) (fun _ _ => trivial) hb1 trivial (HNk.out _) ?_; intro y1 _) | (go_at_call 127; refine Calls_retS (F := fun _ => True) (fun _ _ => trivial) hb1 trivial (HMk.out _) ?_; intro y2 _))
  rw [store5 (HH.out.h y2 (rfO v ((k : Int) + 1) d false lim))]
  have ul : w.heap.size < (sb (xt W1 y2) b (rfO v ((k : Int) + 1) d false lim)).heap.size := (Array.getElem?_eq_some_iff.1 (HH.out.h y2 (rfO v ((k : Int) + 1) d false lim))).1
  refine bodyPost_ret (v := sv (.nm t)) (by simp [results, Tryz.results80, go_sem, rl, sv, hq]) rfl ?_
  have F := (Fin.base (o := (rfO v ((k : Int) + 1) d false lim)) (x := y2) HH.out.hk hb).setB (Nat.le_refl _) hb (.cells #[.string q, .string ⟨#[]⟩, .int .i64 0, .int .i64 0, .string ⟨#[]⟩] 67 (0, 0))
  exact ⟨rfl, F.1, k + 1, hk, rfl, F.2⟩
/-! more of side -/
theorem al_base2 {w y : World} {b : Nat} {o : Obj} (z : Obj) (hb : b < w.heap.size) : ∃ W1 y', (sb (xt w y) b o).alloc z = sb (xt W1 y') b o ∧ Kp w W1 ∧ b < W1.heap.size ∧ W1.heap[(xt w y).heap.size]? = some z ∧ (xt w y).heap.size ≠ b := by
  have hbx : b < (xt w y).heap.size := Nat.lt_of_lt_of_le hb (size_xt w y)
  have hne : (xt w y).heap.size ≠ b := Nat.ne_of_gt hbx
  have h0 : ((sb (xt w y) b o).alloc z).heap[(xt w y).heap.size]? = some z := by
    have := World.alloc_heap_new (sb (xt w y) b o) z
    rwa [size_sb] at this
  have hb2 : ((sb (xt w y) b o).alloc z).heap[b]? = some o := by
    rw [Lib.alloc_old _ _ _ (by simpa using hbx)]
    exact heap_sb_same _ _ _ hbx
  have hk : Kb b w ((sb (xt w y) b o).alloc z) := (((Kb.refl b w).more y).setB o).alloc _
  obtain ⟨W1, y', e1, e2, e3, e4, e5⟩ := kb_xt hk hb hb2
  exact ⟨W1, y', e1, e2, e3, by rw [e5 _ hne]; exact h0, hne⟩
theorem wp_region_sbt {P : Program} {id : Nat} {Q : Exit → Act → World → Prop} {a : Act} {l : List Oper} {w x : World} {b : Nat} {o : Obj} (n : Nat) (hb : b < w.heap.size) (hm : P.follows .mixedOrders = true) (hB : Region.lexTailB .any l.toArray n = true)
    (h : ∀ y, wpQuiet P l.toArray (fun w' => w' = sb (xt w y) b o) (fun a' => wpList P l.toArray Q (l.drop n) a' (sb (xt w y) b o)) (l.take n) a) : (Code.region id l.toArray true).wp P Q a (sb (xt w x) b o) := by
  obtain ⟨y, hy, _⟩ := sb_kp (F := fun _ => True) (fun _ _ => trivial) hb trivial (Kp.refl (sb (xt w x) b o)).drew
  refine wp_region_still_tail n hm hB ?_
  change wpStill P l.toArray (sb (xt w x) b o).drew (fun a' => wpList P l.toArray Q (l.drop n) a' (sb (xt w x) b o).drew) (l.take n) a
  rw [hy]
  exact still_of_quiet (h y)
set_option maxHeartbeats 1000000 in
set_option maxRecDepth 100000 in
theorem side_vbad (h : w.heap[b]? = some (rfO v k d false lim)) (hv : WdsX b w v L) (hk : k < L.length) (hn : hd (L.drop k) = [58]) (hn2 : (nameOK (hd (L.drop (k + 1))) && !keptB (hd (L.drop (k + 1)))) = false) :
    Calls Tryz.prog 80 #[.pointer (some ⟨b, 0, none⟩)] w (SdBad w b v L d lim k) := by
  have hlen := hv.1
  obtain ⟨W1, y, H⟩ := SP.mk' zSdO h hv
  have HN := H.now
  have HM := H.name
  have hy := Lib.hid H.hy
  have hb := H.bw
  have hb1 := H.hb
  have ne := H.ne
  have rl := H.rl
  have r0 := H.c 0
  have r1 := H.c 1
  have r2 := H.c 2
  have r3 := H.c 3
  have r4 := H.c 4
  have rf := H.f
  have HH := Lib.hid H
  have HM1 := Lib.hid (fun y => HM.out y k d false lim (by omega))
  have HM2 := Lib.hid (fun y => HM.out y (k + 1) d false lim (by omega))
  have HNk := Lib.hid (fun y => HN.out y k d false lim (by omega))
  rw [hn] at HM1 HNk
  rw [hn2] at HM2
  rw [show (nameOK [58] && !keptB [58]) = false from rfl] at HM1
  have e58 : st [58] = ⟨#[58]⟩ := rfl
  rw [e58] at HNk
  have hk2 : (k : Int) ≤ 100000 := by omega
  clear H h hv HN HM hn hn2 e58
  go_enter Tryz.func80, Tryz.ntmps80
  go_wp2_with (first | (go_at_call 126; refine Calls_cast hy.out ?_; refine Calls_retS (F := fun _ => True) (fun _ _ => trivial) hb1 trivial (HNk.out _) ?_; intro y1 _) | (go_at_call 127; (with_reducible refine Calls_retS (F := fun _ => True) (fun _ _ => trivial) hb1 trivial (HM1.out _) ?_); intro y2 _) | (go_at_call 127; (with_reducible refine Calls_retS (F := fun _ => True) (fun _ _ => trivial) hb1 trivial (HM2.out _) ?_); intro y3 _))
  rw [store5 (HH.out.h y3 (rfO v ((k : Int) + 1) d true lim))]
  have ul : w.heap.size < (sb (xt W1 y3) b (rfO v ((k : Int) + 1) d true lim)).heap.size := (Array.getElem?_eq_some_iff.1 (HH.out.h y3 (rfO v ((k : Int) + 1) d true lim))).1
  refine bodyPost_ret (v := zSd) (by simp [results, Tryz.results80, go_sem, rl, sv]) rfl ?_
  have F := (Fin.base (o := (rfO v ((k : Int) + 1) d true lim)) (x := y3) HH.out.hk hb).setB (Nat.le_refl _) hb (.cells #[.string ⟨#[]⟩, .string ⟨#[]⟩, .int .i64 0, .int .i64 0, .string ⟨#[]⟩] 67 (0, 0))
  exact ⟨rfl, F.1, k + 1, Nat.le_succ _, hk, F.2⟩
set_option maxHeartbeats 1000000 in
set_option maxRecDepth 100000 in
theorem side_vr (h : w.heap[b]? = some (rfO v k d false lim)) (hv : WdsX b w v L) (hk : k + 1 < L.length) (hn : hd (L.drop k) = [58]) (hn2 : (nameOK (hd (L.drop (k + 1))) && !keptB (hd (L.drop (k + 1)))) = true) :
    Calls Tryz.prog 80 #[.pointer (some ⟨b, 0, none⟩)] w (SdOK w b v L d lim (.vr (hd (L.drop (k + 1)))) (L.drop (k + 2))) := by
  have hlen := hv.1
  obtain ⟨W1, y, H⟩ := SP.mk' zSdO h hv
  have HN := H.now
  have HM := H.name
  have hy := Lib.hid H.hy
  have hb := H.bw
  have hb1 := H.hb
  have ne := H.ne
  have rl := H.rl
  have r0 := H.c 0
  have r1 := H.c 1
  have r2 := H.c 2
  have r3 := H.c 3
  have r4 := H.c 4
  have rf := H.f
  have HH := Lib.hid H
  have HM1 := Lib.hid (fun y => HM.out y k d false lim (by omega))
  have HM2 := Lib.hid (fun y => HM.out y (k + 1) d false lim (by omega))
  have HNk := Lib.hid (fun y => HN.out y k d false lim (by omega))
  rw [hn] at HM1 HNk
  rw [hn2] at HM2
  rw [show (nameOK [58] && !keptB [58]) = false from rfl] at HM1
  have e58 : st [58] = ⟨#[58]⟩ := rfl
  rw [e58] at HNk
  have hk2 : (k : Int) ≤ 100000 := by omega
  have hk3 : (k : Int) + 1 < (L.length : Int) := by omega
  have hk4 : 0 ≤ (k : Int) := by omega
  have hword : ∀ x, x = st (hd (L.drop (k + 1))) → ∃ g c, v = .slice (some ⟨g, 0, none⟩) L.length c ∧ g ≠ b ∧ g < W1.heap.size ∧ W1.cell? ⟨g, k + 1, none⟩ = some (.string x) := fun x hx => by
    obtain ⟨_, ⟨_, h1⟩ | ⟨g, c, h1, h2, h3, h4⟩⟩ := hv
    · rw [h1] at hk; simp at hk
    · refine ⟨g, c, h1, h2, Nat.lt_of_lt_of_le h3 H.hk.size, ?_⟩
      rw [World.cell?_of_block (w := w) (a := ⟨g, k + 1, none⟩) (H.hk.block _ h3), h4 (k + 1) L[k + 1] (by simp [hk]), hx, hd_drop hk]
  obtain ⟨g, c, rfl, hgb, hgl, hgc⟩ := hword _ rfl
  clear hword H h hv HN HM hn hn2 e58
  generalize hd (L.drop (k + 1)) = t at *
  generalize hq : st t = q at *
  go_enter Tryz.func80, Tryz.ntmps80
  go_wp2_with (first | (go_at_call 126; refine Calls_cast hy.out ?_; refine Calls_retS (F := fun _ => True) (fun _ _ => trivial) hb1 trivial (HNk.out _) ?_; intro y1 _) | (go_at_call 127; (with_reducible refine Calls_retS (F := fun _ => True) (fun _ _ => trivial) hb1 trivial (HM1.out _) ?_); intro y2 _) | (go_at_call 127; (with_reducible refine Calls_retS (F := fun _ => True) (fun _ _ => trivial) hb1 trivial (HM2.out _) ?_); intro y3 _))
  refine wp_region_sbt 12 hb1 (by kernel_rfl) (by kernel_rfl) ?_
  intro y4
  simp only [List.take_succ_cons, List.take_zero, List.drop_succ_cons, List.drop_zero]
  repeat (go_big_quiet_step (fail))
  refine wpQuiet_nil ?_
  go_wp2
  rw [store5 (HH.out.h y4 (rfO (.slice (some ⟨g, 0, none⟩) L.length c) ((k : Int) + 1 + 1) d false lim))]
  have ul : w.heap.size < (sb (xt W1 y4) b (rfO (.slice (some ⟨g, 0, none⟩) L.length c) ((k : Int) + 1 + 1) d false lim)).heap.size := (Array.getElem?_eq_some_iff.1 (HH.out.h y4 (rfO (.slice (some ⟨g, 0, none⟩) L.length c) ((k : Int) + 1 + 1) d false lim))).1
  refine bodyPost_ret (v := sv (.vr t)) (by simp [results, Tryz.results80, go_sem, rl, sv, hq]) rfl ?_
  have F := (Fin.base (o := (rfO (.slice (some ⟨g, 0, none⟩) L.length c) ((k : Int) + 1 + 1) d false lim)) (x := y4) HH.out.hk hb).setB (Nat.le_refl _) hb (.cells #[.string ⟨#[]⟩, .string q, .int .i64 0, .int .i64 0, .string ⟨#[]⟩] 67 (0, 0))
  exact ⟨rfl, F.1, k + 2, hk, rfl, F.2⟩
set_option maxHeartbeats 1000000 in
set_option maxRecDepth 100000 in
theorem side_vl (h : w.heap[b]? = some (rfO v k d false lim)) (hv : WdsX b w v L) (hk : k < L.length) (hn : (nameOK (hd (L.drop k)) && !keptB (hd (L.drop k))) = false) (h58 : hd (L.drop k) ≠ [58]) (hlt : (hd (L.drop k)).length ≤ 100000) (h1 : hd (L.drop k) ≠ []) (h2 : (rLitV (hd (L.drop k))).2 = ((hd (L.drop k)).length : Int)) (h3 : (rLitV (hd (L.drop k))).1.ok = true) :
    Calls Tryz.prog 80 #[.pointer (some ⟨b, 0, none⟩)] w (SdOK w b v L d lim (.vl (rLitV (hd (L.drop k))).1) (L.drop (k + 1))) := by
  have hlen := hv.1
  obtain ⟨W1, y, H⟩ := SP.mk' zSdO h hv
  have HN := H.now
  have HM := H.name
  have hy := Lib.hid H.hy
  have hb := H.bw
  have hb1 := H.hb
  have ne := H.ne
  have rl := H.rl
  have r0 := H.c 0
  have r1 := H.c 1
  have r2 := H.c 2
  have r3 := H.c 3
  have r4 := H.c 4
  have rf := H.f
  have HH := Lib.hid H
  have HM1 := Lib.hid (fun y => HM.out y k d false lim (by omega))
  have HNk := Lib.hid (fun y => HN.out y k d false lim (by omega))
  rw [hn] at HM1
  have hL2 := Lib.hid (fun W => rlit_ret (hd (L.drop k)) W hlt)
  have hk2 : (k : Int) ≤ 100000 := by omega
  have hne58 : ((st (hd (L.drop k))).toList == [58]) = false := by rw [st_list']; simpa using h58
  have hem : (st (hd (L.drop k))).toList = hd (L.drop k) := st_list' _
  have hsz : (st (hd (L.drop k))).size = (hd (L.drop k)).length := st_size _
  have hV := Lib.hid (fun W => rval_ret (rLitV (hd (L.drop k))).1.k (rLitV (hd (L.drop k))).1.n (rLitV (hd (L.drop k))).1.s W)
  rw [show validV (rLitV (hd (L.drop k))).1.k (rLitV (hd (L.drop k))).1.n (rLitV (hd (L.drop k))).1.s = true from h3] at hV
  have hpos : (st (hd (L.drop k))).toList.isEmpty = false := by rw [hem]; simpa using h1
  have hn0 : ((st (hd (L.drop k))).toList != []) = true := by rw [hem]; simpa using h1
  rw [h2, ← hsz] at hL2
  clear H h hv HN HM hn h58 hem h1 h2 h3
  generalize st (hd (L.drop k)) = q at *
  generalize (rLitV (hd (L.drop k))).1 = x at *
  obtain ⟨xk, xn, xs⟩ := x
  go_enter Tryz.func80, Tryz.ntmps80
  go_wp2_with (first | (go_at_call 126; refine Calls_cast hy.out ?_; refine Calls_retS (F := fun _ => True) (fun _ _ => trivial) hb1 trivial (HNk.out _) ?_; intro y1 _) | (go_at_call 127; (with_reducible refine Calls_retS (F := fun _ => True) (fun _ _ => trivial) hb1 trivial (HM1.out _) ?_); intro y2 _) | (go_at_call 128; refine Calls_retS (F := fun _ => True) (fun _ _ => trivial) hb1 trivial (hL2.out _) ?_; intro y3 _; obtain ⟨W2, y4, hW, hk12, hb2, hr2, hne2⟩ := al_base2 (y := y3) (o := rfO v k d false lim) (.cells #[.int .i64 xk, .int .i64 xn, .string xs] 53) hb1; have rl2 : w.heap.size < W2.heap.size := Nat.lt_of_lt_of_le rl hk12.size; have q0 : ∀ i, W2.cell? ⟨w.heap.size, i, none⟩ = (#[Value.string ⟨#[]⟩, .string ⟨#[]⟩, .int .i64 0, .int .i64 0, .string ⟨#[]⟩])[i]? := (fun i => Lib.cell_of_heap ((hk12.block _ rl).trans HH.out.hw) i); have qf : ∀ i, W2.frozen? ⟨w.heap.size, i, none⟩ = false := (fun i => Lib.frozen_of_heap ((hk12.block _ rl).trans HH.out.hw) i); have q1 := q0 0; have q2 := q0 1; have q3 := q0 2; have q4 := q0 3; have q5 := q0 4; have p0 := Lib.cell_of_heap hr2 0; have p1 := Lib.cell_of_heap hr2 1; have p2 := Lib.cell_of_heap hr2 2; have pl := (Array.getElem?_eq_some_iff.1 hr2).1; have hh2 := Lib.hid ((hk12.block _ rl).trans HH.out.hw); replace hW := Lib.hid hW; clear hr2 q0) | (go_at_call 85; refine Calls_cast hW.out ?_; refine Calls_retS (F := fun _ => True) (fun _ _ => trivial) hb2 trivial (hV.out _) ?_; intro y5 _))
  have h9 : ∀ y o, (sb (xt W2 y) b o).heap[w.heap.size]? = some zSdO := fun y o => by
    rw [heap_sb_other _ _ _ ne, heap_xt _ _ rl2]
    exact hh2.out
  rw [store5 (h9 y5 (rfO v ((k : Int) + 1) d false lim))]
  have ul : w.heap.size < (sb (xt W2 y5) b (rfO v ((k : Int) + 1) d false lim)).heap.size := (Array.getElem?_eq_some_iff.1 (h9 y5 (rfO v ((k : Int) + 1) d false lim))).1
  refine bodyPost_ret (v := sv (.vl ⟨xk, xn, xs⟩)) (by simp [results, Tryz.results80, go_sem, rl2, sv]) rfl ?_
  have F := (Fin.base (o := (rfO v ((k : Int) + 1) d false lim)) (x := y5) (HH.out.hk.trans hk12) hb).setB (Nat.le_refl _) hb (.cells #[.string ⟨#[]⟩, .string ⟨#[]⟩, .int .i64 xk, .int .i64 xn, .string xs] 67 (0, 0))
  exact ⟨rfl, F.1, k + 1, hk, rfl, F.2⟩
set_option maxHeartbeats 1000000 in
set_option maxRecDepth 100000 in
theorem side_lbad (h : w.heap[b]? = some (rfO v k d false lim)) (hv : WdsX b w v L) (hk : k ≤ L.length) (hn : (nameOK (hd (L.drop k)) && !keptB (hd (L.drop k))) = false) (h58 : hd (L.drop k) ≠ [58]) (hlt : (hd (L.drop k)).length ≤ 100000) (h1 : hd (L.drop k) = [] ∨ (rLitV (hd (L.drop k))).2 ≠ ((hd (L.drop k)).length : Int) ∨ ((rLitV (hd (L.drop k))).2 = ((hd (L.drop k)).length : Int) ∧ (rLitV (hd (L.drop k))).1.ok = false)) :
    Calls Tryz.prog 80 #[.pointer (some ⟨b, 0, none⟩)] w (SdBad w b v L d lim k) := by
  have hlen := hv.1
  obtain ⟨W1, y, H⟩ := SP.mk' zSdO h hv
  have HN := H.now
  have HM := H.name
  have hy := Lib.hid H.hy
  have hb := H.bw
  have hb1 := H.hb
  have ne := H.ne
  have rl := H.rl
  have r0 := H.c 0
  have r1 := H.c 1
  have r2 := H.c 2
  have r3 := H.c 3
  have r4 := H.c 4
  have rf := H.f
  have HH := Lib.hid H
  have HM1 := Lib.hid (fun y => HM.out y k d false lim (by omega))
  have HNk := Lib.hid (fun y => HN.out y k d false lim (by omega))
  rw [hn] at HM1
  have hL2 := Lib.hid (fun W => rlit_ret (hd (L.drop k)) W hlt)
  have hk2 : (k : Int) ≤ 100000 := by omega
  have hne58 : ((st (hd (L.drop k))).toList == [58]) = false := by rw [st_list']; simpa using h58
  have hem : (st (hd (L.drop k))).toList = hd (L.drop k) := st_list' _
  have hsz : (st (hd (L.drop k))).size = (hd (L.drop k)).length := st_size _
  have hV := Lib.hid (fun W => rval_ret (rLitV (hd (L.drop k))).1.k (rLitV (hd (L.drop k))).1.n (rLitV (hd (L.drop k))).1.s W)
  have hcase : ((st (hd (L.drop k))).toList.isEmpty = true) ∨ ((st (hd (L.drop k))).toList.isEmpty = false ∧ ((rLitV (hd (L.drop k))).2 == ((st (hd (L.drop k))).size : Int)) = false) ∨ ((st (hd (L.drop k))).toList.isEmpty = false ∧ (rLitV (hd (L.drop k))).2 = ((st (hd (L.drop k))).size : Int) ∧ validV (rLitV (hd (L.drop k))).1.k (rLitV (hd (L.drop k))).1.n (rLitV (hd (L.drop k))).1.s = false) := by
    rw [hem, hsz]
    by_cases he : hd (L.drop k) = []
    · left; simp [he]
    · have he' : (hd (L.drop k)).isEmpty = false := by simpa using he
      rcases h1 with h1 | h1 | h1
      · exact absurd h1 he
      · right; left; exact ⟨he', by simpa using h1⟩
      · right; right; exact ⟨he', h1.1, h1.2⟩
  clear H h hv HN HM hn h58 hem h1
  generalize st (hd (L.drop k)) = q at *
  generalize (rLitV (hd (L.drop k))).1 = x at *
  generalize (rLitV (hd (L.drop k))).2 = z at *
  obtain ⟨xk, xn, xs⟩ := x
  rcases hcase with c1 | ⟨c1, c2⟩ | ⟨c1, c2, c3⟩
  · go_enter Tryz.func80, Tryz.ntmps80
    go_wp2_with (first | (go_at_call 126; refine Calls_cast hy.out ?_; refine Calls_retS (F := fun _ => True) (fun _ _ => trivial) hb1 trivial (HNk.out _) ?_; intro y1 _) | (go_at_call 127; (with_reducible refine Calls_retS (F := fun _ => True) (fun _ _ => trivial) hb1 trivial (HM1.out _) ?_); intro y2 _) | (go_at_call 128; refine Calls_retS (F := fun _ => True) (fun _ _ => trivial) hb1 trivial (hL2.out _) ?_; intro y3 _; obtain ⟨W2, y4, hW, hk12, hb2, hr2, hne2⟩ := al_base2 (y := y3) (o := rfO v k d false lim) (.cells #[.int .i64 xk, .int .i64 xn, .string xs] 53) hb1; have rl2 : w.heap.size < W2.heap.size := Nat.lt_of_lt_of_le rl hk12.size; have q0 : ∀ i, W2.cell? ⟨w.heap.size, i, none⟩ = (#[Value.string ⟨#[]⟩, .string ⟨#[]⟩, .int .i64 0, .int .i64 0, .string ⟨#[]⟩])[i]? := (fun i => Lib.cell_of_heap ((hk12.block _ rl).trans HH.out.hw) i); have qf : ∀ i, W2.frozen? ⟨w.heap.size, i, none⟩ = false := (fun i => Lib.frozen_of_heap ((hk12.block _ rl).trans HH.out.hw) i); have q1 := q0 0; have q2 := q0 1; have q3 := q0 2; have q4 := q0 3; have q5 := q0 4; have p0 := Lib.cell_of_heap hr2 0; have p1 := Lib.cell_of_heap hr2 1; have p2 := Lib.cell_of_heap hr2 2; have pl := (Array.getElem?_eq_some_iff.1 hr2).1; have hh2 := Lib.hid ((hk12.block _ rl).trans HH.out.hw); replace hW := Lib.hid hW; clear hr2 q0))
    rw [store5 (HH.out.h y3 (rfO v k d true lim))]
    have ul : w.heap.size < (sb (xt W1 y3) b (rfO v k d true lim)).heap.size := (Array.getElem?_eq_some_iff.1 (HH.out.h y3 (rfO v k d true lim))).1
    refine bodyPost_ret (v := zSd) (by simp [results, Tryz.results80, go_sem, rl, sv]) rfl ?_
    have F := ((Fin.base (o := rfO v k d true lim) (x := y3) HH.out.hk hb).setB (Nat.le_refl _) hb (.cells #[.string ⟨#[]⟩, .string ⟨#[]⟩, .int .i64 0, .int .i64 0, .string ⟨#[]⟩] 67 (0, 0))).alloc (.cells #[.int .i64 xk, .int .i64 xn, .string xs] 53)
    exact ⟨rfl, F.1, k, Nat.le_refl _, hk, F.2⟩
  · clear hsz
    go_enter Tryz.func80, Tryz.ntmps80
    go_wp2_with (first | (go_at_call 126; refine Calls_cast hy.out ?_; refine Calls_retS (F := fun _ => True) (fun _ _ => trivial) hb1 trivial (HNk.out _) ?_; intro y1 _) | (go_at_call 127; (with_reducible refine Calls_retS (F := fun _ => True) (fun _ _ => trivial) hb1 trivial (HM1.out _) ?_); intro y2 _) | (go_at_call 128; refine Calls_retS (F := fun _ => True) (fun _ _ => trivial) hb1 trivial (hL2.out _) ?_; intro y3 _; obtain ⟨W2, y4, hW, hk12, hb2, hr2, hne2⟩ := al_base2 (y := y3) (o := rfO v k d false lim) (.cells #[.int .i64 xk, .int .i64 xn, .string xs] 53) hb1; have rl2 : w.heap.size < W2.heap.size := Nat.lt_of_lt_of_le rl hk12.size; have q0 : ∀ i, W2.cell? ⟨w.heap.size, i, none⟩ = (#[Value.string ⟨#[]⟩, .string ⟨#[]⟩, .int .i64 0, .int .i64 0, .string ⟨#[]⟩])[i]? := (fun i => Lib.cell_of_heap ((hk12.block _ rl).trans HH.out.hw) i); have qf : ∀ i, W2.frozen? ⟨w.heap.size, i, none⟩ = false := (fun i => Lib.frozen_of_heap ((hk12.block _ rl).trans HH.out.hw) i); have q1 := q0 0; have q2 := q0 1; have q3 := q0 2; have q4 := q0 3; have q5 := q0 4; have p0 := Lib.cell_of_heap hr2 0; have p1 := Lib.cell_of_heap hr2 1; have p2 := Lib.cell_of_heap hr2 2; have pl := (Array.getElem?_eq_some_iff.1 hr2).1; have hh2 := Lib.hid ((hk12.block _ rl).trans HH.out.hw); replace hW := Lib.hid hW; clear hr2 q0))
    rw [store5 (HH.out.h y3 (rfO v k d true lim))]
    have ul : w.heap.size < (sb (xt W1 y3) b (rfO v k d true lim)).heap.size := (Array.getElem?_eq_some_iff.1 (HH.out.h y3 (rfO v k d true lim))).1
    refine bodyPost_ret (v := zSd) (by simp [results, Tryz.results80, go_sem, rl, sv]) rfl ?_
    have F := ((Fin.base (o := rfO v k d true lim) (x := y3) HH.out.hk hb).setB (Nat.le_refl _) hb (.cells #[.string ⟨#[]⟩, .string ⟨#[]⟩, .int .i64 0, .int .i64 0, .string ⟨#[]⟩] 67 (0, 0))).alloc (.cells #[.int .i64 xk, .int .i64 xn, .string xs] 53)
    exact ⟨rfl, F.1, k, Nat.le_refl _, hk, F.2⟩
  · subst c2
    rw [c3] at hV
    go_enter Tryz.func80, Tryz.ntmps80
    go_wp2_with (first | (go_at_call 126; refine Calls_cast hy.out ?_; refine Calls_retS (F := fun _ => True) (fun _ _ => trivial) hb1 trivial (HNk.out _) ?_; intro y1 _) | (go_at_call 127; (with_reducible refine Calls_retS (F := fun _ => True) (fun _ _ => trivial) hb1 trivial (HM1.out _) ?_); intro y2 _) | (go_at_call 128; refine Calls_retS (F := fun _ => True) (fun _ _ => trivial) hb1 trivial (hL2.out _) ?_; intro y3 _; obtain ⟨W2, y4, hW, hk12, hb2, hr2, hne2⟩ := al_base2 (y := y3) (o := rfO v k d false lim) (.cells #[.int .i64 xk, .int .i64 xn, .string xs] 53) hb1; have rl2 : w.heap.size < W2.heap.size := Nat.lt_of_lt_of_le rl hk12.size; have q0 : ∀ i, W2.cell? ⟨w.heap.size, i, none⟩ = (#[Value.string ⟨#[]⟩, .string ⟨#[]⟩, .int .i64 0, .int .i64 0, .string ⟨#[]⟩])[i]? := (fun i => Lib.cell_of_heap ((hk12.block _ rl).trans HH.out.hw) i); have qf : ∀ i, W2.frozen? ⟨w.heap.size, i, none⟩ = false := (fun i => Lib.frozen_of_heap ((hk12.block _ rl).trans HH.out.hw) i); have q1 := q0 0; have q2 := q0 1; have q3 := q0 2; have q4 := q0 3; have q5 := q0 4; have p0 := Lib.cell_of_heap hr2 0; have p1 := Lib.cell_of_heap hr2 1; have p2 := Lib.cell_of_heap hr2 2; have pl := (Array.getElem?_eq_some_iff.1 hr2).1; have hh2 := Lib.hid ((hk12.block _ rl).trans HH.out.hw); replace hW := Lib.hid hW; clear hr2 q0) | (go_at_call 85; refine Calls_cast hW.out ?_; refine Calls_retS (F := fun _ => True) (fun _ _ => trivial) hb2 trivial (hV.out _) ?_; intro y5 _))
    have h9 : ∀ y o, (sb (xt W2 y) b o).heap[w.heap.size]? = some zSdO := fun y o => by
      rw [heap_sb_other _ _ _ ne, heap_xt _ _ rl2]
      exact hh2.out
    rw [store5 (h9 y5 (rfO v k d true lim))]
    have ul : w.heap.size < (sb (xt W2 y5) b (rfO v k d true lim)).heap.size := (Array.getElem?_eq_some_iff.1 (h9 y5 (rfO v k d true lim))).1
    refine bodyPost_ret (v := zSd) (by simp [results, Tryz.results80, go_sem, rl2, sv]) rfl ?_
    have F := (Fin.base (o := (rfO v k d true lim)) (x := y5) (HH.out.hk.trans hk12) hb).setB (Nat.le_refl _) hb (.cells #[.string ⟨#[]⟩, .string ⟨#[]⟩, .int .i64 0, .int .i64 0, .string ⟨#[]⟩] 67 (0, 0))
    exact ⟨rfl, F.1, k, Nat.le_refl _, hk, F.2⟩
def SideR (w : World) (b : Nat) (v : Value) (L : List Bs) (d : Int) (lim : Bool) (k : Nat) : Option (Trm × List Bs) → Ending → World → Prop
  | some (x, T') => SdOK w b v L d lim x T'
  | none => SdBad w b v L d lim k
/-- side. -/
theorem side_ret (h : w.heap[b]? = some (rfO v k d bad lim)) (hv : WdsX b w v L) (hk : k ≤ L.length) (hw : ∀ x ∈ L, x.length ≤ 100000) :
    Calls Tryz.prog 80 #[.pointer (some ⟨b, 0, none⟩)] w (SideR w b v L d lim k (if bad then none else pTerm (L.drop k))) := by
  cases bad with
  | true => exact side_was h hv hk
  | false =>
    show Calls _ _ _ _ (SideR w b v L d lim k (pTerm (L.drop k)))
    by_cases hlt : k < L.length
    · have hd1 := hd_drop hlt
      have hdr : L.drop k = L[k] :: L.drop (k + 1) := List.drop_eq_getElem_cons hlt
      have hlw : (hd (L.drop k)).length ≤ 100000 := by rw [hd1]; exact hw _ (List.getElem_mem hlt)
      by_cases h58 : hd (L.drop k) = [58]
      · have e : pTerm (L.drop k) = match pTerm (L.drop (k + 1)) with | some (.nm a, T') => if a = [] then none else some (.vr a, T') | _ => none := by
          conv => lhs; rw [hdr]
          rw [pTerm, if_pos (by rw [← hd1]; exact h58)]
          cases pTerm (L.drop (k + 1)) with
          | none => rfl
          | some r =>
            obtain ⟨x, T'⟩ := r
            cases x <;> rfl
        by_cases hn2 : (nameOK (hd (L.drop (k + 1))) && !keptB (hd (L.drop (k + 1)))) = true
        · have hlt2 : k + 1 < L.length := by
            rcases Nat.lt_or_ge (k + 1) L.length with h | h
            · exact h
            · rw [List.drop_eq_nil_of_le h] at hn2
              exact absurd hn2 (by decide)
          have hdr2 : L.drop (k + 1) = L[k + 1] :: L.drop (k + 2) := List.drop_eq_getElem_cons hlt2
          have hd2 := hd_drop hlt2
          have e2 : pTerm (L.drop (k + 1)) = some (.nm (hd (L.drop (k + 1))), L.drop (k + 2)) := by
            rw [hd2] at hn2 ⊢
            conv => lhs; rw [hdr2]
            rw [pTerm, if_neg (by rintro e; rw [e] at hn2; exact absurd hn2 (by decide)), if_pos hn2]
          have hne : hd (L.drop (k + 1)) ≠ [] := by
            intro e
            rw [e] at hn2
            exact absurd hn2 (by decide)
          rw [e, e2]
          simp only
          rw [if_neg hne]
          exact side_vr h hv hlt2 h58 hn2
        · have hn2' : (nameOK (hd (L.drop (k + 1))) && !keptB (hd (L.drop (k + 1)))) = false := by simpa using hn2
          have e2 : ∀ a T', pTerm (L.drop (k + 1)) = some (.nm a, T') → a = [] := fun a T' h => by
            cases hT : L.drop (k + 1) with
            | nil => rw [hT] at h; cases h
            | cons t T =>
              rw [hT] at h hn2'
              rw [pTerm] at h
              split at h
              · split at h
                · split at h <;> cases h
                · cases h
              · split at h
                · rename_i h9
                  exact absurd h9 (by simpa [hd] using hn2')
                · cases hl : litI t with
                  | none => rw [hl] at h; cases h
                  | some x => rw [hl] at h; cases h
          have e3 : pTerm (L.drop k) = none := by
            rw [e]
            split
            · rename_i a T' h9
              rw [if_pos (e2 a T' h9)]
            · rfl
          rw [e3]
          exact side_vbad h hv hlt h58 hn2'
      · by_cases hn : (nameOK (hd (L.drop k)) && !keptB (hd (L.drop k))) = true
        · have e : pTerm (L.drop k) = some (.nm (hd (L.drop k)), L.drop (k + 1)) := by
            rw [hd1] at hn h58 ⊢
            conv => lhs; rw [hdr]
            rw [pTerm, if_neg h58, if_pos hn]
          rw [e]
          exact side_nm h hv hlt hn
        · have hn' : (nameOK (hd (L.drop k)) && !keptB (hd (L.drop k))) = false := by simpa using hn
          have e : pTerm (L.drop k) = (rLit (hd (L.drop k))).map fun x => (.vl x, L.drop (k + 1)) := by
            rw [hd1] at hn h58 ⊢
            conv => lhs; rw [hdr]
            rw [pTerm, if_neg h58, if_neg hn, rLit_eq]
          rw [e, rLit_V]
          by_cases hc : hd (L.drop k) ≠ [] ∧ (rLitV (hd (L.drop k))).2 = ((hd (L.drop k)).length : Int) ∧ (rLitV (hd (L.drop k))).1.ok = true
          · rw [if_pos hc]
            exact side_vl h hv hlt hn' h58 hlw hc.1 hc.2.1 hc.2.2
          · rw [if_neg hc]
            refine side_lbad h hv hk hn' h58 hlw ?_
            by_cases h1 : hd (L.drop k) = []
            · exact .inl h1
            · by_cases h2 : (rLitV (hd (L.drop k))).2 = ((hd (L.drop k)).length : Int)
              · exact .inr (.inr ⟨h2, by
                  cases h3 : (rLitV (hd (L.drop k))).1.ok with
                  | false => rfl
                  | true => exact absurd ⟨h1, h2, h3⟩ hc⟩)
              · exact .inr (.inl h2)
    · have e : L.drop k = [] := List.drop_eq_nil_of_le (by omega)
      have h0 : hd (L.drop k) = [] := by rw [e]; rfl
      have e2 : pTerm (L.drop k) = none := by rw [e]; rfl
      rw [e2]
      exact side_lbad h hv hk (by rw [h0]; rfl) (by rw [h0]; simp) (by rw [h0]; simp) (.inl h0)
end
end Go.Proofs.YtpmheafccfnfjaaGreatDoor
