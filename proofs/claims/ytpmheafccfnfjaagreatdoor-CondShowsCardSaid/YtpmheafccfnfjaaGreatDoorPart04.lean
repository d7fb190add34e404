/- cond's reader: term, values. cond's reader: term, numbers. cond's reader: term, all ways. cond's reader: term, variables; the whole of it. Conditions as trees; the reader's descent over words. cond's reader: not, over what prim does. cond's reader: and. cond's reader: or. cond's reader: prim, kept words. cond's reader: what a parenthesis opens. -/
import Derived.Test.YtpmheafccfnfjaaGreatDoorPart03
set_option linter.unusedSimpArgs false
set_option linter.unusedVariables false
namespace Go.Proofs.YtpmheafccfnfjaaGreatDoor
open Go Go.RowKit
section
variable {w : World} {b : Nat} {s : ByteArray} {n : Nat} {d : Int} {t : Bs} {T : List Bs} {W1 y : World} {m : Nat} {x : World} {ob : Obj} {R : Ending → World → Prop}
theorem TP.fin (h : TP w b s n d t T W1 y m) (hb : b < w.heap.size) {X : World} (hk : Kp (sb (xt W1 x) b ob) X) : Fin w b ob X ∧ X.heap[w.heap.size]? = some (.cells #[.string ⟨#[]⟩, .bool false, .int .i64 0, .int .i64 0, .string ⟨#[]⟩] 93 (0, 0)) := by
  obtain ⟨z, rfl, _⟩ := sb_kp (F := fun _ => True) (fun _ _ => trivial) h.hb trivial hk
  exact ⟨Fin.base h.hk hb, h.h (by omega) z ob⟩
theorem parse_arm_ok (h : TP w b s n d t T W1 y m) (hb : b < w.heap.size) (hsz : (st t).size ≤ 1000) (hg : Glob w) (hb8 : 8 ≤ b) {l : List Vl} (hp : parseI (st t) = some l)
    (k : ∀ Y v, Fin w b ob Y → Y.heap[w.heap.size]? = some (.cells #[.string ⟨#[]⟩, .bool false, .int .i64 0, .int .i64 0, .string ⟨#[]⟩] 93 (0, 0)) → RowIs Y v l → R (.returned (.tuple #[v, .int .i64 0])) Y) :
    Calls Tryz.prog 157 #[.string (st t)] (sb (xt W1 x) b ob) R :=
  (parse_ok (st t) _ (by omega) (((hg.kp h.hk).xt x).sb hb8 ob) hp).mono fun e w' ⟨v, he, hk, hr⟩ => by
    subst he
    exact k w' v (h.fin hb hk).1 (h.fin hb hk).2 hr
theorem parse_arm_bad (h : TP w b s n d t T W1 y m) (hb : b < w.heap.size) (hsz : (st t).size ≤ 1000) (hg : Glob w) (hb8 : 8 ≤ b) (hp : parseI (st t) = none)
    (k : ∀ Y, Fin w b ob Y → R (.returned (.tuple #[.slice none 0 0, .int .i64 2])) Y) :
    Calls Tryz.prog 157 #[.string (st t)] (sb (xt W1 x) b ob) R :=
  (parse_bad (st t) _ (by omega) (((hg.kp h.hk).xt x).sb hb8 ob) hp).mono fun e w' ⟨he, hk⟩ => by
    subst he
    exact k w' (h.fin hb hk).1
theorem Fin.pan (h : Fin w b ob x) {v : Value} : PanB w b v (.panicked [{ v, recovered := false }]) x := ⟨rfl, h.1⟩
theorem Fin.retT (h : Fin w b ob x) (hb : b < w.heap.size) {u v : Value} {r : Nat} {o : Obj} {k : Nat} (hr : w.heap.size ≤ r) (e : u = v) (hk : k ≤ s.size) (ht : toks (sfx s k) = T) (ho : ob = rdO s k d) : RetT w b s T d v (.returned u) (Go.Proofs.YtpmheafccfnfjaaGreatDoor.sb x r o) := by
  have F := h.setB hr hb o
  exact ⟨by rw [e], F.1, k, hk, ht, by rw [← ho]; exact F.2⟩
end
theorem row_one {Y : World} {v : Value} {x : Vl} (h : RowIs Y v [x]) : ∃ bb oo c, v = .slice (some ⟨bb, oo, none⟩) 1 c ∧ bb < Y.heap.size ∧ Y.cell? ⟨bb, oo, none⟩ = some (.int .i64 x.k) ∧ Y.cell? ⟨bb, oo + 1, none⟩ = some (.int .i64 x.n) ∧ Y.cell? ⟨bb, oo + 2, none⟩ = some (.string x.s) := by
  obtain ⟨_, a, c, rfl, h0 | ⟨bb, oo, rfl, hb, hc⟩⟩ := h
  · cases h0
  · have := hc 0 (by simp)
    simp at this
    exact ⟨bb, oo, c, rfl, hb, this.1, this.2.1, this.2.2⟩
theorem parse_pos {t : ByteArray} {x : Vl} (h : parseI t = some [x]) : 0 < t.size := by
  rcases Nat.eq_zero_or_pos t.size with h0 | h0
  · unfold parseI rowsI at h
    rw [if_pos h0] at h
    simp only at h
    split at h <;> cases h
  · exact h0
set_option maxHeartbeats 2000000 in
set_option maxRecDepth 100000 in
theorem tl_err_none (b : Nat) (s : ByteArray) (n : Nat) (d : Int) (w : World) (hb : b < w.heap.size) (hs : s.size ≤ 1000) (t : Bs) (T : List Bs) (W1 y : World) (m : Nat) (H : TP w b s n d t T W1 y m) (hg' : Glob w) (hb8 : 8 ≤ b)
    (h58 : t ≠ [58]) (hnm : (nameOK t && !keptB t) = false) (ha : ∀ v, Lib.atoiAll t ≠ .ok v) (hp : parseI (st t) = none) :
    Calls Tryz.prog 118 #[.pointer (some ⟨b, 0, none⟩)] w (PanB w b wrongC) := by
  have hne : w.heap.size ≠ b := by omega
  have hb1 := H.hb
  have r0 := H.c 0
  have r1 := H.c 1
  have r2 := H.c 2
  have r3 := H.c 3
  have r4 := H.c 4
  have rf := H.f
  have rl := H.rl
  have hsz : (st t).size ≤ 1000 := by have := H.sz; omega
  have hmm : m ≤ s.size := by have := H.sz; omega
  have hss : m + (st t).size ≤ s.size := H.sz
  have HW1 := Lib.hid (H.h hne)
  have HH := Lib.hid H
  clear H
  have HN := name_ret (st t)
  rw [st_list] at HN
  have HN := Lib.hid (fun w => HN w (by omega))
  have HK := Lib.hid (kept_ret (st t))
  rw [show hasS kwords (st t) = keptB t from rfl] at HK
  have e58 : ((st t).toList == [58]) = false := by
    rw [st_list']
    simpa using h58
  have hg := Lib.hid hg'
  have HG := Lib.hid (fun (y : World) (o : Obj) => ((hg'.kp HH.out.hk).xt y).sb hb8 o)
  clear h58 hg'
  have HA := Lib.hid (fun W hG => atoi_err (st t) W (by omega) hG (by rw [st_list]; exact ha))
  clear ha
  cases h1 : nameOK t
  · rw [h1] at HN
    clear hnm
    go_enter Tryz.func118, Tryz.ntmps118
    go_wp2_with (first | (go_at_call 119; rw [HH.out.hy]; refine Calls_retBS hb1 HH.out.word ?_; intro y1) | (go_at_call 65; refine Calls_retS (F := fun _ => True) (fun _ _ => trivial) hb1 trivial (HN.out _) ?_; intro y2 _) | (go_at_call 155; refine (HA.out _ (HG.out _ _)).mono ?_; rintro e w' ⟨z, N, rfl, hk5⟩; obtain ⟨y4, rfl, _⟩ := sb_kp (F := fun _ => True) (fun _ _ => trivial) hb1 trivial hk5; clear hk5; unfold errN) | (go_at_call 157; refine parse_arm_bad HH.out hb hsz hg.out hb8 hp ?_; intro Y hF))
    exact ⟨rfl, hF.pan⟩
  · cases h2 : keptB t
    · rw [h1, h2] at hnm; cases hnm
    · rw [h1] at HN
      rw [h2] at HK
      clear hnm
      go_enter Tryz.func118, Tryz.ntmps118
      go_wp2_with (first | (go_at_call 119; rw [HH.out.hy]; refine Calls_retBS hb1 HH.out.word ?_; intro y1) | (go_at_call 65; refine Calls_retS (F := fun _ => True) (fun _ _ => trivial) hb1 trivial (HN.out _) ?_; intro y2 _) | (go_at_call 66; refine Calls_retS (F := fun _ => True) (fun _ _ => trivial) hb1 trivial (HK.out _) ?_; intro y3 _) | (go_at_call 155; refine (HA.out _ (HG.out _ _)).mono ?_; rintro e w' ⟨z, N, rfl, hk5⟩; obtain ⟨y4, rfl, _⟩ := sb_kp (F := fun _ => True) (fun _ _ => trivial) hb1 trivial hk5; clear hk5; unfold errN) | (go_at_call 157; refine parse_arm_bad HH.out hb hsz hg.out hb8 hp ?_; intro Y hF))
      exact ⟨rfl, hF.pan⟩
set_option maxHeartbeats 2000000 in
set_option maxRecDepth 100000 in
theorem tl_err_len (b : Nat) (s : ByteArray) (n : Nat) (d : Int) (w : World) (hb : b < w.heap.size) (hs : s.size ≤ 1000) (t : Bs) (T : List Bs) (W1 y : World) (m : Nat) (H : TP w b s n d t T W1 y m) (hg' : Glob w) (hb8 : 8 ≤ b)
    (h58 : t ≠ [58]) (hnm : (nameOK t && !keptB t) = false) (ha : ∀ v, Lib.atoiAll t ≠ .ok v) {l : List Vl} (hp : parseI (st t) = some l) (hlen : l.length ≠ 1) :
    Calls Tryz.prog 118 #[.pointer (some ⟨b, 0, none⟩)] w (PanB w b wrongC) := by
  have hne : w.heap.size ≠ b := by omega
  have hb1 := H.hb
  have r0 := H.c 0
  have r1 := H.c 1
  have r2 := H.c 2
  have r3 := H.c 3
  have r4 := H.c 4
  have rf := H.f
  have rl := H.rl
  have hsz : (st t).size ≤ 1000 := by have := H.sz; omega
  have hmm : m ≤ s.size := by have := H.sz; omega
  have hss : m + (st t).size ≤ s.size := H.sz
  have HW1 := Lib.hid (H.h hne)
  have HH := Lib.hid H
  clear H
  have HN := name_ret (st t)
  rw [st_list] at HN
  have HN := Lib.hid (fun w => HN w (by omega))
  have HK := Lib.hid (kept_ret (st t))
  rw [show hasS kwords (st t) = keptB t from rfl] at HK
  have e58 : ((st t).toList == [58]) = false := by
    rw [st_list']
    simpa using h58
  have hg := Lib.hid hg'
  have HG := Lib.hid (fun (y : World) (o : Obj) => ((hg'.kp HH.out.hk).xt y).sb hb8 o)
  clear h58 hg'
  have HA := Lib.hid (fun W hG => atoi_err (st t) W (by omega) hG (by rw [st_list]; exact ha))
  clear ha
  have hl1 : ((l.length : Int) == 1) = false := by simp; omega
  cases h1 : nameOK t
  · rw [h1] at HN
    clear hnm
    go_enter Tryz.func118, Tryz.ntmps118
    go_wp2_with (first | (go_at_call 119; rw [HH.out.hy]; refine Calls_retBS hb1 HH.out.word ?_; intro y1) | (go_at_call 65; refine Calls_retS (F := fun _ => True) (fun _ _ => trivial) hb1 trivial (HN.out _) ?_; intro y2 _) | (go_at_call 155; refine (HA.out _ (HG.out _ _)).mono ?_; rintro e w' ⟨z, N, rfl, hk5⟩; obtain ⟨y4, rfl, _⟩ := sb_kp (F := fun _ => True) (fun _ _ => trivial) hb1 trivial hk5; clear hk5; unfold errN) | (go_at_call 157; refine parse_arm_ok HH.out hb hsz hg.out hb8 hp ?_; intro Y v hF hr hrow; obtain ⟨hlm, a, c, rfl, _⟩ := hrow))
    exact ⟨rfl, hF.pan⟩
  · cases h2 : keptB t
    · rw [h1, h2] at hnm; cases hnm
    · rw [h1] at HN
      rw [h2] at HK
      clear hnm
      go_enter Tryz.func118, Tryz.ntmps118
      go_wp2_with (first | (go_at_call 119; rw [HH.out.hy]; refine Calls_retBS hb1 HH.out.word ?_; intro y1) | (go_at_call 65; refine Calls_retS (F := fun _ => True) (fun _ _ => trivial) hb1 trivial (HN.out _) ?_; intro y2 _) | (go_at_call 66; refine Calls_retS (F := fun _ => True) (fun _ _ => trivial) hb1 trivial (HK.out _) ?_; intro y3 _) | (go_at_call 155; refine (HA.out _ (HG.out _ _)).mono ?_; rintro e w' ⟨z, N, rfl, hk5⟩; obtain ⟨y4, rfl, _⟩ := sb_kp (F := fun _ => True) (fun _ _ => trivial) hb1 trivial hk5; clear hk5; unfold errN) | (go_at_call 157; refine parse_arm_ok HH.out hb hsz hg.out hb8 hp ?_; intro Y v hF hr hrow; obtain ⟨hlm, a, c, rfl, _⟩ := hrow))
      exact ⟨rfl, hF.pan⟩
set_option maxHeartbeats 2000000 in
set_option maxRecDepth 100000 in
theorem tl_err_no (b : Nat) (s : ByteArray) (n : Nat) (d : Int) (w : World) (hb : b < w.heap.size) (hs : s.size ≤ 1000) (t : Bs) (T : List Bs) (W1 y : World) (m : Nat) (H : TP w b s n d t T W1 y m) (hg' : Glob w) (hb8 : 8 ≤ b)
    (h58 : t ≠ [58]) (hnm : (nameOK t && !keptB t) = false) (ha : ∀ v, Lib.atoiAll t ≠ .ok v) {x : Vl} (hp : parseI (st t) = some [x]) (hq : ¬ bt (st t) 0 = 34) :
    Calls Tryz.prog 118 #[.pointer (some ⟨b, 0, none⟩)] w (PanB w b wrongC) := by
  have hne : w.heap.size ≠ b := by omega
  have hb1 := H.hb
  have r0 := H.c 0
  have r1 := H.c 1
  have r2 := H.c 2
  have r3 := H.c 3
  have r4 := H.c 4
  have rf := H.f
  have rl := H.rl
  have hsz : (st t).size ≤ 1000 := by have := H.sz; omega
  have hmm : m ≤ s.size := by have := H.sz; omega
  have hss : m + (st t).size ≤ s.size := H.sz
  have HW1 := Lib.hid (H.h hne)
  have HH := Lib.hid H
  clear H
  have HN := name_ret (st t)
  rw [st_list] at HN
  have HN := Lib.hid (fun w => HN w (by omega))
  have HK := Lib.hid (kept_ret (st t))
  rw [show hasS kwords (st t) = keptB t from rfl] at HK
  have e58 : ((st t).toList == [58]) = false := by
    rw [st_list']
    simpa using h58
  have hg := Lib.hid hg'
  have HG := Lib.hid (fun (y : World) (o : Obj) => ((hg'.kp HH.out.hk).xt y).sb hb8 o)
  clear h58 hg'
  have HA := Lib.hid (fun W hG => atoi_err (st t) W (by omega) hG (by rw [st_list]; exact ha))
  clear ha
  have hp0 : 0 < (st t).size := parse_pos hp
  have q34 : ((((st t)[0]'hp0).toNat : Int) == 34) = false := by rw [bt_of hp0]; simpa using hq
  cases h1 : nameOK t
  · rw [h1] at HN
    clear hnm
    go_enter Tryz.func118, Tryz.ntmps118
    go_wp2_with (first | (go_at_call 119; rw [HH.out.hy]; refine Calls_retBS hb1 HH.out.word ?_; intro y1) | (go_at_call 65; refine Calls_retS (F := fun _ => True) (fun _ _ => trivial) hb1 trivial (HN.out _) ?_; intro y2 _) | (go_at_call 155; refine (HA.out _ (HG.out _ _)).mono ?_; rintro e w' ⟨z, N, rfl, hk5⟩; obtain ⟨y4, rfl, _⟩ := sb_kp (F := fun _ => True) (fun _ _ => trivial) hb1 trivial hk5; clear hk5; unfold errN) | (go_at_call 157; refine parse_arm_ok HH.out hb hsz hg.out hb8 hp ?_; intro Y v hF hr hrow; obtain ⟨bb, oo, c, rfl, hbb, q0, q1, q2⟩ := row_one hrow; have u0 := Lib.cell_of_heap hr; have uf := Lib.frozen_of_heap hr; have ul : w.heap.size < Y.heap.size := ((Array.getElem?_eq_some_iff.1 hr).1)))
    exact ⟨rfl, hF.pan⟩
  · cases h2 : keptB t
    · rw [h1, h2] at hnm; cases hnm
    · rw [h1] at HN
      rw [h2] at HK
      clear hnm
      go_enter Tryz.func118, Tryz.ntmps118
      go_wp2_with (first | (go_at_call 119; rw [HH.out.hy]; refine Calls_retBS hb1 HH.out.word ?_; intro y1) | (go_at_call 65; refine Calls_retS (F := fun _ => True) (fun _ _ => trivial) hb1 trivial (HN.out _) ?_; intro y2 _) | (go_at_call 66; refine Calls_retS (F := fun _ => True) (fun _ _ => trivial) hb1 trivial (HK.out _) ?_; intro y3 _) | (go_at_call 155; refine (HA.out _ (HG.out _ _)).mono ?_; rintro e w' ⟨z, N, rfl, hk5⟩; obtain ⟨y4, rfl, _⟩ := sb_kp (F := fun _ => True) (fun _ _ => trivial) hb1 trivial hk5; clear hk5; unfold errN) | (go_at_call 157; refine parse_arm_ok HH.out hb hsz hg.out hb8 hp ?_; intro Y v hF hr hrow; obtain ⟨bb, oo, c, rfl, hbb, q0, q1, q2⟩ := row_one hrow; have u0 := Lib.cell_of_heap hr; have uf := Lib.frozen_of_heap hr; have ul : w.heap.size < Y.heap.size := ((Array.getElem?_eq_some_iff.1 hr).1)))
      exact ⟨rfl, hF.pan⟩
set_option maxHeartbeats 2000000 in
set_option maxRecDepth 100000 in
theorem tl_err_yes (b : Nat) (s : ByteArray) (n : Nat) (d : Int) (w : World) (hb : b < w.heap.size) (hs : s.size ≤ 1000) (t : Bs) (T : List Bs) (W1 y : World) (m : Nat) (H : TP w b s n d t T W1 y m) (hg' : Glob w) (hb8 : 8 ≤ b)
    (h58 : t ≠ [58]) (hnm : (nameOK t && !keptB t) = false) (ha : ∀ v, Lib.atoiAll t ≠ .ok v) {x : Vl} (hp : parseI (st t) = some [x]) (hq : bt (st t) 0 = 34) :
    Calls Tryz.prog 118 #[.pointer (some ⟨b, 0, none⟩)] w (RetT w b s T d (tv (.vl x))) := by
  have hne : w.heap.size ≠ b := by omega
  have hb1 := H.hb
  have r0 := H.c 0
  have r1 := H.c 1
  have r2 := H.c 2
  have r3 := H.c 3
  have r4 := H.c 4
  have rf := H.f
  have rl := H.rl
  have hsz : (st t).size ≤ 1000 := by have := H.sz; omega
  have hmm : m ≤ s.size := by have := H.sz; omega
  have hss : m + (st t).size ≤ s.size := H.sz
  have HW1 := Lib.hid (H.h hne)
  have HH := Lib.hid H
  clear H
  have HN := name_ret (st t)
  rw [st_list] at HN
  have HN := Lib.hid (fun w => HN w (by omega))
  have HK := Lib.hid (kept_ret (st t))
  rw [show hasS kwords (st t) = keptB t from rfl] at HK
  have e58 : ((st t).toList == [58]) = false := by
    rw [st_list']
    simpa using h58
  have hg := Lib.hid hg'
  have HG := Lib.hid (fun (y : World) (o : Obj) => ((hg'.kp HH.out.hk).xt y).sb hb8 o)
  clear h58 hg'
  have HA := Lib.hid (fun W hG => atoi_err (st t) W (by omega) hG (by rw [st_list]; exact ha))
  clear ha
  have hp0 : 0 < (st t).size := parse_pos hp
  have q34 : ((((st t)[0]'hp0).toNat : Int) == 34) = true := by rw [bt_of hp0]; simpa using hq
  cases h1 : nameOK t
  · rw [h1] at HN
    clear hnm
    go_enter Tryz.func118, Tryz.ntmps118
    go_wp2_with (first | (go_at_call 119; rw [HH.out.hy]; refine Calls_retBS hb1 HH.out.word ?_; intro y1) | (go_at_call 65; refine Calls_retS (F := fun _ => True) (fun _ _ => trivial) hb1 trivial (HN.out _) ?_; intro y2 _) | (go_at_call 155; refine (HA.out _ (HG.out _ _)).mono ?_; rintro e w' ⟨z, N, rfl, hk5⟩; obtain ⟨y4, rfl, _⟩ := sb_kp (F := fun _ => True) (fun _ _ => trivial) hb1 trivial hk5; clear hk5; unfold errN) | (go_at_call 157; refine parse_arm_ok HH.out hb hsz hg.out hb8 hp ?_; intro Y v hF hr hrow; obtain ⟨bb, oo, c, rfl, hbb, q0, q1, q2⟩ := row_one hrow; have u0 := Lib.cell_of_heap hr; have uf := Lib.frozen_of_heap hr; have ul : w.heap.size < Y.heap.size := ((Array.getElem?_eq_some_iff.1 hr).1)))
    rw [store5 hr]
    refine bodyPost_ret (v := tv (.vl x)) (by simp [results, Tryz.results118, go_sem, tv, ul]) rfl ?_
    exact hF.retT hb (Nat.le_refl _) rfl HH.out.sz HH.out.tl (rd_eq' (by simp))
  · cases h2 : keptB t
    · rw [h1, h2] at hnm; cases hnm
    · rw [h1] at HN
      rw [h2] at HK
      clear hnm
      go_enter Tryz.func118, Tryz.ntmps118
      go_wp2_with (first | (go_at_call 119; rw [HH.out.hy]; refine Calls_retBS hb1 HH.out.word ?_; intro y1) | (go_at_call 65; refine Calls_retS (F := fun _ => True) (fun _ _ => trivial) hb1 trivial (HN.out _) ?_; intro y2 _) | (go_at_call 66; refine Calls_retS (F := fun _ => True) (fun _ _ => trivial) hb1 trivial (HK.out _) ?_; intro y3 _) | (go_at_call 155; refine (HA.out _ (HG.out _ _)).mono ?_; rintro e w' ⟨z, N, rfl, hk5⟩; obtain ⟨y4, rfl, _⟩ := sb_kp (F := fun _ => True) (fun _ _ => trivial) hb1 trivial hk5; clear hk5; unfold errN) | (go_at_call 157; refine parse_arm_ok HH.out hb hsz hg.out hb8 hp ?_; intro Y v hF hr hrow; obtain ⟨bb, oo, c, rfl, hbb, q0, q1, q2⟩ := row_one hrow; have u0 := Lib.cell_of_heap hr; have uf := Lib.frozen_of_heap hr; have ul : w.heap.size < Y.heap.size := ((Array.getElem?_eq_some_iff.1 hr).1)))
      rw [store5 hr]
      refine bodyPost_ret (v := tv (.vl x)) (by simp [results, Tryz.results118, go_sem, tv, ul]) rfl ?_
      exact hF.retT hb (Nat.le_refl _) rfl HH.out.sz HH.out.tl (rd_eq' (by simp))
set_option maxHeartbeats 2000000 in
set_option maxRecDepth 100000 in
theorem tl_ne_none (b : Nat) (s : ByteArray) (n : Nat) (d : Int) (w : World) (hb : b < w.heap.size) (hs : s.size ≤ 1000) (t : Bs) (T : List Bs) (W1 y : World) (m : Nat) (H : TP w b s n d t T W1 y m) (hg' : Glob w) (hb8 : 8 ≤ b)
    (h58 : t ≠ [58]) (hnm : (nameOK t && !keptB t) = false) {z : Int} (ha : Lib.atoiAll t = .ok z) (hz : ((itoaS z).toList == t) = false) (hp : parseI (st t) = none) :
    Calls Tryz.prog 118 #[.pointer (some ⟨b, 0, none⟩)] w (PanB w b wrongC) := by
  have hne : w.heap.size ≠ b := by omega
  have hb1 := H.hb
  have r0 := H.c 0
  have r1 := H.c 1
  have r2 := H.c 2
  have r3 := H.c 3
  have r4 := H.c 4
  have rf := H.f
  have rl := H.rl
  have hsz : (st t).size ≤ 1000 := by have := H.sz; omega
  have hmm : m ≤ s.size := by have := H.sz; omega
  have hss : m + (st t).size ≤ s.size := H.sz
  have HW1 := Lib.hid (H.h hne)
  have HH := Lib.hid H
  clear H
  have HN := name_ret (st t)
  rw [st_list] at HN
  have HN := Lib.hid (fun w => HN w (by omega))
  have HK := Lib.hid (kept_ret (st t))
  rw [show hasS kwords (st t) = keptB t from rfl] at HK
  have e58 : ((st t).toList == [58]) = false := by
    rw [st_list']
    simpa using h58
  have hg := Lib.hid hg'
  have HG := Lib.hid (fun (y : World) (o : Obj) => ((hg'.kp HH.out.hk).xt y).sb hb8 o)
  clear h58 hg'
  have hbd := Lib.atoiAll_bounds ha
  have HA := Lib.hid (fun W => atoi_ok (st t) z W (by omega) (by rw [st_list]; exact ha))
  have HI := Lib.hid (fun W hG => itoa_ret z W hbd.1 hbd.2 hG)
  have hz' : ((itoaS z).toList == (st t).toList) = false := by rw [st_list']; exact hz
  clear ha hz hbd
  cases h1 : nameOK t
  · rw [h1] at HN
    clear hnm
    go_enter Tryz.func118, Tryz.ntmps118
    go_wp2_with (first | (go_at_call 119; rw [HH.out.hy]; refine Calls_retBS hb1 HH.out.word ?_; intro y1) | (go_at_call 65; refine Calls_retS (F := fun _ => True) (fun _ _ => trivial) hb1 trivial (HN.out _) ?_; intro y2 _) | (go_at_call 155; refine Calls_retS (F := fun _ => True) (fun _ _ => trivial) hb1 trivial (HA.out _) ?_; intro y4 _) | (go_at_call 156; refine Calls_retS (F := fun _ => True) (fun _ _ => trivial) hb1 trivial (HI.out _ (HG.out _ _)) ?_; intro y5 _) | (go_at_call 157; refine parse_arm_bad HH.out hb hsz hg.out hb8 hp ?_; intro Y hF))
    exact ⟨rfl, hF.pan⟩
  · cases h2 : keptB t
    · rw [h1, h2] at hnm; cases hnm
    · rw [h1] at HN
      rw [h2] at HK
      clear hnm
      go_enter Tryz.func118, Tryz.ntmps118
      go_wp2_with (first | (go_at_call 119; rw [HH.out.hy]; refine Calls_retBS hb1 HH.out.word ?_; intro y1) | (go_at_call 65; refine Calls_retS (F := fun _ => True) (fun _ _ => trivial) hb1 trivial (HN.out _) ?_; intro y2 _) | (go_at_call 66; refine Calls_retS (F := fun _ => True) (fun _ _ => trivial) hb1 trivial (HK.out _) ?_; intro y3 _) | (go_at_call 155; refine Calls_retS (F := fun _ => True) (fun _ _ => trivial) hb1 trivial (HA.out _) ?_; intro y4 _) | (go_at_call 156; refine Calls_retS (F := fun _ => True) (fun _ _ => trivial) hb1 trivial (HI.out _ (HG.out _ _)) ?_; intro y5 _) | (go_at_call 157; refine parse_arm_bad HH.out hb hsz hg.out hb8 hp ?_; intro Y hF))
      exact ⟨rfl, hF.pan⟩
set_option maxHeartbeats 2000000 in
set_option maxRecDepth 100000 in
theorem tl_ne_len (b : Nat) (s : ByteArray) (n : Nat) (d : Int) (w : World) (hb : b < w.heap.size) (hs : s.size ≤ 1000) (t : Bs) (T : List Bs) (W1 y : World) (m : Nat) (H : TP w b s n d t T W1 y m) (hg' : Glob w) (hb8 : 8 ≤ b)
    (h58 : t ≠ [58]) (hnm : (nameOK t && !keptB t) = false) {z : Int} (ha : Lib.atoiAll t = .ok z) (hz : ((itoaS z).toList == t) = false) {l : List Vl} (hp : parseI (st t) = some l) (hlen : l.length ≠ 1) :
    Calls Tryz.prog 118 #[.pointer (some ⟨b, 0, none⟩)] w (PanB w b wrongC) := by
  have hne : w.heap.size ≠ b := by omega
  have hb1 := H.hb
  have r0 := H.c 0
  have r1 := H.c 1
  have r2 := H.c 2
  have r3 := H.c 3
  have r4 := H.c 4
  have rf := H.f
  have rl := H.rl
  have hsz : (st t).size ≤ 1000 := by have := H.sz; omega
  have hmm : m ≤ s.size := by have := H.sz; omega
  have hss : m + (st t).size ≤ s.size := H.sz
  have HW1 := Lib.hid (H.h hne)
  have HH := Lib.hid H
  clear H
  have HN := name_ret (st t)
  rw [st_list] at HN
  have HN := Lib.hid (fun w => HN w (by omega))
  have HK := Lib.hid (kept_ret (st t))
  rw [show hasS kwords (st t) = keptB t from rfl] at HK
  have e58 : ((st t).toList == [58]) = false := by
    rw [st_list']
    simpa using h58
  have hg := Lib.hid hg'
  have HG := Lib.hid (fun (y : World) (o : Obj) => ((hg'.kp HH.out.hk).xt y).sb hb8 o)
  clear h58 hg'
  have hbd := Lib.atoiAll_bounds ha
  have HA := Lib.hid (fun W => atoi_ok (st t) z W (by omega) (by rw [st_list]; exact ha))
  have HI := Lib.hid (fun W hG => itoa_ret z W hbd.1 hbd.2 hG)
  have hz' : ((itoaS z).toList == (st t).toList) = false := by rw [st_list']; exact hz
  clear ha hz hbd
  have hl1 : ((l.length : Int) == 1) = false := by simp; omega
  cases h1 : nameOK t
  · rw [h1] at HN
    clear hnm
    go_enter Tryz.func118, Tryz.ntmps118
    go_wp2_with (first | (go_at_call 119; rw [HH.out.hy]; refine Calls_retBS hb1 HH.out.word ?_; intro y1) | (go_at_call 65; refine Calls_retS (F := fun _ => True) (fun _ _ => trivial) hb1 trivial (HN.out _) ?_; intro y2 _) | (go_at_call 155; refine Calls_retS (F := fun _ => True) (fun _ _ => trivial) hb1 trivial (HA.out _) ?_; intro y4 _) | (go_at_call 156; refine Calls_retS (F := fun _ => True) (fun _ _ => trivial) hb1 trivial (HI.out _ (HG.out _ _)) ?_; intro y5 _) | (go_at_call 157; refine parse_arm_ok HH.out hb hsz hg.out hb8 hp ?_; intro Y v hF hr hrow; obtain ⟨hlm, a, c, rfl, _⟩ := hrow))
    exact ⟨rfl, hF.pan⟩
  · cases h2 : keptB t
    · rw [h1, h2] at hnm; cases hnm
    · rw [h1] at HN
      rw [h2] at HK
      clear hnm
      go_enter Tryz.func118, Tryz.ntmps118
      go_wp2_with (first | (go_at_call 119; rw [HH.out.hy]; refine Calls_retBS hb1 HH.out.word ?_; intro y1) | (go_at_call 65; refine Calls_retS (F := fun _ => True) (fun _ _ => trivial) hb1 trivial (HN.out _) ?_; intro y2 _) | (go_at_call 66; refine Calls_retS (F := fun _ => True) (fun _ _ => trivial) hb1 trivial (HK.out _) ?_; intro y3 _) | (go_at_call 155; refine Calls_retS (F := fun _ => True) (fun _ _ => trivial) hb1 trivial (HA.out _) ?_; intro y4 _) | (go_at_call 156; refine Calls_retS (F := fun _ => True) (fun _ _ => trivial) hb1 trivial (HI.out _ (HG.out _ _)) ?_; intro y5 _) | (go_at_call 157; refine parse_arm_ok HH.out hb hsz hg.out hb8 hp ?_; intro Y v hF hr hrow; obtain ⟨hlm, a, c, rfl, _⟩ := hrow))
      exact ⟨rfl, hF.pan⟩
set_option maxHeartbeats 2000000 in
set_option maxRecDepth 100000 in
theorem tl_ne_no (b : Nat) (s : ByteArray) (n : Nat) (d : Int) (w : World) (hb : b < w.heap.size) (hs : s.size ≤ 1000) (t : Bs) (T : List Bs) (W1 y : World) (m : Nat) (H : TP w b s n d t T W1 y m) (hg' : Glob w) (hb8 : 8 ≤ b)
    (h58 : t ≠ [58]) (hnm : (nameOK t && !keptB t) = false) {z : Int} (ha : Lib.atoiAll t = .ok z) (hz : ((itoaS z).toList == t) = false) {x : Vl} (hp : parseI (st t) = some [x]) (hq : ¬ bt (st t) 0 = 34) :
    Calls Tryz.prog 118 #[.pointer (some ⟨b, 0, none⟩)] w (PanB w b wrongC) := by
  have hne : w.heap.size ≠ b := by omega
  have hb1 := H.hb
  have r0 := H.c 0
  have r1 := H.c 1
  have r2 := H.c 2
  have r3 := H.c 3
  have r4 := H.c 4
  have rf := H.f
  have rl := H.rl
  have hsz : (st t).size ≤ 1000 := by have := H.sz; omega
  have hmm : m ≤ s.size := by have := H.sz; omega
  have hss : m + (st t).size ≤ s.size := H.sz
  have HW1 := Lib.hid (H.h hne)
  have HH := Lib.hid H
  clear H
  have HN := name_ret (st t)
  rw [st_list] at HN
  have HN := Lib.hid (fun w => HN w (by omega))
  have HK := Lib.hid (kept_ret (st t))
  rw [show hasS kwords (st t) = keptB t from rfl] at HK
  have e58 : ((st t).toList == [58]) = false := by
    rw [st_list']
    simpa using h58
  have hg := Lib.hid hg'
  have HG := Lib.hid (fun (y : World) (o : Obj) => ((hg'.kp HH.out.hk).xt y).sb hb8 o)
  clear h58 hg'
  have hbd := Lib.atoiAll_bounds ha
  have HA := Lib.hid (fun W => atoi_ok (st t) z W (by omega) (by rw [st_list]; exact ha))
  have HI := Lib.hid (fun W hG => itoa_ret z W hbd.1 hbd.2 hG)
  have hz' : ((itoaS z).toList == (st t).toList) = false := by rw [st_list']; exact hz
  clear ha hz hbd
  have hp0 : 0 < (st t).size := parse_pos hp
  have q34 : ((((st t)[0]'hp0).toNat : Int) == 34) = false := by rw [bt_of hp0]; simpa using hq
  cases h1 : nameOK t
  · rw [h1] at HN
    clear hnm
    go_enter Tryz.func118, Tryz.ntmps118
    go_wp2_with (first | (go_at_call 119; rw [HH.out.hy]; refine Calls_retBS hb1 HH.out.word ?_; intro y1) | (go_at_call 65; refine Calls_retS (F := fun _ => True) (fun _ _ => trivial) hb1 trivial (HN.out _) ?_; intro y2 _) | (go_at_call 155; refine Calls_retS (F := fun _ => True) (fun _ _ => trivial) hb1 trivial (HA.out _) ?_; intro y4 _) | (go_at_call 156; refine Calls_retS (F := fun _ => True) (fun _ _ => trivial) hb1 trivial (HI.out _ (HG.out _ _)) ?_; intro y5 _) | (go_at_call 157; refine parse_arm_ok HH.out hb hsz hg.out hb8 hp ?_; intro Y v hF hr hrow; obtain ⟨bb, oo, c, rfl, hbb, q0, q1, q2⟩ := row_one hrow; have u0 := Lib.cell_of_heap hr; have uf := Lib.frozen_of_heap hr; have ul : w.heap.size < Y.heap.size := ((Array.getElem?_eq_some_iff.1 hr).1)))
    exact ⟨rfl, hF.pan⟩
  · cases h2 : keptB t
    · rw [h1, h2] at hnm; cases hnm
    · rw [h1] at HN
      rw [h2] at HK
      clear hnm
      go_enter Tryz.func118, Tryz.ntmps118
      go_wp2_with (first | (go_at_call 119; rw [HH.out.hy]; refine Calls_retBS hb1 HH.out.word ?_; intro y1) | (go_at_call 65; refine Calls_retS (F := fun _ => True) (fun _ _ => trivial) hb1 trivial (HN.out _) ?_; intro y2 _) | (go_at_call 66; refine Calls_retS (F := fun _ => True) (fun _ _ => trivial) hb1 trivial (HK.out _) ?_; intro y3 _) | (go_at_call 155; refine Calls_retS (F := fun _ => True) (fun _ _ => trivial) hb1 trivial (HA.out _) ?_; intro y4 _) | (go_at_call 156; refine Calls_retS (F := fun _ => True) (fun _ _ => trivial) hb1 trivial (HI.out _ (HG.out _ _)) ?_; intro y5 _) | (go_at_call 157; refine parse_arm_ok HH.out hb hsz hg.out hb8 hp ?_; intro Y v hF hr hrow; obtain ⟨bb, oo, c, rfl, hbb, q0, q1, q2⟩ := row_one hrow; have u0 := Lib.cell_of_heap hr; have uf := Lib.frozen_of_heap hr; have ul : w.heap.size < Y.heap.size := ((Array.getElem?_eq_some_iff.1 hr).1)))
      exact ⟨rfl, hF.pan⟩
set_option maxHeartbeats 2000000 in
set_option maxRecDepth 100000 in
theorem tl_ne_yes (b : Nat) (s : ByteArray) (n : Nat) (d : Int) (w : World) (hb : b < w.heap.size) (hs : s.size ≤ 1000) (t : Bs) (T : List Bs) (W1 y : World) (m : Nat) (H : TP w b s n d t T W1 y m) (hg' : Glob w) (hb8 : 8 ≤ b)
    (h58 : t ≠ [58]) (hnm : (nameOK t && !keptB t) = false) {z : Int} (ha : Lib.atoiAll t = .ok z) (hz : ((itoaS z).toList == t) = false) {x : Vl} (hp : parseI (st t) = some [x]) (hq : bt (st t) 0 = 34) :
    Calls Tryz.prog 118 #[.pointer (some ⟨b, 0, none⟩)] w (RetT w b s T d (tv (.vl x))) := by
  have hne : w.heap.size ≠ b := by omega
  have hb1 := H.hb
  have r0 := H.c 0
  have r1 := H.c 1
  have r2 := H.c 2
  have r3 := H.c 3
  have r4 := H.c 4
  have rf := H.f
  have rl := H.rl
  have hsz : (st t).size ≤ 1000 := by have := H.sz; omega
  have hmm : m ≤ s.size := by have := H.sz; omega
  have hss : m + (st t).size ≤ s.size := H.sz
  have HW1 := Lib.hid (H.h hne)
  have HH := Lib.hid H
  clear H
  have HN := name_ret (st t)
  rw [st_list] at HN
  have HN := Lib.hid (fun w => HN w (by omega))
  have HK := Lib.hid (kept_ret (st t))
  rw [show hasS kwords (st t) = keptB t from rfl] at HK
  have e58 : ((st t).toList == [58]) = false := by
    rw [st_list']
    simpa using h58
  have hg := Lib.hid hg'
  have HG := Lib.hid (fun (y : World) (o : Obj) => ((hg'.kp HH.out.hk).xt y).sb hb8 o)
  clear h58 hg'
  have hbd := Lib.atoiAll_bounds ha
  have HA := Lib.hid (fun W => atoi_ok (st t) z W (by omega) (by rw [st_list]; exact ha))
  have HI := Lib.hid (fun W hG => itoa_ret z W hbd.1 hbd.2 hG)
  have hz' : ((itoaS z).toList == (st t).toList) = false := by rw [st_list']; exact hz
  clear ha hz hbd
  have hp0 : 0 < (st t).size := parse_pos hp
  have q34 : ((((st t)[0]'hp0).toNat : Int) == 34) = true := by rw [bt_of hp0]; simpa using hq
  cases h1 : nameOK t
  · rw [h1] at HN
    clear hnm
    go_enter Tryz.func118, Tryz.ntmps118
    go_wp2_with (first | (go_at_call 119; rw [HH.out.hy]; refine Calls_retBS hb1 HH.out.word ?_; intro y1) | (go_at_call 65; refine Calls_retS (F := fun _ => True) (fun _ _ => trivial) hb1 trivial (HN.out _) ?_; intro y2 _) | (go_at_call 155; refine Calls_retS (F := fun _ => True) (fun _ _ => trivial) hb1 trivial (HA.out _) ?_; intro y4 _) | (go_at_call 156; refine Calls_retS (F := fun _ => True) (fun _ _ => trivial) hb1 trivial (HI.out _ (HG.out _ _)) ?_; intro y5 _) | (go_at_call 157; refine parse_arm_ok HH.out hb hsz hg.out hb8 hp ?_; intro Y v hF hr hrow; obtain ⟨bb, oo, c, rfl, hbb, q0, q1, q2⟩ := row_one hrow; have u0 := Lib.cell_of_heap hr; have uf := Lib.frozen_of_heap hr; have ul : w.heap.size < Y.heap.size := ((Array.getElem?_eq_some_iff.1 hr).1)))
    rw [store5 hr]
    refine bodyPost_ret (v := tv (.vl x)) (by simp [results, Tryz.results118, go_sem, tv, ul]) rfl ?_
    exact hF.retT hb (Nat.le_refl _) rfl HH.out.sz HH.out.tl (rd_eq' (by simp))
  · cases h2 : keptB t
    · rw [h1, h2] at hnm; cases hnm
    · rw [h1] at HN
      rw [h2] at HK
      clear hnm
      go_enter Tryz.func118, Tryz.ntmps118
      go_wp2_with (first | (go_at_call 119; rw [HH.out.hy]; refine Calls_retBS hb1 HH.out.word ?_; intro y1) | (go_at_call 65; refine Calls_retS (F := fun _ => True) (fun _ _ => trivial) hb1 trivial (HN.out _) ?_; intro y2 _) | (go_at_call 66; refine Calls_retS (F := fun _ => True) (fun _ _ => trivial) hb1 trivial (HK.out _) ?_; intro y3 _) | (go_at_call 155; refine Calls_retS (F := fun _ => True) (fun _ _ => trivial) hb1 trivial (HA.out _) ?_; intro y4 _) | (go_at_call 156; refine Calls_retS (F := fun _ => True) (fun _ _ => trivial) hb1 trivial (HI.out _ (HG.out _ _)) ?_; intro y5 _) | (go_at_call 157; refine parse_arm_ok HH.out hb hsz hg.out hb8 hp ?_; intro Y v hF hr hrow; obtain ⟨bb, oo, c, rfl, hbb, q0, q1, q2⟩ := row_one hrow; have u0 := Lib.cell_of_heap hr; have uf := Lib.frozen_of_heap hr; have ul : w.heap.size < Y.heap.size := ((Array.getElem?_eq_some_iff.1 hr).1)))
      rw [store5 hr]
      refine bodyPost_ret (v := tv (.vl x)) (by simp [results, Tryz.results118, go_sem, tv, ul]) rfl ?_
      exact hF.retT hb (Nat.le_refl _) rfl HH.out.sz HH.out.tl (rd_eq' (by simp))
end Go.Proofs.YtpmheafccfnfjaaGreatDoor
namespace Go.Proofs.YtpmheafccfnfjaaGreatDoor
open Go Go.RowKit
section
variable {w : World} {b : Nat} {s : ByteArray} {n : Nat} {d : Int} {t : Bs} {T : List Bs} {W1 y : World} {m : Nat} {x : World} {ob : Obj} {R : Ending → World → Prop}
abbrev tcells : Array Value := #[.string ⟨#[]⟩, .bool false, .int .i64 0, .int .i64 0, .string ⟨#[]⟩]
theorem Fin.kp (h : Fin w b ob x) {X : World} (hk : Kp x X) : Fin w b ob X := ⟨h.1.trans (.of_kp hk), (hk.block _ (Array.getElem?_eq_some_iff.1 h.2).1).trans h.2⟩
/-- The value laid in a new block, and asked whether it is valid. -/
theorem val_arm (h : TP w b s n d t T W1 y m) (hb : b < w.heap.size) (hg : Glob w) (hb8 : 8 ≤ b) {z : Int}
    (k : ∀ Y, Fin w b ob Y → Y.heap[w.heap.size]? = some (.cells tcells 93 (0, 0)) → Y.heap[(xt W1 x).heap.size]? = some (.cells #[.int .i64 1, .int .i64 z, .string ⟨#[]⟩] 53 (0, 0)) → Glob Y → R (.returned (.bool (validV 1 z ⟨#[]⟩))) Y) :
    Calls Tryz.prog 83 #[.agg #[.int .i64 1, .int .i64 z, .string ⟨#[]⟩]] ((sb (xt W1 x) b ob).alloc (.cells #[.int .i64 1, .int .i64 z, .string ⟨#[]⟩] 53)) R :=
  (valid_ret 1 z ⟨#[]⟩ _).mono fun e w' ⟨he, hk⟩ => by
    subst he
    have hF := h.fin hb ((Kp.refl (sb (xt W1 x) b ob)).alloc (.cells #[.int .i64 1, .int .i64 z, .string ⟨#[]⟩] 53))
    have hn := World.alloc_heap_new (sb (xt W1 x) b ob) (.cells #[.int .i64 1, .int .i64 z, .string ⟨#[]⟩] 53)
    rw [size_sb] at hn
    exact k w' (hF.1.kp hk) ((hk.block _ (Array.getElem?_eq_some_iff.1 hF.2).1).trans hF.2) ((hk.block _ (Array.getElem?_eq_some_iff.1 hn).1).trans hn) ((((hg.kp h.hk).xt x).sb hb8 ob).alloc _ |>.kp hk)
theorem parse_arm2_ok {Y : World} (hF : Fin w b ob Y) (hr : Y.heap[w.heap.size]? = some (.cells tcells 93 (0, 0))) (hsz : (st t).size ≤ 1000) (hg : Glob Y) {l : List Vl} (hp : parseI (st t) = some l)
    (k : ∀ Y v, Fin w b ob Y → Y.heap[w.heap.size]? = some (.cells tcells 93 (0, 0)) → RowIs Y v l → R (.returned (.tuple #[v, .int .i64 0])) Y) :
    Calls Tryz.prog 157 #[.string (st t)] Y R :=
  (parse_ok (st t) _ (by omega) hg hp).mono fun e w' ⟨v, he, hk, hrow⟩ => by
    subst he
    exact k w' v (hF.kp hk) ((hk.block _ (Array.getElem?_eq_some_iff.1 hr).1).trans hr) hrow
theorem parse_arm2_bad {Y : World} (hF : Fin w b ob Y) (hsz : (st t).size ≤ 1000) (hg : Glob Y) (hp : parseI (st t) = none)
    (k : ∀ Y, Fin w b ob Y → R (.returned (.tuple #[.slice none 0 0, .int .i64 2])) Y) :
    Calls Tryz.prog 157 #[.string (st t)] Y R :=
  (parse_bad (st t) _ (by omega) hg hp).mono fun e w' ⟨he, hk⟩ => by
    subst he
    exact k w' (hF.kp hk)
end
set_option maxHeartbeats 2000000 in
set_option maxRecDepth 100000 in
theorem tl_inv_none (b : Nat) (s : ByteArray) (n : Nat) (d : Int) (w : World) (hb : b < w.heap.size) (hs : s.size ≤ 1000) (t : Bs) (T : List Bs) (W1 y : World) (m : Nat) (H : TP w b s n d t T W1 y m) (hg' : Glob w) (hb8 : 8 ≤ b)
    (h58 : t ≠ [58]) (hnm : (nameOK t && !keptB t) = false) {z : Int} (ha : Lib.atoiAll t = .ok z) (hz : ((itoaS z).toList == t) = true) (hval : validV 1 z ⟨#[]⟩ = false) (hp : parseI (st t) = none) :
    Calls Tryz.prog 118 #[.pointer (some ⟨b, 0, none⟩)] w (PanB w b wrongC) := by
  have hne : w.heap.size ≠ b := by omega
  have hb1 := H.hb
  have r0 := H.c 0
  have r1 := H.c 1
  have r2 := H.c 2
  have r3 := H.c 3
  have r4 := H.c 4
  have rf := H.f
  have rl := H.rl
  have hsz : (st t).size ≤ 1000 := by have := H.sz; omega
  have hmm : m ≤ s.size := by have := H.sz; omega
  have hss : m + (st t).size ≤ s.size := H.sz
  have HW1 := Lib.hid (H.h hne)
  have HH := Lib.hid H
  clear H
  have HN := name_ret (st t)
  rw [st_list] at HN
  have HN := Lib.hid (fun w => HN w (by omega))
  have HK := Lib.hid (kept_ret (st t))
  rw [show hasS kwords (st t) = keptB t from rfl] at HK
  have e58 : ((st t).toList == [58]) = false := by
    rw [st_list']
    simpa using h58
  have hg := Lib.hid hg'
  have HG := Lib.hid (fun (y : World) (o : Obj) => ((hg'.kp HH.out.hk).xt y).sb hb8 o)
  clear h58 hg'
  have hbd := Lib.atoiAll_bounds ha
  have HA := Lib.hid (fun W => atoi_ok (st t) z W (by omega) (by rw [st_list]; exact ha))
  have HI := Lib.hid (fun W hG => itoa_ret z W hbd.1 hbd.2 hG)
  have hz' : ((itoaS z).toList == (st t).toList) = true := by rw [st_list']; exact hz
  clear ha hz hbd
  cases h1 : nameOK t
  · rw [h1] at HN
    clear hnm
    go_enter Tryz.func118, Tryz.ntmps118
    go_wp2_with (first | (go_at_call 119; rw [HH.out.hy]; refine Calls_retBS hb1 HH.out.word ?_; intro y1) | (go_at_call 65; refine Calls_retS (F := fun _ => True) (fun _ _ => trivial) hb1 trivial (HN.out _) ?_; intro y2 _) | (go_at_call 155; refine Calls_retS (F := fun _ => True) (fun _ _ => trivial) hb1 trivial (HA.out _) ?_; intro y4 _) | (go_at_call 156; refine Calls_retS (F := fun _ => True) (fun _ _ => trivial) hb1 trivial (HI.out _ (HG.out _ _)) ?_; intro y5 _) | (go_at_call 83; refine val_arm HH.out hb hg.out hb8 ?_; intro Y1 hF1 hr1 hv1 hG1; rw [hval]; replace hG1 := Lib.hid hG1; have t0 := Lib.cell_of_heap hv1; have tl := ((Array.getElem?_eq_some_iff.1 hv1).1); have v0 := Lib.cell_of_heap hr1; have vf := Lib.frozen_of_heap hr1; have vl := ((Array.getElem?_eq_some_iff.1 hr1).1)) | (go_at_call 157; refine parse_arm2_bad hF1 hsz hG1.out hp ?_; clear hF1 hr1 hv1 hG1; intro Y hF))
    exact ⟨rfl, hF.pan⟩
  · cases h2 : keptB t
    · rw [h1, h2] at hnm; cases hnm
    · rw [h1] at HN
      rw [h2] at HK
      clear hnm
      go_enter Tryz.func118, Tryz.ntmps118
      go_wp2_with (first | (go_at_call 119; rw [HH.out.hy]; refine Calls_retBS hb1 HH.out.word ?_; intro y1) | (go_at_call 65; refine Calls_retS (F := fun _ => True) (fun _ _ => trivial) hb1 trivial (HN.out _) ?_; intro y2 _) | (go_at_call 66; refine Calls_retS (F := fun _ => True) (fun _ _ => trivial) hb1 trivial (HK.out _) ?_; intro y3 _) | (go_at_call 155; refine Calls_retS (F := fun _ => True) (fun _ _ => trivial) hb1 trivial (HA.out _) ?_; intro y4 _) | (go_at_call 156; refine Calls_retS (F := fun _ => True) (fun _ _ => trivial) hb1 trivial (HI.out _ (HG.out _ _)) ?_; intro y5 _) | (go_at_call 83; refine val_arm HH.out hb hg.out hb8 ?_; intro Y1 hF1 hr1 hv1 hG1; rw [hval]; replace hG1 := Lib.hid hG1; have t0 := Lib.cell_of_heap hv1; have tl := ((Array.getElem?_eq_some_iff.1 hv1).1); have v0 := Lib.cell_of_heap hr1; have vf := Lib.frozen_of_heap hr1; have vl := ((Array.getElem?_eq_some_iff.1 hr1).1)) | (go_at_call 157; refine parse_arm2_bad hF1 hsz hG1.out hp ?_; clear hF1 hr1 hv1 hG1; intro Y hF))
      exact ⟨rfl, hF.pan⟩
set_option maxHeartbeats 2000000 in
set_option maxRecDepth 100000 in
theorem tl_inv_len (b : Nat) (s : ByteArray) (n : Nat) (d : Int) (w : World) (hb : b < w.heap.size) (hs : s.size ≤ 1000) (t : Bs) (T : List Bs) (W1 y : World) (m : Nat) (H : TP w b s n d t T W1 y m) (hg' : Glob w) (hb8 : 8 ≤ b)
    (h58 : t ≠ [58]) (hnm : (nameOK t && !keptB t) = false) {z : Int} (ha : Lib.atoiAll t = .ok z) (hz : ((itoaS z).toList == t) = true) (hval : validV 1 z ⟨#[]⟩ = false) {l : List Vl} (hp : parseI (st t) = some l) (hlen : l.length ≠ 1) :
    Calls Tryz.prog 118 #[.pointer (some ⟨b, 0, none⟩)] w (PanB w b wrongC) := by
  have hne : w.heap.size ≠ b := by omega
  have hb1 := H.hb
  have r0 := H.c 0
  have r1 := H.c 1
  have r2 := H.c 2
  have r3 := H.c 3
  have r4 := H.c 4
  have rf := H.f
  have rl := H.rl
  have hsz : (st t).size ≤ 1000 := by have := H.sz; omega
  have hmm : m ≤ s.size := by have := H.sz; omega
  have hss : m + (st t).size ≤ s.size := H.sz
  have HW1 := Lib.hid (H.h hne)
  have HH := Lib.hid H
  clear H
  have HN := name_ret (st t)
  rw [st_list] at HN
  have HN := Lib.hid (fun w => HN w (by omega))
  have HK := Lib.hid (kept_ret (st t))
  rw [show hasS kwords (st t) = keptB t from rfl] at HK
  have e58 : ((st t).toList == [58]) = false := by
    rw [st_list']
    simpa using h58
  have hg := Lib.hid hg'
  have HG := Lib.hid (fun (y : World) (o : Obj) => ((hg'.kp HH.out.hk).xt y).sb hb8 o)
  clear h58 hg'
  have hbd := Lib.atoiAll_bounds ha
  have HA := Lib.hid (fun W => atoi_ok (st t) z W (by omega) (by rw [st_list]; exact ha))
  have HI := Lib.hid (fun W hG => itoa_ret z W hbd.1 hbd.2 hG)
  have hz' : ((itoaS z).toList == (st t).toList) = true := by rw [st_list']; exact hz
  clear ha hz hbd
  have hl1 : ((l.length : Int) == 1) = false := by simp; omega
  cases h1 : nameOK t
  · rw [h1] at HN
    clear hnm
    go_enter Tryz.func118, Tryz.ntmps118
    go_wp2_with (first | (go_at_call 119; rw [HH.out.hy]; refine Calls_retBS hb1 HH.out.word ?_; intro y1) | (go_at_call 65; refine Calls_retS (F := fun _ => True) (fun _ _ => trivial) hb1 trivial (HN.out _) ?_; intro y2 _) | (go_at_call 155; refine Calls_retS (F := fun _ => True) (fun _ _ => trivial) hb1 trivial (HA.out _) ?_; intro y4 _) | (go_at_call 156; refine Calls_retS (F := fun _ => True) (fun _ _ => trivial) hb1 trivial (HI.out _ (HG.out _ _)) ?_; intro y5 _) | (go_at_call 83; refine val_arm HH.out hb hg.out hb8 ?_; intro Y1 hF1 hr1 hv1 hG1; rw [hval]; replace hG1 := Lib.hid hG1; have t0 := Lib.cell_of_heap hv1; have tl := ((Array.getElem?_eq_some_iff.1 hv1).1); have v0 := Lib.cell_of_heap hr1; have vf := Lib.frozen_of_heap hr1; have vl := ((Array.getElem?_eq_some_iff.1 hr1).1)) | (go_at_call 157; refine parse_arm2_ok hF1 hr1 hsz hG1.out hp ?_; clear hF1 hr1 hv1 hG1; intro Y v hF hr hrow; obtain ⟨hlm, a, c, rfl, _⟩ := hrow))
    exact ⟨rfl, hF.pan⟩
  · cases h2 : keptB t
    · rw [h1, h2] at hnm; cases hnm
    · rw [h1] at HN
      rw [h2] at HK
      clear hnm
      go_enter Tryz.func118, Tryz.ntmps118
      go_wp2_with (first | (go_at_call 119; rw [HH.out.hy]; refine Calls_retBS hb1 HH.out.word ?_; intro y1) | (go_at_call 65; refine Calls_retS (F := fun _ => True) (fun _ _ => trivial) hb1 trivial (HN.out _) ?_; intro y2 _) | (go_at_call 66; refine Calls_retS (F := fun _ => True) (fun _ _ => trivial) hb1 trivial (HK.out _) ?_; intro y3 _) | (go_at_call 155; refine Calls_retS (F := fun _ => True) (fun _ _ => trivial) hb1 trivial (HA.out _) ?_; intro y4 _) | (go_at_call 156; refine Calls_retS (F := fun _ => True) (fun _ _ => trivial) hb1 trivial (HI.out _ (HG.out _ _)) ?_; intro y5 _) | (go_at_call 83; refine val_arm HH.out hb hg.out hb8 ?_; intro Y1 hF1 hr1 hv1 hG1; rw [hval]; replace hG1 := Lib.hid hG1; have t0 := Lib.cell_of_heap hv1; have tl := ((Array.getElem?_eq_some_iff.1 hv1).1); have v0 := Lib.cell_of_heap hr1; have vf := Lib.frozen_of_heap hr1; have vl := ((Array.getElem?_eq_some_iff.1 hr1).1)) | (go_at_call 157; refine parse_arm2_ok hF1 hr1 hsz hG1.out hp ?_; clear hF1 hr1 hv1 hG1; intro Y v hF hr hrow; obtain ⟨hlm, a, c, rfl, _⟩ := hrow))
      exact ⟨rfl, hF.pan⟩
set_option maxHeartbeats 2000000 in
set_option maxRecDepth 100000 in
theorem tl_inv_no (b : Nat) (s : ByteArray) (n : Nat) (d : Int) (w : World) (hb : b < w.heap.size) (hs : s.size ≤ 1000) (t : Bs) (T : List Bs) (W1 y : World) (m : Nat) (H : TP w b s n d t T W1 y m) (hg' : Glob w) (hb8 : 8 ≤ b)
    (h58 : t ≠ [58]) (hnm : (nameOK t && !keptB t) = false) {z : Int} (ha : Lib.atoiAll t = .ok z) (hz : ((itoaS z).toList == t) = true) (hval : validV 1 z ⟨#[]⟩ = false) {x : Vl} (hp : parseI (st t) = some [x]) (hq : ¬ bt (st t) 0 = 34) :
    Calls Tryz.prog 118 #[.pointer (some ⟨b, 0, none⟩)] w (PanB w b wrongC) := by
  have hne : w.heap.size ≠ b := by omega
  have hb1 := H.hb
  have r0 := H.c 0
  have r1 := H.c 1
  have r2 := H.c 2
  have r3 := H.c 3
  have r4 := H.c 4
  have rf := H.f
  have rl := H.rl
  have hsz : (st t).size ≤ 1000 := by have := H.sz; omega
  have hmm : m ≤ s.size := by have := H.sz; omega
  have hss : m + (st t).size ≤ s.size := H.sz
  have HW1 := Lib.hid (H.h hne)
  have HH := Lib.hid H
  clear H
  have HN := name_ret (st t)
  rw [st_list] at HN
  have HN := Lib.hid (fun w => HN w (by omega))
  have HK := Lib.hid (kept_ret (st t))
  rw [show hasS kwords (st t) = keptB t from rfl] at HK
  have e58 : ((st t).toList == [58]) = false := by
    rw [st_list']
    simpa using h58
  have hg := Lib.hid hg'
  have HG := Lib.hid (fun (y : World) (o : Obj) => ((hg'.kp HH.out.hk).xt y).sb hb8 o)
  clear h58 hg'
  have hbd := Lib.atoiAll_bounds ha
  have HA := Lib.hid (fun W => atoi_ok (st t) z W (by omega) (by rw [st_list]; exact ha))
  have HI := Lib.hid (fun W hG => itoa_ret z W hbd.1 hbd.2 hG)
  have hz' : ((itoaS z).toList == (st t).toList) = true := by rw [st_list']; exact hz
  clear ha hz hbd
  have hp0 : 0 < (st t).size := parse_pos hp
  have q34 : ((((st t)[0]'hp0).toNat : Int) == 34) = false := by rw [bt_of hp0]; simpa using hq
  cases h1 : nameOK t
  · rw [h1] at HN
    clear hnm
    go_enter Tryz.func118, Tryz.ntmps118
    go_wp2_with (first | (go_at_call 119; rw [HH.out.hy]; refine Calls_retBS hb1 HH.out.word ?_; intro y1) | (go_at_call 65; refine Calls_retS (F := fun _ => True) (fun _ _ => trivial) hb1 trivial (HN.out _) ?_; intro y2 _) | (go_at_call 155; refine Calls_retS (F := fun _ => True) (fun _ _ => trivial) hb1 trivial (HA.out _) ?_; intro y4 _) | (go_at_call 156; refine Calls_retS (F := fun _ => True) (fun _ _ => trivial) hb1 trivial (HI.out _ (HG.out _ _)) ?_; intro y5 _) | (go_at_call 83; refine val_arm HH.out hb hg.out hb8 ?_; intro Y1 hF1 hr1 hv1 hG1; rw [hval]; replace hG1 := Lib.hid hG1; have t0 := Lib.cell_of_heap hv1; have tl := ((Array.getElem?_eq_some_iff.1 hv1).1); have v0 := Lib.cell_of_heap hr1; have vf := Lib.frozen_of_heap hr1; have vl := ((Array.getElem?_eq_some_iff.1 hr1).1)) | (go_at_call 157; refine parse_arm2_ok hF1 hr1 hsz hG1.out hp ?_; clear hF1 hr1 hv1 hG1; intro Y v hF hr hrow; obtain ⟨bb, oo, c, rfl, hbb, q0, q1, q2⟩ := row_one hrow; have u0 := Lib.cell_of_heap hr; have uf := Lib.frozen_of_heap hr; have ul : w.heap.size < Y.heap.size := ((Array.getElem?_eq_some_iff.1 hr).1)))
    exact ⟨rfl, hF.pan⟩
  · cases h2 : keptB t
    · rw [h1, h2] at hnm; cases hnm
    · rw [h1] at HN
      rw [h2] at HK
      clear hnm
      go_enter Tryz.func118, Tryz.ntmps118
      go_wp2_with (first | (go_at_call 119; rw [HH.out.hy]; refine Calls_retBS hb1 HH.out.word ?_; intro y1) | (go_at_call 65; refine Calls_retS (F := fun _ => True) (fun _ _ => trivial) hb1 trivial (HN.out _) ?_; intro y2 _) | (go_at_call 66; refine Calls_retS (F := fun _ => True) (fun _ _ => trivial) hb1 trivial (HK.out _) ?_; intro y3 _) | (go_at_call 155; refine Calls_retS (F := fun _ => True) (fun _ _ => trivial) hb1 trivial (HA.out _) ?_; intro y4 _) | (go_at_call 156; refine Calls_retS (F := fun _ => True) (fun _ _ => trivial) hb1 trivial (HI.out _ (HG.out _ _)) ?_; intro y5 _) | (go_at_call 83; refine val_arm HH.out hb hg.out hb8 ?_; intro Y1 hF1 hr1 hv1 hG1; rw [hval]; replace hG1 := Lib.hid hG1; have t0 := Lib.cell_of_heap hv1; have tl := ((Array.getElem?_eq_some_iff.1 hv1).1); have v0 := Lib.cell_of_heap hr1; have vf := Lib.frozen_of_heap hr1; have vl := ((Array.getElem?_eq_some_iff.1 hr1).1)) | (go_at_call 157; refine parse_arm2_ok hF1 hr1 hsz hG1.out hp ?_; clear hF1 hr1 hv1 hG1; intro Y v hF hr hrow; obtain ⟨bb, oo, c, rfl, hbb, q0, q1, q2⟩ := row_one hrow; have u0 := Lib.cell_of_heap hr; have uf := Lib.frozen_of_heap hr; have ul : w.heap.size < Y.heap.size := ((Array.getElem?_eq_some_iff.1 hr).1)))
      exact ⟨rfl, hF.pan⟩
set_option maxHeartbeats 2000000 in
set_option maxRecDepth 100000 in
theorem tl_inv_yes (b : Nat) (s : ByteArray) (n : Nat) (d : Int) (w : World) (hb : b < w.heap.size) (hs : s.size ≤ 1000) (t : Bs) (T : List Bs) (W1 y : World) (m : Nat) (H : TP w b s n d t T W1 y m) (hg' : Glob w) (hb8 : 8 ≤ b)
    (h58 : t ≠ [58]) (hnm : (nameOK t && !keptB t) = false) {z : Int} (ha : Lib.atoiAll t = .ok z) (hz : ((itoaS z).toList == t) = true) (hval : validV 1 z ⟨#[]⟩ = false) {x : Vl} (hp : parseI (st t) = some [x]) (hq : bt (st t) 0 = 34) :
    Calls Tryz.prog 118 #[.pointer (some ⟨b, 0, none⟩)] w (RetT w b s T d (tv (.vl x))) := by
  have hne : w.heap.size ≠ b := by omega
  have hb1 := H.hb
  have r0 := H.c 0
  have r1 := H.c 1
  have r2 := H.c 2
  have r3 := H.c 3
  have r4 := H.c 4
  have rf := H.f
  have rl := H.rl
  have hsz : (st t).size ≤ 1000 := by have := H.sz; omega
  have hmm : m ≤ s.size := by have := H.sz; omega
  have hss : m + (st t).size ≤ s.size := H.sz
  have HW1 := Lib.hid (H.h hne)
  have HH := Lib.hid H
  clear H
  have HN := name_ret (st t)
  rw [st_list] at HN
  have HN := Lib.hid (fun w => HN w (by omega))
  have HK := Lib.hid (kept_ret (st t))
  rw [show hasS kwords (st t) = keptB t from rfl] at HK
  have e58 : ((st t).toList == [58]) = false := by
    rw [st_list']
    simpa using h58
  have hg := Lib.hid hg'
  have HG := Lib.hid (fun (y : World) (o : Obj) => ((hg'.kp HH.out.hk).xt y).sb hb8 o)
  clear h58 hg'
  have hbd := Lib.atoiAll_bounds ha
  have HA := Lib.hid (fun W => atoi_ok (st t) z W (by omega) (by rw [st_list]; exact ha))
  have HI := Lib.hid (fun W hG => itoa_ret z W hbd.1 hbd.2 hG)
  have hz' : ((itoaS z).toList == (st t).toList) = true := by rw [st_list']; exact hz
  clear ha hz hbd
  have hp0 : 0 < (st t).size := parse_pos hp
  have q34 : ((((st t)[0]'hp0).toNat : Int) == 34) = true := by rw [bt_of hp0]; simpa using hq
  cases h1 : nameOK t
  · rw [h1] at HN
    clear hnm
    go_enter Tryz.func118, Tryz.ntmps118
    go_wp2_with (first | (go_at_call 119; rw [HH.out.hy]; refine Calls_retBS hb1 HH.out.word ?_; intro y1) | (go_at_call 65; refine Calls_retS (F := fun _ => True) (fun _ _ => trivial) hb1 trivial (HN.out _) ?_; intro y2 _) | (go_at_call 155; refine Calls_retS (F := fun _ => True) (fun _ _ => trivial) hb1 trivial (HA.out _) ?_; intro y4 _) | (go_at_call 156; refine Calls_retS (F := fun _ => True) (fun _ _ => trivial) hb1 trivial (HI.out _ (HG.out _ _)) ?_; intro y5 _) | (go_at_call 83; refine val_arm HH.out hb hg.out hb8 ?_; intro Y1 hF1 hr1 hv1 hG1; rw [hval]; replace hG1 := Lib.hid hG1; have t0 := Lib.cell_of_heap hv1; have tl := ((Array.getElem?_eq_some_iff.1 hv1).1); have v0 := Lib.cell_of_heap hr1; have vf := Lib.frozen_of_heap hr1; have vl := ((Array.getElem?_eq_some_iff.1 hr1).1)) | (go_at_call 157; refine parse_arm2_ok hF1 hr1 hsz hG1.out hp ?_; clear hF1 hr1 hv1 hG1; intro Y v hF hr hrow; obtain ⟨bb, oo, c, rfl, hbb, q0, q1, q2⟩ := row_one hrow; have u0 := Lib.cell_of_heap hr; have uf := Lib.frozen_of_heap hr; have ul : w.heap.size < Y.heap.size := ((Array.getElem?_eq_some_iff.1 hr).1)))
    rw [store5 hr]
    refine bodyPost_ret (v := tv (.vl x)) (by simp [results, Tryz.results118, go_sem, tv, ul]) rfl ?_
    exact hF.retT hb (Nat.le_refl _) rfl HH.out.sz HH.out.tl (rd_eq' (by simp))
  · cases h2 : keptB t
    · rw [h1, h2] at hnm; cases hnm
    · rw [h1] at HN
      rw [h2] at HK
      clear hnm
      go_enter Tryz.func118, Tryz.ntmps118
      go_wp2_with (first | (go_at_call 119; rw [HH.out.hy]; refine Calls_retBS hb1 HH.out.word ?_; intro y1) | (go_at_call 65; refine Calls_retS (F := fun _ => True) (fun _ _ => trivial) hb1 trivial (HN.out _) ?_; intro y2 _) | (go_at_call 66; refine Calls_retS (F := fun _ => True) (fun _ _ => trivial) hb1 trivial (HK.out _) ?_; intro y3 _) | (go_at_call 155; refine Calls_retS (F := fun _ => True) (fun _ _ => trivial) hb1 trivial (HA.out _) ?_; intro y4 _) | (go_at_call 156; refine Calls_retS (F := fun _ => True) (fun _ _ => trivial) hb1 trivial (HI.out _ (HG.out _ _)) ?_; intro y5 _) | (go_at_call 83; refine val_arm HH.out hb hg.out hb8 ?_; intro Y1 hF1 hr1 hv1 hG1; rw [hval]; replace hG1 := Lib.hid hG1; have t0 := Lib.cell_of_heap hv1; have tl := ((Array.getElem?_eq_some_iff.1 hv1).1); have v0 := Lib.cell_of_heap hr1; have vf := Lib.frozen_of_heap hr1; have vl := ((Array.getElem?_eq_some_iff.1 hr1).1)) | (go_at_call 157; refine parse_arm2_ok hF1 hr1 hsz hG1.out hp ?_; clear hF1 hr1 hv1 hG1; intro Y v hF hr hrow; obtain ⟨bb, oo, c, rfl, hbb, q0, q1, q2⟩ := row_one hrow; have u0 := Lib.cell_of_heap hr; have uf := Lib.frozen_of_heap hr; have ul : w.heap.size < Y.heap.size := ((Array.getElem?_eq_some_iff.1 hr).1)))
      rw [store5 hr]
      refine bodyPost_ret (v := tv (.vl x)) (by simp [results, Tryz.results118, go_sem, tv, ul]) rfl ?_
      exact hF.retT hb (Nat.le_refl _) rfl HH.out.sz HH.out.tl (rd_eq' (by simp))
set_option maxHeartbeats 2000000 in
set_option maxRecDepth 100000 in
theorem tl_num (b : Nat) (s : ByteArray) (n : Nat) (d : Int) (w : World) (hb : b < w.heap.size) (hs : s.size ≤ 1000) (t : Bs) (T : List Bs) (W1 y : World) (m : Nat) (H : TP w b s n d t T W1 y m) (hg' : Glob w) (hb8 : 8 ≤ b)
    (h58 : t ≠ [58]) (hnm : (nameOK t && !keptB t) = false) {z : Int} (ha : Lib.atoiAll t = .ok z) (hz : ((itoaS z).toList == t) = true) (hval : validV 1 z ⟨#[]⟩ = true) :
    Calls Tryz.prog 118 #[.pointer (some ⟨b, 0, none⟩)] w (RetT w b s T d (tv (.vl ⟨1, z, ⟨#[]⟩⟩))) := by
  have hne : w.heap.size ≠ b := by omega
  have hb1 := H.hb
  have r0 := H.c 0
  have r1 := H.c 1
  have r2 := H.c 2
  have r3 := H.c 3
  have r4 := H.c 4
  have rf := H.f
  have rl := H.rl
  have hsz : (st t).size ≤ 1000 := by have := H.sz; omega
  have hmm : m ≤ s.size := by have := H.sz; omega
  have hss : m + (st t).size ≤ s.size := H.sz
  have HW1 := Lib.hid (H.h hne)
  have HH := Lib.hid H
  clear H
  have HN := name_ret (st t)
  rw [st_list] at HN
  have HN := Lib.hid (fun w => HN w (by omega))
  have HK := Lib.hid (kept_ret (st t))
  rw [show hasS kwords (st t) = keptB t from rfl] at HK
  have e58 : ((st t).toList == [58]) = false := by
    rw [st_list']
    simpa using h58
  have HG := Lib.hid (fun (y : World) (o : Obj) => ((hg'.kp HH.out.hk).xt y).sb hb8 o)
  have hbd := Lib.atoiAll_bounds ha
  have HA := Lib.hid (fun W => atoi_ok (st t) z W (by omega) (by rw [st_list]; exact ha))
  have HI := Lib.hid (fun W hG => itoa_ret z W hbd.1 hbd.2 hG)
  have hz' : ((itoaS z).toList == (st t).toList) = true := by rw [st_list']; exact hz
  have hg := Lib.hid hg'
  clear ha hz hbd h58 hg'
  cases h1 : nameOK t
  · rw [h1] at HN
    clear hnm
    go_enter Tryz.func118, Tryz.ntmps118
    go_wp2_with (first | (go_at_call 119; rw [HH.out.hy]; refine Calls_retBS hb1 HH.out.word ?_; intro y1) | (go_at_call 65; refine Calls_retS (F := fun _ => True) (fun _ _ => trivial) hb1 trivial (HN.out _) ?_; intro y2 _) | (go_at_call 155; refine Calls_retS (F := fun _ => True) (fun _ _ => trivial) hb1 trivial (HA.out _) ?_; intro y4 _) | (go_at_call 156; refine Calls_retS (F := fun _ => True) (fun _ _ => trivial) hb1 trivial (HI.out _ (HG.out _ _)) ?_; intro y5 _) | (go_at_call 83; refine val_arm HH.out hb hg.out hb8 ?_; intro Y1 hF1 hr1 hv1 hG1; rw [hval]; replace hG1 := Lib.hid hG1; have t0 := Lib.cell_of_heap hv1; have tl := ((Array.getElem?_eq_some_iff.1 hv1).1); have v0 := Lib.cell_of_heap hr1; have vf := Lib.frozen_of_heap hr1; have vl := ((Array.getElem?_eq_some_iff.1 hr1).1)))
    rw [store5 hr1]
    have ul : w.heap.size < Y1.heap.size := ((Array.getElem?_eq_some_iff.1 hr1).1)
    refine bodyPost_ret (v := tv (.vl ⟨1, z, ⟨#[]⟩⟩)) (by simp [results, Tryz.results118, go_sem, tv, ul]) rfl ?_
    exact hF1.retT hb (Nat.le_refl _) rfl HH.out.sz HH.out.tl (rd_eq' (by simp))
  · cases h2 : keptB t
    · rw [h1, h2] at hnm; cases hnm
    · rw [h1] at HN
      rw [h2] at HK
      clear hnm
      go_enter Tryz.func118, Tryz.ntmps118
      go_wp2_with (first | (go_at_call 119; rw [HH.out.hy]; refine Calls_retBS hb1 HH.out.word ?_; intro y1) | (go_at_call 65; refine Calls_retS (F := fun _ => True) (fun _ _ => trivial) hb1 trivial (HN.out _) ?_; intro y2 _) | (go_at_call 66; refine Calls_retS (F := fun _ => True) (fun _ _ => trivial) hb1 trivial (HK.out _) ?_; intro y3 _) | (go_at_call 155; refine Calls_retS (F := fun _ => True) (fun _ _ => trivial) hb1 trivial (HA.out _) ?_; intro y4 _) | (go_at_call 156; refine Calls_retS (F := fun _ => True) (fun _ _ => trivial) hb1 trivial (HI.out _ (HG.out _ _)) ?_; intro y5 _) | (go_at_call 83; refine val_arm HH.out hb hg.out hb8 ?_; intro Y1 hF1 hr1 hv1 hG1; rw [hval]; replace hG1 := Lib.hid hG1; have t0 := Lib.cell_of_heap hv1; have tl := ((Array.getElem?_eq_some_iff.1 hv1).1); have v0 := Lib.cell_of_heap hr1; have vf := Lib.frozen_of_heap hr1; have vl := ((Array.getElem?_eq_some_iff.1 hr1).1)))
      rw [store5 hr1]
      have ul : w.heap.size < Y1.heap.size := ((Array.getElem?_eq_some_iff.1 hr1).1)
      refine bodyPost_ret (v := tv (.vl ⟨1, z, ⟨#[]⟩⟩)) (by simp [results, Tryz.results118, go_sem, tv, ul]) rfl ?_
      exact hF1.retT hb (Nat.le_refl _) rfl HH.out.sz HH.out.tl (rd_eq' (by simp))
end Go.Proofs.YtpmheafccfnfjaaGreatDoor
namespace Go.Proofs.YtpmheafccfnfjaaGreatDoor
open Go Go.RowKit
theorem litP_eq {t : Bs} {x : Vl} (hp : parseI (st t) = some [x]) : litP t = if bt (st t) 0 = 34 then some x else none := by
  have h0 := parse_pos hp
  have hl : t ≠ [] := by rintro rfl; simp [st_size] at h0
  obtain ⟨c, u, rfl⟩ := List.exists_cons_of_ne_nil hl
  have e : bt (st (c :: u)) 0 = (c.toNat : Int) := by
    rw [bt_list h0]
    simp [st_list]
  unfold litP
  rw [hp, e]
  simp only [List.head?_cons, Option.some.injEq]
  have this : ((c.toNat : Int) = 34) ↔ c = 34 := cz c 34
  by_cases h : c = 34
  · rw [if_pos h, if_pos (this.2 h)]
  · rw [if_neg h, if_neg (fun e => h (this.1 e))]
section
variable (b : Nat) (s : ByteArray) (n : Nat) (d : Int) (w : World) (hb : b < w.heap.size) (hs : s.size ≤ 1000) (t : Bs) (T : List Bs) (W1 y : World) (m : Nat) (H : TP w b s n d t T W1 y m) (hg' : Glob w) (hb8 : 8 ≤ b)
    (h58 : t ≠ [58]) (hnm : (nameOK t && !keptB t) = false)
include hb hs H hg' hb8 h58 hnm
/-- A term that is no name and no variable. -/
theorem tl_ret : Calls Tryz.prog 118 #[.pointer (some ⟨b, 0, none⟩)] w (match litI t with | some x => RetT w b s T d (tv (.vl x)) | none => PanB w b wrongC) := by
  cases ha : Lib.atoiAll t with
  | ok z =>
    by_cases hz : ((itoaS z).toList == t) = true
    · cases hval : validV 1 z ⟨#[]⟩ with
      | true =>
        have e : litI t = some ⟨1, z, ⟨#[]⟩⟩ := by unfold litI; rw [ha]; simp only [hz, hval, Bool.and_self, if_true]
        rw [e]
        exact tl_num b s n d w hb hs t T W1 y m H hg' hb8 h58 hnm ha hz hval
      | false =>
        have e : litI t = litP t := by unfold litI; rw [ha]; simp [hval]
        rw [e]
        cases hp : parseI (st t) with
        | none =>
          have e2 : litP t = none := by unfold litP; rw [hp]
          rw [e2]
          exact tl_inv_none b s n d w hb hs t T W1 y m H hg' hb8 h58 hnm ha hz hval hp
        | some l =>
          by_cases hl : l.length = 1
          · obtain ⟨x, rfl⟩ := List.length_eq_one_iff.1 hl
            rw [litP_eq hp]
            by_cases hq : bt (st t) 0 = 34
            · rw [if_pos hq]; exact tl_inv_yes b s n d w hb hs t T W1 y m H hg' hb8 h58 hnm ha hz hval hp hq
            · rw [if_neg hq]; exact tl_inv_no b s n d w hb hs t T W1 y m H hg' hb8 h58 hnm ha hz hval hp hq
          · have e2 : litP t = none := by
              unfold litP; rw [hp]
              split
              · rename_i x hx; cases hx; simp at hl
              · rfl
            rw [e2]
            exact tl_inv_len b s n d w hb hs t T W1 y m H hg' hb8 h58 hnm ha hz hval hp hl
    · have hz' : ((itoaS z).toList == t) = false := by simpa using hz
      have e : litI t = litP t := by unfold litI; rw [ha]; simp [hz']
      rw [e]
      cases hp : parseI (st t) with
      | none =>
        have e2 : litP t = none := by unfold litP; rw [hp]
        rw [e2]
        exact tl_ne_none b s n d w hb hs t T W1 y m H hg' hb8 h58 hnm ha hz' hp
      | some l =>
        by_cases hl : l.length = 1
        · obtain ⟨x, rfl⟩ := List.length_eq_one_iff.1 hl
          rw [litP_eq hp]
          by_cases hq : bt (st t) 0 = 34
          · rw [if_pos hq]; exact tl_ne_yes b s n d w hb hs t T W1 y m H hg' hb8 h58 hnm ha hz' hp hq
          · rw [if_neg hq]; exact tl_ne_no b s n d w hb hs t T W1 y m H hg' hb8 h58 hnm ha hz' hp hq
        · have e2 : litP t = none := by
            unfold litP; rw [hp]
            split
            · rename_i x hx; cases hx; simp at hl
            · rfl
          rw [e2]
          exact tl_ne_len b s n d w hb hs t T W1 y m H hg' hb8 h58 hnm ha hz' hp hl
  | _ =>
    have hno : ∀ v, Lib.atoiAll t ≠ .ok v := fun v h => by rw [ha] at h; cases h
    have e : litI t = litP t := by unfold litI; rw [ha]
    rw [e]
    cases hp : parseI (st t) with
    | none =>
      have e2 : litP t = none := by unfold litP; rw [hp]
      rw [e2]
      exact tl_err_none b s n d w hb hs t T W1 y m H hg' hb8 h58 hnm hno hp
    | some l =>
      by_cases hl : l.length = 1
      · obtain ⟨x, rfl⟩ := List.length_eq_one_iff.1 hl
        rw [litP_eq hp]
        by_cases hq : bt (st t) 0 = 34
        · rw [if_pos hq]; exact tl_err_yes b s n d w hb hs t T W1 y m H hg' hb8 h58 hnm hno hp hq
        · rw [if_neg hq]; exact tl_err_no b s n d w hb hs t T W1 y m H hg' hb8 h58 hnm hno hp hq
      · have e2 : litP t = none := by
          unfold litP; rw [hp]
          split
          · rename_i x hx; cases hx; simp at hl
          · rfl
        rw [e2]
        exact tl_err_len b s n d w hb hs t T W1 y m H hg' hb8 h58 hnm hno hp hl
end
end Go.Proofs.YtpmheafccfnfjaaGreatDoor
namespace Go.Proofs.YtpmheafccfnfjaaGreatDoor
open Go Go.RowKit
theorem Fin.retTX {w x : World} {b : Nat} {s : ByteArray} {T : List Bs} {d : Int} {ob : Obj} (h : Fin w b ob x) {u v : Value} {k : Nat} (e : u = v) (hk : k ≤ s.size) (ht : toks (sfx s k) = T) (ho : ob = rdO s k d) : RetT w b s T d v (.returned u) x :=
  ⟨by rw [e], h.1, k, hk, ht, by rw [← ho]; exact h.2⟩
def TermOK (w : World) (b : Nat) (s : ByteArray) (T : List Bs) (d : Int) (e : Ending) (w' : World) : Prop := match pTerm T with
  | some (x, T') => RetT w b s T' d (tv x) e w'
  | none => PanB w b wrongC e w'
set_option maxHeartbeats 2000000 in
set_option maxRecDepth 100000 in
theorem tv_pan (b : Nat) (s : ByteArray) (n : Nat) (d : Int) (w : World) (hb : b < w.heap.size) (hs : s.size ≤ 1000) (T : List Bs) (W1 y : World) (m : Nat) (H : TP w b s n d [58] T W1 y m) (hg' : Glob w) (hb8 : 8 ≤ b)
    (hc : ∀ (n : Nat) (W : World), W.heap[b]? = some (rdO s n d) → n ≤ s.size → toks (sfx s n) = T → Glob W → Calls Tryz.prog 118 #[.pointer (some ⟨b, 0, none⟩)] W (PanB W b wrongC)) :
    Calls Tryz.prog 118 #[.pointer (some ⟨b, 0, none⟩)] w (PanB w b wrongC) := by
  have hne : w.heap.size ≠ b := by omega
  have hb1 := H.hb
  have hss := H.sz
  have e1 : (st [58]).size = 1 := rfl
  rw [e1] at hss
  have HC := Lib.hid (fun y => hc (m + 1) (sb (xt W1 y) b (rdO s (m + 1 : Nat) d)) (heap_sb_same _ _ _ (Nat.lt_of_lt_of_le hb1 (size_xt _ _))) hss (by have := H.tl; rwa [e1] at this) (((hg'.kp H.hk).xt y).sb hb8 _))
  have HH := Lib.hid H
  have e58 : ((st [58]).toList == [58]) = true := by rw [st_list']; rfl
  clear H hc hg'
  go_enter Tryz.func118, Tryz.ntmps118
  go_wp2_with (first | (go_at_call 119; rw [HH.out.hy]; refine Calls_retBS hb1 HH.out.word ?_; intro y1) | (go_at_call 118; refine Calls_panBS (HC.out _) ?_; intro w3 hk3))
  exact ⟨rfl, rfl, (Kb.of_kp HH.out.hk).trans hk3⟩
section
variable (b : Nat) (s : ByteArray) (n : Nat) (d : Int) (w : World) (hb : b < w.heap.size) (hs : s.size ≤ 1000) (T T' : List Bs) (W1 y : World) (m : Nat) (H : TP w b s n d [58] T W1 y m) (hg' : Glob w) (hb8 : 8 ≤ b) (a : ByteArray) (vb : Bool) (k z : Int) (q : ByteArray)
    (hc : ∀ (n : Nat) (W : World), W.heap[b]? = some (rdO s n d) → n ≤ s.size → toks (sfx s n) = T → Glob W → Calls Tryz.prog 118 #[.pointer (some ⟨b, 0, none⟩)] W (RetT W b s T' d (tm5 a vb k z q)))
include hb hs H hg' hb8 hc
set_option maxHeartbeats 2000000 in
set_option maxRecDepth 100000 in
theorem tv_bad (h0 : (a.toList == []) = true ∨ ((a.toList == []) = false ∧ vb = true)) :
    Calls Tryz.prog 118 #[.pointer (some ⟨b, 0, none⟩)] w (PanB w b wrongC) := by
  have hne : w.heap.size ≠ b := by omega
  have hb1 := H.hb
  have hss := H.sz
  have e1 : (st [58]).size = 1 := rfl
  rw [e1] at hss
  have HC := Lib.hid (fun y => hc (m + 1) (sb (xt W1 y) b (rdO s (m + 1 : Nat) d)) (heap_sb_same _ _ _ (Nat.lt_of_lt_of_le hb1 (size_xt _ _))) hss (by have := H.tl; rwa [e1] at this) (((hg'.kp H.hk).xt y).sb hb8 _))
  have HH := Lib.hid H
  have e58 : ((st [58]).toList == [58]) = true := by rw [st_list']; rfl
  clear H hc hg'
  rcases h0 with h0 | ⟨h0, rfl⟩
  all_goals
    go_enter Tryz.func118, Tryz.ntmps118
    go_wp2_with (first | (go_at_call 119; rw [HH.out.hy]; refine Calls_retBS hb1 HH.out.word ?_; intro y1) | (go_at_call 118; refine Calls_retT hb1 (HC.out _) ?_; intro y2 n2 hn2 ht2))
    exact ⟨rfl, rfl, ((Fin.base (o := rdO s n2 d) (x := y2) HH.out.hk hb).alloc _).1⟩
set_option maxHeartbeats 2000000 in
set_option maxRecDepth 100000 in
theorem tv_good (h0 : (a.toList == []) = false) (hv : vb = false) :
    Calls Tryz.prog 118 #[.pointer (some ⟨b, 0, none⟩)] w (RetT w b s T' d (tm5 a true k z q)) := by
  subst hv
  have hne : w.heap.size ≠ b := by omega
  have hb1 := H.hb
  have hss := H.sz
  have e1 : (st [58]).size = 1 := rfl
  rw [e1] at hss
  have r0 := H.c 0
  have r1 := H.c 1
  have r2 := H.c 2
  have r3 := H.c 3
  have r4 := H.c 4
  have rf := H.f
  have rl := H.rl
  have HC := Lib.hid (fun y => hc (m + 1) (sb (xt W1 y) b (rdO s (m + 1 : Nat) d)) (heap_sb_same _ _ _ (Nat.lt_of_lt_of_le hb1 (size_xt _ _))) hss (by have := H.tl; rwa [e1] at this) (((hg'.kp H.hk).xt y).sb hb8 _))
  have HH := Lib.hid H
  have e58 : ((st [58]).toList == [58]) = true := by rw [st_list']; rfl
  clear H hc hg'
  go_enter Tryz.func118, Tryz.ntmps118
  go_wp2_with (first | (go_at_call 119; rw [HH.out.hy]; refine Calls_retBS hb1 HH.out.word ?_; intro y1) | (go_at_call 118; refine Calls_retT hb1 (HC.out _) ?_; intro y2 n2 hn2 ht2))
  rw [store5 (HH.out.h hne _ _)]
  have ul : w.heap.size < (sb (xt W1 y2) b (rdO s n2 d)).heap.size := (Array.getElem?_eq_some_iff.1 (HH.out.h hne y2 (rdO s n2 d))).1
  refine bodyPost_ret (v := tm5 a true k z q) (by simp [results, Tryz.results118, go_sem, rl]) rfl ?_
  exact (((Fin.base (o := rdO s n2 d) (x := y2) HH.out.hk hb).setB (Nat.le_refl _) hb _).alloc _).retTX rfl hn2 ht2 rfl
end
/-- cond's reader: a term. -/
theorem term_ret (s : ByteArray) (d : Int) (b : Nat) (hb8 : 8 ≤ b) (hs : s.size ≤ 1000) : ∀ (T : List Bs) (n : Nat) (w : World), w.heap[b]? = some (rdO s n d) → n ≤ s.size → toks (sfx s n) = T → Glob w →
    Calls Tryz.prog 118 #[.pointer (some ⟨b, 0, none⟩)] w (TermOK w b s T d)
  | [], n, w, h, hn, hT, hg => by
    have hb : b < w.heap.size := (Array.getElem?_eq_some_iff.1 h).1
    obtain ⟨W1, y, m, H⟩ := TP.mk' h hn hs
    rw [hT] at H
    refine (tl_ret b s n d w hb hs _ _ W1 y m H hg hb8 (by simp [hd]) (by simp [hd, nameOK])).mono fun e w' hh => ?_
    have e1 : litI (hd []) = none := by
      show litI [] = none
      have e2 : litI [] = litP [] := rfl
      have e3 : parseI (st []) = some [] := by
        unfold parseI rowsI
        rw [if_pos (by rw [st_size]; rfl)]
        have : (textR []).toList = [] := by rw [show textR [] = ⟨#[]⟩ from rfl, toList_data]
        simp only [this, st_list']
        rfl
      rw [e2]
      unfold litP
      rw [e3]
    rw [e1] at hh
    exact hh
  | t :: T, n, w, h, hn, hT, hg => by
    have hb : b < w.heap.size := (Array.getElem?_eq_some_iff.1 h).1
    obtain ⟨W1, y, m, H⟩ := TP.mk' h hn hs
    rw [hT, show hd (t :: T) = t from rfl, List.tail_cons] at H
    by_cases h58 : t = [58]
    · subst h58
      have IH := fun (n : Nat) (W : World) (h : W.heap[b]? = some (rdO s n d)) (hn : n ≤ s.size) (hT : toks (sfx s n) = T) (hg : Glob W) => term_ret s d b hb8 hs T n W h hn hT hg
      unfold TermOK at IH ⊢
      simp only [pTerm, if_true]
      cases hp : pTerm T with
      | none =>
        rw [hp] at IH
        exact tv_pan b s n d w hb hs T W1 y m H hg hb8 IH
      | some r =>
        obtain ⟨x, T'⟩ := r
        rw [hp] at IH
        cases x with
        | nm a =>
          by_cases ha : a = []
          · subst ha
            simp only [if_true]
            exact tv_bad b s n d w hb hs T T' W1 y m H hg hb8 _ _ _ _ _ IH (.inl (by rw [st_list']; rfl))
          · simp only [if_neg ha]
            exact tv_good b s n d w hb hs T T' W1 y m H hg hb8 _ _ _ _ _ IH (by rw [st_list']; simpa using ha) rfl
        | vr a =>
          by_cases ha : a = []
          · subst ha
            exact tv_bad b s n d w hb hs T T' W1 y m H hg hb8 _ _ _ _ _ IH (.inl (by rw [st_list']; rfl))
          · exact tv_bad b s n d w hb hs T T' W1 y m H hg hb8 _ _ _ _ _ IH (.inr ⟨by rw [st_list']; simpa using ha, rfl⟩)
        | vl x => exact tv_bad b s n d w hb hs T T' W1 y m H hg hb8 _ _ _ _ _ IH (.inl (by rw [toList_data]; rfl))
    · unfold TermOK
      simp only [pTerm, if_neg h58]
      cases hnm : nameOK t && !keptB t with
      | true =>
        have := hnm
        simp only [Bool.and_eq_true, Bool.not_eq_true'] at this
        simp only [if_true]
        exact term_name b s n d w hb hs t T W1 y m H h58 this.1 this.2
      | false =>
        simp only [Bool.false_eq_true, if_false]
        refine (tl_ret b s n d w hb hs t T W1 y m H hg hb8 h58 hnm).mono fun e w' hh => ?_
        cases hl : litI t with
        | none => rw [hl] at hh; exact hh
        | some x => rw [hl] at hh; exact hh
end Go.Proofs.YtpmheafccfnfjaaGreatDoor
namespace Go.Proofs.YtpmheafccfnfjaaGreatDoor
open Go Go.RowKit
/-- A condition as the program holds it. -/
inductive Nd where
  | pair (op : Int) (l r : Nd)
  | no (n : Nd)
  | test (op : Bs) (a b : Trm)
  | truth (b : Bool)
def tvA : Trm → ByteArray
  | .nm a => st a
  | .vr a => st a
  | .vl _ => ⟨#[]⟩
def tvB : Trm → Bool
  | .vr _ => true
  | _ => false
def tvK : Trm → Int
  | .vl x => x.k
  | _ => 0
def tvN : Trm → Int
  | .vl x => x.n
  | _ => 0
def tvS : Trm → ByteArray
  | .vl x => x.s
  | _ => ⟨#[]⟩
theorem tv_eq (x : Trm) : tv x = tm5 (tvA x) (tvB x) (tvK x) (tvN x) (tvS x) := by cases x <;> rfl
def nv : Nd → Value
  | .pair op l r => .iface 134 (.agg #[.int .i64 op, nv l, nv r])
  | .no n => .iface 88 (.agg #[nv n])
  | .test op a b => .iface 117 (.agg #[.string (st op), .string (tvA a), .bool (tvB a), .int .i64 (tvK a), .int .i64 (tvN a), .string (tvS a), .string (tvA b), .bool (tvB b), .int .i64 (tvK b), .int .i64 (tvN b), .string (tvS b)])
  | .truth b => .iface 140 (.agg #[.bool b])
abbrev PRes := Option (Nd × List Bs × Int)
abbrev wNot : Bs := [110, 111, 116]
abbrev wAnd : Bs := [97, 110, 100]
abbrev wOr : Bs := [111, 114]
abbrev wTrue : Bs := [116, 114, 117, 101]
abbrev wFalse : Bs := [102, 97, 108, 115, 101]
def pNot (prim : Int → List Bs → Int → PRes) (lv : Int) (T : List Bs) (d : Int) : PRes :=
  if hd T = wNot then (prim (lv + 1) T.tail (max d (lv + 1))).map fun r => (.no r.1, r.2) else prim lv T d
/-- What follows a side: further sides, each behind the word w. -/
def pMore (side : List Bs → Int → PRes) (w : Bs) (op : Int) : Nat → Nd → List Bs → Int → PRes
  | 0, _, _, _ => none
  | f + 1, n, T, d => if hd T = w then (match side T.tail d with | some (m, T', d') => pMore side w op f (.pair op n m) T' d' | none => none) else some (n, T, d)
def pMany (side : List Bs → Int → PRes) (w : Bs) (op : Int) (T : List Bs) (d : Int) : PRes := match side T d with
  | some (n, T', d') => pMore side w op (T'.length + 1) n T' d'
  | none => none
def pAnd (prim : Int → List Bs → Int → PRes) (lv : Int) : List Bs → Int → PRes := pMany (pNot prim lv) wAnd 2
def pOr (prim : Int → List Bs → Int → PRes) (lv : Int) : List Bs → Int → PRes := pMany (pAnd prim lv) wOr 1
def isRel (t : Bs) : Bool := (atE relL (st t)).isSome
def pPrim : Nat → Int → List Bs → Int → PRes
  | 0, _, _, _ => none
  | k + 1, lv, T, d =>
    if hd T = wTrue then some (.truth true, T.tail, d)
    else if hd T = wFalse then some (.truth false, T.tail, d)
    else if hd T = [40] then (match pOr (pPrim k) (lv + 1) T.tail (max d (lv + 1)) with
      | some (n, T', d') => if hd T' = [41] then some (n, T'.tail, d') else none
      | none => none)
    else match pTerm T with
      | none => none
      | some (a, T1) => if isRel (hd T1) then (match pTerm T1.tail with | none => none | some (b, T2) => some (.test (hd T1) a b, T2, d)) else none
/-- A call that reads a node, or panics. -/
def NodeOK (w : World) (b : Nat) (s : ByteArray) (r : PRes) (e : Ending) (w' : World) : Prop := match r with
  | some (n, T', d') => RetT w b s T' d' (nv n) e w'
  | none => PanB w b wrongC e w'
theorem pTerm_len : ∀ {T : List Bs} {x : Trm} {T' : List Bs}, pTerm T = some (x, T') → T'.length < T.length
  | [], _, _, h => by cases h
  | t :: T, x, T', h => by
    unfold pTerm at h
    split at h
    · split at h
      · rename_i a T2 hp
        have := pTerm_len hp
        split at h
        · cases h
        · cases h
          simp only [List.length_cons]
          omega
      · cases h
    · split at h
      · cases h
        simp
      · cases hl : litI t with
        | none => rw [hl] at h; cases h
        | some y =>
          rw [hl] at h
          cases h
          simp
abbrev Shr (f : List Bs → Int → PRes) : Prop := ∀ (T : List Bs) (d : Int) (n : Nd) (T' : List Bs) (d' : Int), f T d = some (n, T', d') → T'.length ≤ T.length
theorem pMore_len {side : List Bs → Int → PRes} (hs : Shr side) {w : Bs} {op : Int} : ∀ {f : Nat} {n0 : Nd} {T : List Bs} {d : Int} {n : Nd} {T' : List Bs} {d' : Int}, pMore side w op f n0 T d = some (n, T', d') → T'.length ≤ T.length
  | 0, _, _, _, _, _, _, h => by cases h
  | f + 1, n0, T, d, n, T', d', h => by
    unfold pMore at h
    split at h
    · split at h
      · rename_i m T1 d1 hp
        have h1 := hs _ _ _ _ _ hp
        have h2 := pMore_len hs h
        have : T.tail.length ≤ T.length := by simp
        omega
      · cases h
    · cases h
      exact Nat.le_refl _
theorem pMany_len {side : List Bs → Int → PRes} (hs : Shr side) {w : Bs} {op : Int} : Shr (pMany side w op) := by
  intro T d n T' d' h
  unfold pMany at h
  split at h
  · rename_i m T1 d1 hp
    have h1 := hs _ _ _ _ _ hp
    have h2 := pMore_len hs h
    omega
  · cases h
theorem pNot_len {prim : Int → List Bs → Int → PRes} (hp : ∀ lv, Shr (prim lv)) (lv : Int) : Shr (pNot prim lv) := by
  intro T d n T' d' h
  unfold pNot at h
  split at h
  · cases hr : prim (lv + 1) T.tail (max d (lv + 1)) with
    | none => rw [hr] at h; cases h
    | some r =>
      obtain ⟨m, T1, d1⟩ := r
      rw [hr] at h
      cases h
      have := hp _ _ _ _ _ _ hr
      have : T.tail.length ≤ T.length := by simp
      omega
  · exact hp _ _ _ _ _ _ h
theorem pOr_len {prim : Int → List Bs → Int → PRes} (hp : ∀ lv, Shr (prim lv)) (lv : Int) : Shr (pOr prim lv) := pMany_len (pMany_len (pNot_len hp lv))
theorem pPrim_len : ∀ (k : Nat) (lv : Int), Shr (pPrim k lv)
  | 0, lv => by intro T d n T' d' h; cases h
  | k + 1, lv => by
    intro T d n T' d' h
    have ht : T.tail.length ≤ T.length := by simp
    unfold pPrim at h
    split at h
    · cases h; exact ht
    · split at h
      · cases h; exact ht
      · split at h
        · split at h
          · rename_i m T1 d1 hp
            have := pOr_len (fun lv => pPrim_len k lv) _ _ _ _ _ _ hp
            split at h
            · cases h
              have : T1.tail.length ≤ T1.length := by simp
              omega
            · cases h
          · cases h
        · split at h
          · cases h
          · rename_i a T1 hp
            have h1 := pTerm_len hp
            split at h
            · split at h
              · cases h
              · rename_i b T2 hp2
                have h2 := pTerm_len hp2
                have : T1.tail.length ≤ T1.length := by simp
                cases h
                omega
            · cases h
end Go.Proofs.YtpmheafccfnfjaaGreatDoor
namespace Go.Proofs.YtpmheafccfnfjaaGreatDoor
open Go Go.RowKit
section
variable {b : Nat} {s t : ByteArray} {n : Nat} {d : Int} {w : World} {T : List Bs}
theorem take_yes (h : w.heap[b]? = some (rdO s n d)) (hn : n ≤ s.size) (hs : s.size ≤ 1000) (hts : t.size ≤ 1000) (hT : toks (sfx s n) = T) (he : hd T = t.data.toList) :
    Calls Tryz.prog 174 #[.pointer (some ⟨b, 0, none⟩), .string t] w (RetT w b s T.tail d (.bool true)) := by
  have := take_ret b s t n d w h hn (by omega) (by omega)
  rwa [hT, if_pos he, decide_eq_true he] at this
theorem take_no (h : w.heap[b]? = some (rdO s n d)) (hn : n ≤ s.size) (hs : s.size ≤ 1000) (hts : t.size ≤ 1000) (hT : toks (sfx s n) = T) (he : ¬ hd T = t.data.toList) :
    Calls Tryz.prog 174 #[.pointer (some ⟨b, 0, none⟩), .string t] w (RetT w b s T d (.bool false)) := by
  have := take_ret b s t n d w h hn (by omega) (by omega)
  rwa [hT, if_neg he, decide_eq_false he] at this
end
theorem nv_iface (m : Nd) : ∃ ty v, nv m = .iface ty v := by cases m <;> exact ⟨_, _, rfl⟩
/-- What a function of the reader does, at a level, over words fewer than k. -/
def Does (f : FuncId) (b : Nat) (s : ByteArray) (g : Int → List Bs → Int → PRes) (k : Nat) : Prop := ∀ (lv : Int) (T : List Bs) (n : Nat) (d : Int) (w : World), w.heap[b]? = some (rdO s n d) → n ≤ s.size → toks (sfx s n) = T → Glob w → T.length < k → 0 ≤ lv → lv ≤ 100000 - T.length → 0 ≤ d → d ≤ 1000000 →
  Calls Tryz.prog f #[.pointer (some ⟨b, 0, none⟩), .int .i64 lv] w (NodeOK w b s (g lv T d))
theorem sb_is {w x : World} {b : Nat} {o : Obj} (hb : b < w.heap.size) : (sb (xt w x) b o).heap[b]? = some o := heap_sb_same _ _ _ (Nat.lt_of_lt_of_le hb (size_xt _ _))
theorem rd_start (w : World) (b : Nat) (s : ByteArray) (n : Nat) (d : Int) (h : w.heap[b]? = some (rdO s n d)) : ∃ y, w = sb (xt w y) b (rdO s n d) := isRd_start h
set_option maxHeartbeats 1000000 in
set_option maxRecDepth 100000 in
theorem not_no (b : Nat) (s : ByteArray) (hb8 : 8 ≤ b) (hs : s.size ≤ 1000) (g : Int → List Bs → Int → PRes) (k : Nat) (hp : Does 207 b s g k) (lv : Int) (T : List Bs) (n : Nat) (d : Int) (w : World) (h : w.heap[b]? = some (rdO s n d)) (hn : n ≤ s.size) (hT : toks (sfx s n) = T) (hg : Glob w) (hk : T.length < k) (h0 : 0 ≤ lv) (h1 : lv ≤ 100000 - T.length) (h2 : 0 ≤ d) (h3 : d ≤ 1000000)
    (hno : ¬ hd T = wNot) (R : Ending → World → Prop) (HR : Hid (∀ e w', NodeOK w b s (g lv T d) e w' → R e w')) :
    Calls Tryz.prog 193 #[.pointer (some ⟨b, 0, none⟩), .int .i64 lv] w R := by
  have hb : b < w.heap.size := (Array.getElem?_eq_some_iff.1 h).1
  obtain ⟨y0, hy0⟩ := rd_start w b s n d h
  have HT : Calls Tryz.prog 174 #[.pointer (some ⟨b, 0, none⟩), .string ⟨#[110, 111, 116]⟩] w (RetT w b s T d (.bool false)) := take_no h hn hs (by decide) hT hno
  have HP : ∀ y n', n' ≤ s.size → toks (sfx s n') = T → Calls Tryz.prog 207 #[.pointer (some ⟨b, 0, none⟩), .int .i64 lv] (sb (xt w y) b (rdO s n' d)) (NodeOK (sb (xt w y) b (rdO s n' d)) b s (g lv T d)) :=
    fun y n' hn' hT' => hp lv T n' d _ (sb_is hb) hn' hT' ((hg.xt y).sb hb8 _) hk h0 h1 h2 h3
  replace HT := Lib.hid HT
  replace HP := Lib.hid HP
  clear h hT hg hno hy0 hp
  cases hr : g lv T d with
  | none =>
    rw [hr] at HP HR
    go_enter Tryz.func193, Tryz.ntmps193
    go_wp2_with (first | (go_at_call 174; refine HT.out.mono ?_; rintro e w' ⟨rfl, hk1, n1, hn1, ht1, ho1⟩; obtain ⟨y1, rfl⟩ := hk1.out hb ho1; clear hk1 ho1) | (go_at_call 207; refine Calls_panBS (HP.out _ _ hn1 ht1) ?_; intro w3 hk3))
    exact ⟨rfl, HR.out _ _ ⟨rfl, hk3⟩⟩
  | some r =>
    obtain ⟨m, T', d'⟩ := r
    have HP2 : Hid (∀ y n', n' ≤ s.size → toks (sfx s n') = T → Calls Tryz.prog 207 #[.pointer (some ⟨b, 0, none⟩), .int .i64 lv] (sb (xt w y) b (rdO s n' d)) (RetT (sb (xt w y) b (rdO s n' d)) b s T' d' (nv m))) := fun y n' a1 a2 => by
      have := HP.out y n' a1 a2
      rwa [hr] at this
    rw [hr] at HR
    have HR2 : Hid (∀ e w', RetT w b s T' d' (nv m) e w' → R e w') := fun e w' h => HR.out e w' h
    clear HP HR hr
    generalize nv m = v at *
    go_enter Tryz.func193, Tryz.ntmps193
    go_wp2_with (first | (go_at_call 174; refine HT.out.mono ?_; rintro e w' ⟨rfl, hk1, n1, hn1, ht1, ho1⟩; obtain ⟨y1, rfl⟩ := hk1.out hb ho1; clear hk1 ho1) | (go_at_call 207; refine Calls_retT hb (HP2.out _ _ hn1 ht1) ?_; intro y2 n2 hn2 ht2))
    exact HR2.out _ _ (retT_1 hb rfl hn2 ht2 rfl)
set_option maxHeartbeats 1000000 in
set_option maxRecDepth 100000 in
theorem not_yes (b : Nat) (s : ByteArray) (hb8 : 8 ≤ b) (hs : s.size ≤ 1000) (g : Int → List Bs → Int → PRes) (k : Nat) (hp : Does 207 b s g k) (lv : Int) (T : List Bs) (n : Nat) (d : Int) (w : World) (h : w.heap[b]? = some (rdO s n d)) (hn : n ≤ s.size) (hT : toks (sfx s n) = T) (hg : Glob w) (hk : T.length < k) (h0 : 0 ≤ lv) (h1 : lv ≤ 100000 - T.length) (h2 : 0 ≤ d) (h3 : d ≤ 1000000)
    (hyes : hd T = wNot) (R : Ending → World → Prop) (HR : Hid (∀ e w', NodeOK w b s ((g (lv + 1) T.tail (max d (lv + 1))).map fun r => (.no r.1, r.2)) e w' → R e w')) :
    Calls Tryz.prog 193 #[.pointer (some ⟨b, 0, none⟩), .int .i64 lv] w R := by
  have hb : b < w.heap.size := (Array.getElem?_eq_some_iff.1 h).1
  obtain ⟨y0, hy0⟩ := rd_start w b s n d h
  have hl : T.tail.length + 1 = T.length := by
    cases T with
    | nil => simp [hd] at hyes
    | cons a u => simp
  have HT : Calls Tryz.prog 174 #[.pointer (some ⟨b, 0, none⟩), .string ⟨#[110, 111, 116]⟩] w (RetT w b s T.tail d (.bool true)) := take_yes h hn hs (by decide) hT hyes
  have HP : ∀ y n', n' ≤ s.size → toks (sfx s n') = T.tail → Calls Tryz.prog 207 #[.pointer (some ⟨b, 0, none⟩), .int .i64 (lv + 1)] (sb (xt w y) b (rdO s n' (max d (lv + 1)))) (NodeOK (sb (xt w y) b (rdO s n' (max d (lv + 1)))) b s (g (lv + 1) T.tail (max d (lv + 1)))) :=
    fun y n' hn' hT' => hp (lv + 1) T.tail n' (max d (lv + 1)) _ (sb_is hb) hn' hT' ((hg.xt y).sb hb8 _) (by omega) (by omega) (by omega) (by omega) (by omega)
  replace HT := Lib.hid HT
  replace HP := Lib.hid HP
  clear h hT hg hyes hy0 hp
  cases hr : g (lv + 1) T.tail (max d (lv + 1)) with
  | none =>
    rw [hr] at HP HR
    go_enter Tryz.func193, Tryz.ntmps193
    go_wp2_with (first | (go_at_call 174; refine HT.out.mono ?_; rintro e w' ⟨rfl, hk1, n1, hn1, ht1, ho1⟩; obtain ⟨y1, rfl⟩ := hk1.out hb ho1; clear hk1 ho1) | (go_at_call 207; refine Calls_panBS (HP.out _ _ hn1 ht1) ?_; intro w3 hk3))
    exact ⟨rfl, HR.out _ _ ⟨rfl, hk3⟩⟩
  | some r =>
    obtain ⟨m, T', d'⟩ := r
    have HP2 : Hid (∀ y n', n' ≤ s.size → toks (sfx s n') = T.tail → Calls Tryz.prog 207 #[.pointer (some ⟨b, 0, none⟩), .int .i64 (lv + 1)] (sb (xt w y) b (rdO s n' (max d (lv + 1)))) (RetT (sb (xt w y) b (rdO s n' (max d (lv + 1)))) b s T' d' (nv m))) := fun y n' a1 a2 => by
      have := HP.out y n' a1 a2
      rwa [hr] at this
    rw [hr] at HR
    have HR2 : Hid (∀ e w', RetT w b s T' d' (.iface 88 (.agg #[nv m])) e w' → R e w') := fun e w' h => HR.out e w' h
    clear HP HR hr
    obtain ⟨ty, v, hv⟩ := nv_iface m
    rw [hv] at HP2 HR2
    clear hv
    go_enter Tryz.func193, Tryz.ntmps193
    go_wp2_with (first | (go_at_call 174; refine HT.out.mono ?_; rintro e w' ⟨rfl, hk1, n1, hn1, ht1, ho1⟩; obtain ⟨y1, rfl⟩ := hk1.out hb ho1; clear hk1 ho1) | (go_at_call 207; refine Calls_retT hb (HP2.out _ _ hn1 ht1) ?_; intro y2 n2 hn2 ht2))
    exact HR2.out _ _ (retT_1 hb rfl hn2 ht2 rfl)
/-- cond's reader: not. -/
theorem not_does (b : Nat) (s : ByteArray) (hb8 : 8 ≤ b) (hs : s.size ≤ 1000) (g : Int → List Bs → Int → PRes) (k : Nat) (hp : Does 207 b s g k) : Does 193 b s (pNot g) k := by
  intro lv T n d w h hn hT hg hk h0 h1 h2 h3
  by_cases hy : hd T = wNot
  · exact not_yes b s hb8 hs g k hp lv T n d w h hn hT hg hk h0 h1 h2 h3 hy _ (Lib.hid fun e w' hh => by unfold pNot; rw [if_pos hy]; exact hh)
  · exact not_no b s hb8 hs g k hp lv T n d w h hn hT hg hk h0 h1 h2 h3 hy _ (Lib.hid fun e w' hh => by unfold pNot; rw [if_neg hy]; exact hh)
end Go.Proofs.YtpmheafccfnfjaaGreatDoor
namespace Go.Proofs.YtpmheafccfnfjaaGreatDoor
open Go Go.RowKit
set_option maxHeartbeats 2000000 in
set_option maxRecDepth 100000 in
theorem and_walk (b : Nat) (s : ByteArray) (hb8 : 8 ≤ b) (hs : s.size ≤ 1000) (g : Int → List Bs → Int → PRes) (hg1 : ∀ lv, Shr (g lv)) (hg2 : ∀ lv T d n T' d', 0 ≤ lv → 0 ≤ d → d ≤ 1000000 → lv ≤ 100000 - (T.length : Int) → g lv T d = some (n, T', d') → 0 ≤ d' ∧ d' ≤ 1000000) (k : Nat) (hp : Does 193 b s g k) (lv : Int) (T : List Bs) (n : Nat) (d : Int) (w : World) (h : w.heap[b]? = some (rdO s n d)) (hn : n ≤ s.size) (hT : toks (sfx s n) = T) (hg : Glob w) (hk : T.length < k) (h0 : 0 ≤ lv) (h1 : lv ≤ 100000 - T.length) (h2 : 0 ≤ d) (h3 : d ≤ 1000000) (R : Ending → World → Prop) (HR : Hid (∀ e w', NodeOK w b s (pMany (g lv) wAnd 2 T d) e w' → R e w')) :
    Calls Tryz.prog 173 #[.pointer (some ⟨b, 0, none⟩), .int .i64 lv] w R := by
  have hb : b < w.heap.size := (Array.getElem?_eq_some_iff.1 h).1
  have H1 := hp lv T n d w h hn hT hg hk h0 h1 h2 h3
  have HP : Hid (∀ (T : List Bs) y n' (d : Int), n' ≤ s.size → toks (sfx s n') = T → T.length < k → lv ≤ 100000 - T.length → 0 ≤ d → d ≤ 1000000 → Calls Tryz.prog 193 #[.pointer (some ⟨b, 0, none⟩), .int .i64 lv] (sb (xt w y) b (rdO s n' d)) (NodeOK (sb (xt w y) b (rdO s n' d)) b s (g lv T d))) :=
    fun T y n' d hn' hT' a1 a2 a3 a4 => hp lv T n' d _ (sb_is hb) hn' hT' ((hg.xt y).sb hb8 _) a1 h0 a2 a3 a4
  replace H1 := Lib.hid H1
  clear hp h
  cases hr : g lv T d with
  | none =>
    rw [hr] at H1
    have HB : Hid (∀ w', Kb b w w' → R (.panicked [{ v := wrongC, recovered := false }]) w') := fun w' hk => HR.out _ _ (by unfold pMany; rw [hr]; exact ⟨rfl, hk⟩)
    clear hr hT
    go_enter Tryz.func173, Tryz.ntmps173
    go_wp2_with (go_at_call 193; refine Calls_panB H1.out ?_; intro w3 hk3)
    exact ⟨rfl, HB.out _ hk3⟩
  | some r =>
    obtain ⟨m0, T0, d0⟩ := r
    rw [hr] at H1
    have hl0 := hg1 lv _ _ _ _ _ hr
    have hd0 := hg2 _ _ _ _ _ _ h0 h2 h3 h1 hr
    have HM : Hid (pMany (g lv) wAnd 2 T d = pMore (g lv) wAnd 2 (T0.length + 1) m0 T0 d0) := by
      show _ = _
      unfold pMany
      rw [hr]
    have HTk : Hid (∀ (t : ByteArray) (T : List Bs) y n' (d : Int), t.size ≤ 1000 → n' ≤ s.size → toks (sfx s n') = T → hd T = t.data.toList → Calls Tryz.prog 174 #[.pointer (some ⟨b, 0, none⟩), .string t] (sb (xt w y) b (rdO s n' d)) (RetT (sb (xt w y) b (rdO s n' d)) b s T.tail d (.bool true))) :=
      fun t T y n' d a0 a1 a2 a3 => take_yes (sb_is hb) a1 hs a0 a2 a3
    have HTn : Hid (∀ (t : ByteArray) (T : List Bs) y n' (d : Int), t.size ≤ 1000 → n' ≤ s.size → toks (sfx s n') = T → ¬ hd T = t.data.toList → Calls Tryz.prog 174 #[.pointer (some ⟨b, 0, none⟩), .string t] (sb (xt w y) b (rdO s n' d)) (RetT (sb (xt w y) b (rdO s n' d)) b s T d (.bool false))) :=
      fun t T y n' d a0 a1 a2 a3 => take_no (sb_is hb) a1 hs a0 a2 a3
    have H1' : Hid (Calls Tryz.prog 193 #[.pointer (some ⟨b, 0, none⟩), .int .i64 lv] w (RetT w b s T0 d0 (nv m0))) := H1.out
    obtain ⟨ty0, v0, hv0⟩ := nv_iface m0
    rw [hv0] at H1'
    clear hr hT H1
    go_enter Tryz.func173, Tryz.ntmps173
    go_wp2_with (go_at_call 193; refine H1'.out.mono ?_; rintro e w' ⟨rfl, hk1, n1, hn1, ht1, ho1⟩; obtain ⟨y1, rfl⟩ := hk1.out hb ho1; clear hk1 ho1)
    go_loopw [5] (fun u wr => ∃ (m : Nd) (T2 : List Bs) (d2 : Int) (y : World) (n2 f : Nat), u = nv m ∧ wr = sb (xt w y) b (rdO s n2 d2) ∧ n2 ≤ s.size ∧ T2.length < f ∧ T2.length ≤ T.length ∧ 0 ≤ d2 ∧ d2 ≤ 1000000 ∧ Hid (toks (sfx s n2) = T2) ∧ Hid (pMany (g lv) wAnd 2 T d = pMore (g lv) wAnd 2 f m T2 d2)) (fun _ wr => (toks (sfx s (rdN wr b))).length)
    case atStart => exact ⟨m0, T0, d0, y1, n1, T0.length + 1, hv0.symm, rfl, hn1, by omega, hl0, hd0.1, hd0.2, ht1, HM⟩
    case round =>
      obtain ⟨m, T2, d2, y, n2, f, rfl, rfl, hn2, hf, hl2, hd2, hd3, HT2, HM2⟩ := hrel
      obtain ⟨ty, v, hv⟩ := nv_iface m
      have hvH := Lib.hid hv
      rw [hv]
      obtain ⟨f, rfl⟩ : ∃ f', f = f' + 1 := ⟨f - 1, by omega⟩
      have HM3 := HM2.out
      rw [pMore] at HM3
      by_cases hy : hd T2 = wAnd
      · have ht : T2.tail.length + 1 = T2.length := by
          cases T2 with
          | nil => simp [hd] at hy
          | cons a u => simp
        have HTk2 : Hid (Calls Tryz.prog 174 #[.pointer (some ⟨b, 0, none⟩), .string ⟨#[97, 110, 100]⟩] (sb (xt w y) b (rdO s n2 d2)) (RetT (sb (xt w y) b (rdO s n2 d2)) b s T2.tail d2 (.bool true))) := HTk.out _ T2 y n2 d2 (by decide) hn2 HT2.out hy
        have HP2 := Lib.hid (fun y n' a1 a2 => HP.out T2.tail y n' d2 a1 a2 (by omega) (by omega) hd2 hd3)
        have hrd : rdN (sb (xt w y) b (rdO s n2 d2)) b = n2 := rdN_sb (Nat.lt_of_lt_of_le hb (size_xt _ _))
        rw [if_pos hy] at HM3
        cases hr2 : g lv T2.tail d2 with
        | none =>
          rw [hr2] at HM3 HP2
          have HB : Hid (∀ w', Kb b w w' → R (.panicked [{ v := wrongC, recovered := false }]) w') := fun w' hk => HR.out _ _ (by rw [HM3]; exact ⟨rfl, hk⟩)
          clear hr2 HM3 HM2 hy hrd hv
          go_wp2_with (first | (go_at_call 174; refine Calls_retT hb HTk2.out ?_; intro y3 n3 hn3 ht3) | (go_at_call 193; refine Calls_panBS (HP2.out _ _ hn3 ht3) ?_; intro w3 hk3))
          exact ⟨rfl, HB.out _ hk3⟩
        | some r =>
          obtain ⟨m3, T3, d3⟩ := r
          have hl3 := hg1 lv _ _ _ _ _ hr2
          have hd4 := hg2 _ _ _ _ _ _ h0 hd2 hd3 (by omega) hr2
          rw [hr2] at HM3
          have HP3 : Hid (∀ y n', n' ≤ s.size → toks (sfx s n') = T2.tail → Calls Tryz.prog 193 #[.pointer (some ⟨b, 0, none⟩), .int .i64 lv] (sb (xt w y) b (rdO s n' d2)) (RetT (sb (xt w y) b (rdO s n' d2)) b s T3 d3 (nv m3))) := fun y n' a1 a2 => by
            have := HP2.out y n' a1 a2
            rwa [hr2] at this
          obtain ⟨ty3, v3, hv3⟩ := nv_iface m3
          rw [hv3] at HP3
          have hpair : nv (.pair 2 m m3) = .iface 134 (.agg #[.int .i64 2, .iface ty v, .iface ty3 v3]) := by rw [nv, hv, hv3]
          replace hpair := Lib.hid hpair
          replace HM3 := Lib.hid HM3
          clear hr2 HM2 hy hv hv3 HP2
          go_wp2_with (first | (go_at_call 174; refine Calls_retT hb HTk2.out ?_; intro y3 n3 hn3 ht3) | (go_at_call 193; refine Calls_retT hb (HP3.out _ _ hn3 ht3) ?_; intro y4 n4 hn4 ht4))
          go_roundw
          case rel => exact ⟨.pair 2 m m3, T3, d3, y4, n4, f, hpair.out.symm, rfl, hn4, by omega, by omega, hd4.1, hd4.2, ht4, HM3⟩
          case measure =>
            have hrd2 : rdN (sb (xt w y4) b (rdO s n4 d3)) b = n4 := rdN_sb (Nat.lt_of_lt_of_le hb (size_xt _ _))
            have e3 : (toks (sfx s (rdN (sb (xt w y4) b (rdO s n4 d3)) b))).length < (toks (sfx s (rdN (sb (xt w y) b (rdO s n2 d2)) b))).length := by
              rw [hrd, hrd2, ht4, HT2.out]
              omega
            exact e3
      · have HTn2 : Hid (Calls Tryz.prog 174 #[.pointer (some ⟨b, 0, none⟩), .string ⟨#[97, 110, 100]⟩] (sb (xt w y) b (rdO s n2 d2)) (RetT (sb (xt w y) b (rdO s n2 d2)) b s T2 d2 (.bool false))) := HTn.out _ T2 y n2 d2 (by decide) hn2 HT2.out hy
        rw [if_neg hy] at HM3
        have HB : Hid (∀ e w', RetT w b s T2 d2 (.iface ty v) e w' → R e w') := fun e w' hh => HR.out _ _ (by rw [HM3]; show RetT w b s T2 d2 (nv m) e w'; rw [hv]; exact hh)
        clear HM3 HM2 hy hv
        go_wp2_with (go_at_call 174; refine Calls_retT hb HTn2.out ?_; intro y3 n3 hn3 ht3)
        exact HB.out _ _ (retT_1 hb rfl hn3 ht3 rfl)
end Go.Proofs.YtpmheafccfnfjaaGreatDoor
namespace Go.Proofs.YtpmheafccfnfjaaGreatDoor
open Go Go.RowKit
set_option maxHeartbeats 2000000 in
set_option maxRecDepth 100000 in
theorem or_walk (b : Nat) (s : ByteArray) (hb8 : 8 ≤ b) (hs : s.size ≤ 1000) (g : Int → List Bs → Int → PRes) (hg1 : ∀ lv, Shr (g lv)) (hg2 : ∀ lv T d n T' d', 0 ≤ lv → 0 ≤ d → d ≤ 1000000 → lv ≤ 100000 - (T.length : Int) → g lv T d = some (n, T', d') → 0 ≤ d' ∧ d' ≤ 1000000) (k : Nat) (hp : Does 173 b s g k) (lv : Int) (T : List Bs) (n : Nat) (d : Int) (w : World) (h : w.heap[b]? = some (rdO s n d)) (hn : n ≤ s.size) (hT : toks (sfx s n) = T) (hg : Glob w) (hk : T.length < k) (h0 : 0 ≤ lv) (h1 : lv ≤ 100000 - T.length) (h2 : 0 ≤ d) (h3 : d ≤ 1000000) (R : Ending → World → Prop) (HR : Hid (∀ e w', NodeOK w b s (pMany (g lv) wOr 1 T d) e w' → R e w')) :
    Calls Tryz.prog 136 #[.pointer (some ⟨b, 0, none⟩), .int .i64 lv] w R := by
  have hb : b < w.heap.size := (Array.getElem?_eq_some_iff.1 h).1
  have H1 := hp lv T n d w h hn hT hg hk h0 h1 h2 h3
  have HP : Hid (∀ (T : List Bs) y n' (d : Int), n' ≤ s.size → toks (sfx s n') = T → T.length < k → lv ≤ 100000 - T.length → 0 ≤ d → d ≤ 1000000 → Calls Tryz.prog 173 #[.pointer (some ⟨b, 0, none⟩), .int .i64 lv] (sb (xt w y) b (rdO s n' d)) (NodeOK (sb (xt w y) b (rdO s n' d)) b s (g lv T d))) :=
    fun T y n' d hn' hT' a1 a2 a3 a4 => hp lv T n' d _ (sb_is hb) hn' hT' ((hg.xt y).sb hb8 _) a1 h0 a2 a3 a4
  replace H1 := Lib.hid H1
  clear hp h
  cases hr : g lv T d with
  | none =>
    rw [hr] at H1
    have HB : Hid (∀ w', Kb b w w' → R (.panicked [{ v := wrongC, recovered := false }]) w') := fun w' hk => HR.out _ _ (by unfold pMany; rw [hr]; exact ⟨rfl, hk⟩)
    clear hr hT
    go_enter Tryz.func136, Tryz.ntmps136
    go_wp2_with (go_at_call 173; refine Calls_panB H1.out ?_; intro w3 hk3)
    exact ⟨rfl, HB.out _ hk3⟩
  | some r =>
    obtain ⟨m0, T0, d0⟩ := r
    rw [hr] at H1
    have hl0 := hg1 lv _ _ _ _ _ hr
    have hd0 := hg2 _ _ _ _ _ _ h0 h2 h3 h1 hr
    have HM : Hid (pMany (g lv) wOr 1 T d = pMore (g lv) wOr 1 (T0.length + 1) m0 T0 d0) := by
      show _ = _
      unfold pMany
      rw [hr]
    have HTk : Hid (∀ (t : ByteArray) (T : List Bs) y n' (d : Int), t.size ≤ 1000 → n' ≤ s.size → toks (sfx s n') = T → hd T = t.data.toList → Calls Tryz.prog 174 #[.pointer (some ⟨b, 0, none⟩), .string t] (sb (xt w y) b (rdO s n' d)) (RetT (sb (xt w y) b (rdO s n' d)) b s T.tail d (.bool true))) :=
      fun t T y n' d a0 a1 a2 a3 => take_yes (sb_is hb) a1 hs a0 a2 a3
    have HTn : Hid (∀ (t : ByteArray) (T : List Bs) y n' (d : Int), t.size ≤ 1000 → n' ≤ s.size → toks (sfx s n') = T → ¬ hd T = t.data.toList → Calls Tryz.prog 174 #[.pointer (some ⟨b, 0, none⟩), .string t] (sb (xt w y) b (rdO s n' d)) (RetT (sb (xt w y) b (rdO s n' d)) b s T d (.bool false))) :=
      fun t T y n' d a0 a1 a2 a3 => take_no (sb_is hb) a1 hs a0 a2 a3
    have H1' : Hid (Calls Tryz.prog 173 #[.pointer (some ⟨b, 0, none⟩), .int .i64 lv] w (RetT w b s T0 d0 (nv m0))) := H1.out
    obtain ⟨ty0, v0, hv0⟩ := nv_iface m0
    rw [hv0] at H1'
    clear hr hT H1
    go_enter Tryz.func136, Tryz.ntmps136
    go_wp2_with (go_at_call 173; refine H1'.out.mono ?_; rintro e w' ⟨rfl, hk1, n1, hn1, ht1, ho1⟩; obtain ⟨y1, rfl⟩ := hk1.out hb ho1; clear hk1 ho1)
    go_loopw [5] (fun u wr => ∃ (m : Nd) (T2 : List Bs) (d2 : Int) (y : World) (n2 f : Nat), u = nv m ∧ wr = sb (xt w y) b (rdO s n2 d2) ∧ n2 ≤ s.size ∧ T2.length < f ∧ T2.length ≤ T.length ∧ 0 ≤ d2 ∧ d2 ≤ 1000000 ∧ Hid (toks (sfx s n2) = T2) ∧ Hid (pMany (g lv) wOr 1 T d = pMore (g lv) wOr 1 f m T2 d2)) (fun _ wr => (toks (sfx s (rdN wr b))).length)
    case atStart => exact ⟨m0, T0, d0, y1, n1, T0.length + 1, hv0.symm, rfl, hn1, by omega, hl0, hd0.1, hd0.2, ht1, HM⟩
    case round =>
      obtain ⟨m, T2, d2, y, n2, f, rfl, rfl, hn2, hf, hl2, hd2, hd3, HT2, HM2⟩ := hrel
      obtain ⟨ty, v, hv⟩ := nv_iface m
      have hvH := Lib.hid hv
      rw [hv]
      obtain ⟨f, rfl⟩ : ∃ f', f = f' + 1 := ⟨f - 1, by omega⟩
      have HM3 := HM2.out
      rw [pMore] at HM3
      by_cases hy : hd T2 = wOr
      · have ht : T2.tail.length + 1 = T2.length := by
          cases T2 with
          | nil => simp [hd] at hy
          | cons a u => simp
        have HTk2 : Hid (Calls Tryz.prog 174 #[.pointer (some ⟨b, 0, none⟩), .string ⟨#[111, 114]⟩] (sb (xt w y) b (rdO s n2 d2)) (RetT (sb (xt w y) b (rdO s n2 d2)) b s T2.tail d2 (.bool true))) := HTk.out _ T2 y n2 d2 (by decide) hn2 HT2.out hy
        have HP2 := Lib.hid (fun y n' a1 a2 => HP.out T2.tail y n' d2 a1 a2 (by omega) (by omega) hd2 hd3)
        have hrd : rdN (sb (xt w y) b (rdO s n2 d2)) b = n2 := rdN_sb (Nat.lt_of_lt_of_le hb (size_xt _ _))
        rw [if_pos hy] at HM3
        cases hr2 : g lv T2.tail d2 with
        | none =>
          rw [hr2] at HM3 HP2
          have HB : Hid (∀ w', Kb b w w' → R (.panicked [{ v := wrongC, recovered := false }]) w') := fun w' hk => HR.out _ _ (by rw [HM3]; exact ⟨rfl, hk⟩)
          clear hr2 HM3 HM2 hy hrd hv
          go_wp2_with (first | (go_at_call 174; refine Calls_retT hb HTk2.out ?_; intro y3 n3 hn3 ht3) | (go_at_call 173; refine Calls_panBS (HP2.out _ _ hn3 ht3) ?_; intro w3 hk3))
          exact ⟨rfl, HB.out _ hk3⟩
        | some r =>
          obtain ⟨m3, T3, d3⟩ := r
          have hl3 := hg1 lv _ _ _ _ _ hr2
          have hd4 := hg2 _ _ _ _ _ _ h0 hd2 hd3 (by omega) hr2
          rw [hr2] at HM3
          have HP3 : Hid (∀ y n', n' ≤ s.size → toks (sfx s n') = T2.tail → Calls Tryz.prog 173 #[.pointer (some ⟨b, 0, none⟩), .int .i64 lv] (sb (xt w y) b (rdO s n' d2)) (RetT (sb (xt w y) b (rdO s n' d2)) b s T3 d3 (nv m3))) := fun y n' a1 a2 => by
            have := HP2.out y n' a1 a2
            rwa [hr2] at this
          obtain ⟨ty3, v3, hv3⟩ := nv_iface m3
          rw [hv3] at HP3
          have hpair : nv (.pair 1 m m3) = .iface 134 (.agg #[.int .i64 1, .iface ty v, .iface ty3 v3]) := by rw [nv, hv, hv3]
          replace hpair := Lib.hid hpair
          replace HM3 := Lib.hid HM3
          clear hr2 HM2 hy hv hv3 HP2
          go_wp2_with (first | (go_at_call 174; refine Calls_retT hb HTk2.out ?_; intro y3 n3 hn3 ht3) | (go_at_call 173; refine Calls_retT hb (HP3.out _ _ hn3 ht3) ?_; intro y4 n4 hn4 ht4))
          go_roundw
          case rel => exact ⟨.pair 1 m m3, T3, d3, y4, n4, f, hpair.out.symm, rfl, hn4, by omega, by omega, hd4.1, hd4.2, ht4, HM3⟩
          case measure =>
            have hrd2 : rdN (sb (xt w y4) b (rdO s n4 d3)) b = n4 := rdN_sb (Nat.lt_of_lt_of_le hb (size_xt _ _))
            have e3 : (toks (sfx s (rdN (sb (xt w y4) b (rdO s n4 d3)) b))).length < (toks (sfx s (rdN (sb (xt w y) b (rdO s n2 d2)) b))).length := by
              rw [hrd, hrd2, ht4, HT2.out]
              omega
            exact e3
      · have HTn2 : Hid (Calls Tryz.prog 174 #[.pointer (some ⟨b, 0, none⟩), .string ⟨#[111, 114]⟩] (sb (xt w y) b (rdO s n2 d2)) (RetT (sb (xt w y) b (rdO s n2 d2)) b s T2 d2 (.bool false))) := HTn.out _ T2 y n2 d2 (by decide) hn2 HT2.out hy
        rw [if_neg hy] at HM3
        have HB : Hid (∀ e w', RetT w b s T2 d2 (.iface ty v) e w' → R e w') := fun e w' hh => HR.out _ _ (by rw [HM3]; show RetT w b s T2 d2 (nv m) e w'; rw [hv]; exact hh)
        clear HM3 HM2 hy hv
        go_wp2_with (go_at_call 174; refine Calls_retT hb HTn2.out ?_; intro y3 n3 hn3 ht3)
        exact HB.out _ _ (retT_1 hb rfl hn3 ht3 rfl)
end Go.Proofs.YtpmheafccfnfjaaGreatDoor
namespace Go.Proofs.YtpmheafccfnfjaaGreatDoor
open Go Go.RowKit
theorem word_hd {b : Nat} {s : ByteArray} {n : Nat} {d : Int} {w : World} {T : List Bs} (h : w.heap[b]? = some (rdO s n d)) (hn : n ≤ s.size) (hs : s.size ≤ 1000) (hT : toks (sfx s n) = T) :
    ∃ m : Nat, Calls Tryz.prog 119 #[.pointer (some ⟨b, 0, none⟩)] w (RetB w b (rdO s m d) (.string (st (hd T)))) ∧ m + (st (hd T)).size ≤ s.size ∧ toks (sfx s (m + (st (hd T)).size)) = T.tail ∧ m ≤ s.size ∧ toks (sfx s m) = T := by
  have HW := word_ret b s n d w h hn (by omega)
  rw [wordS_eq, hT] at HW
  have h2 := toks_tail hn
  rw [hT, ← st_size] at h2
  exact ⟨skipN s n, HW, h2.1, h2.2, skipN_le hn, by rw [toks_skip, hT]⟩
theorem rd1_ret (b : Nat) (lv : Int) (w : World) : Calls Tryz.prog 226 #[.pointer (some ⟨b, 0, none⟩), .int .i64 lv] w (Ret w (nv (.truth true))) := by
  go_enter Tryz.func226, Tryz.ntmps226
  go_wp2
  go_ret
  exact ret_of rfl (Kp.refl _)
theorem rd2_ret (b : Nat) (lv : Int) (w : World) : Calls Tryz.prog 227 #[.pointer (some ⟨b, 0, none⟩), .int .i64 lv] w (Ret w (nv (.truth false))) := by
  go_enter Tryz.func227, Tryz.ntmps227
  go_wp2
  go_ret
  exact ret_of rfl (Kp.refl _)
set_option maxHeartbeats 1000000 in
set_option maxRecDepth 100000 in
theorem prim_true (b : Nat) (s : ByteArray) (hs : s.size ≤ 1000) (lv : Int) (T : List Bs) (n : Nat) (d : Int) (w : World) (h : w.heap[b]? = some (rdO s n d)) (hn : n ≤ s.size) (hT : toks (sfx s n) = T) (hat : atE rdsL (st (hd T)) = some 226) :
    Calls Tryz.prog 207 #[.pointer (some ⟨b, 0, none⟩), .int .i64 lv] w (RetT w b s T.tail d (nv (.truth true))) := by
  have hb : b < w.heap.size := (Array.getElem?_eq_some_iff.1 h).1
  obtain ⟨m, HW, hm1, hm2, hm3, hm4⟩ := word_hd h hn hs hT
  have HL := Lib.hid (fun (W : World) (r : Nat) (hr : W.heap[r]? = some (Obj.map (rdsE 3) 3)) => by have := look_rds W r hr (st (hd T)); rw [hat] at this; exact this)
  replace HW := Lib.hid HW
  replace hm2 := Lib.hid hm2
  generalize st (hd T) = q at *
  clear h hT hat hm4
  go_enter Tryz.func207, Tryz.ntmps207
  go_wp2_with (first | (go_at_call 119; refine Calls_retB HW.out hb ?_; intro y1) | (go_at_call 218; refine (readers_ret _).mono ?_; rintro e w' ⟨r, rfl, hk, hr, hm⟩; obtain ⟨y2, rfl, _⟩ := sb_kp (F := fun _ => True) (fun _ _ => trivial) hb trivial hk; have hlk := HL.out _ r hm; clear hk hr hm) | (go_at_call 226; refine Calls_retS (F := fun _ => True) (fun _ _ => trivial) hb trivial (rd1_ret _ _ _) ?_; intro y3 _))
  go_ret
  exact retT_1 hb rfl hm1 hm2.out (rd_eq' (by simp))
set_option maxHeartbeats 1000000 in
set_option maxRecDepth 100000 in
theorem prim_false (b : Nat) (s : ByteArray) (hs : s.size ≤ 1000) (lv : Int) (T : List Bs) (n : Nat) (d : Int) (w : World) (h : w.heap[b]? = some (rdO s n d)) (hn : n ≤ s.size) (hT : toks (sfx s n) = T) (hat : atE rdsL (st (hd T)) = some 227) :
    Calls Tryz.prog 207 #[.pointer (some ⟨b, 0, none⟩), .int .i64 lv] w (RetT w b s T.tail d (nv (.truth false))) := by
  have hb : b < w.heap.size := (Array.getElem?_eq_some_iff.1 h).1
  obtain ⟨m, HW, hm1, hm2, hm3, hm4⟩ := word_hd h hn hs hT
  have HL := Lib.hid (fun (W : World) (r : Nat) (hr : W.heap[r]? = some (Obj.map (rdsE 3) 3)) => by have := look_rds W r hr (st (hd T)); rw [hat] at this; exact this)
  replace HW := Lib.hid HW
  replace hm2 := Lib.hid hm2
  generalize st (hd T) = q at *
  clear h hT hat hm4
  go_enter Tryz.func207, Tryz.ntmps207
  go_wp2_with (first | (go_at_call 119; refine Calls_retB HW.out hb ?_; intro y1) | (go_at_call 218; refine (readers_ret _).mono ?_; rintro e w' ⟨r, rfl, hk, hr, hm⟩; obtain ⟨y2, rfl, _⟩ := sb_kp (F := fun _ => True) (fun _ _ => trivial) hb trivial hk; have hlk := HL.out _ r hm; clear hk hr hm) | (go_at_call 227; refine Calls_retS (F := fun _ => True) (fun _ _ => trivial) hb trivial (rd2_ret _ _ _) ?_; intro y3 _))
  go_ret
  exact retT_1 hb rfl hm1 hm2.out (rd_eq' (by simp))
end Go.Proofs.YtpmheafccfnfjaaGreatDoor
namespace Go.Proofs.YtpmheafccfnfjaaGreatDoor
open Go Go.RowKit
def pPar (g : Int → List Bs → Int → PRes) (lv : Int) (T : List Bs) (d : Int) : PRes := match g (lv + 1) T (max d (lv + 1)) with
  | some (n, T', d') => if hd T' = [41] then some (n, T'.tail, d') else none
  | none => none
set_option maxHeartbeats 1000000 in
set_option maxRecDepth 100000 in
theorem rd3_walk (b : Nat) (s : ByteArray) (hb8 : 8 ≤ b) (hs : s.size ≤ 1000) (g : Int → List Bs → Int → PRes) (k : Nat) (hp : Does 136 b s g k) (lv : Int) (T : List Bs) (n : Nat) (d : Int) (w : World) (h : w.heap[b]? = some (rdO s n d)) (hn : n ≤ s.size) (hT : toks (sfx s n) = T) (hg : Glob w) (hk : T.length < k) (h0 : 0 ≤ lv) (h1 : lv + 1 ≤ 100000 - T.length) (h2 : 0 ≤ d) (h3 : d ≤ 1000000) (R : Ending → World → Prop) (HR : Hid (∀ e w', NodeOK w b s (pPar g lv T d) e w' → R e w')) :
    Calls Tryz.prog 228 #[.pointer (some ⟨b, 0, none⟩), .int .i64 lv] w R := by
  have hb : b < w.heap.size := (Array.getElem?_eq_some_iff.1 h).1
  obtain ⟨y0, hy0⟩ := rd_start w b s n d h
  have HP := Lib.hid (fun y => hp (lv + 1) T n (max d (lv + 1)) _ (sb_is (w := w) (x := y) (b := b) (o := rdO s n (max d (lv + 1))) hb) hn hT ((hg.xt y).sb hb8 _) hk (by omega) (by omega) (by omega) (by omega))
  have HTk : Hid (∀ (t : ByteArray) (T : List Bs) y n' (d : Int), t.size ≤ 1000 → n' ≤ s.size → toks (sfx s n') = T → hd T = t.data.toList → Calls Tryz.prog 174 #[.pointer (some ⟨b, 0, none⟩), .string t] (sb (xt w y) b (rdO s n' d)) (RetT (sb (xt w y) b (rdO s n' d)) b s T.tail d (.bool true))) :=
    fun t T y n' d a0 a1 a2 a3 => take_yes (sb_is hb) a1 hs a0 a2 a3
  have HTn : Hid (∀ (t : ByteArray) (T : List Bs) y n' (d : Int), t.size ≤ 1000 → n' ≤ s.size → toks (sfx s n') = T → ¬ hd T = t.data.toList → Calls Tryz.prog 174 #[.pointer (some ⟨b, 0, none⟩), .string t] (sb (xt w y) b (rdO s n' d)) (RetT (sb (xt w y) b (rdO s n' d)) b s T d (.bool false))) :=
    fun t T y n' d a0 a1 a2 a3 => take_no (sb_is hb) a1 hs a0 a2 a3
  suffices H : ∀ y, Calls Tryz.prog 228 #[.pointer (some ⟨b, 0, none⟩), .int .i64 lv] (sb (xt w y) b (rdO s n d)) R by
    rw [hy0]
    exact H y0
  intro y
  clear hy0 h hT hg hp
  cases hr : g (lv + 1) T (max d (lv + 1)) with
  | none =>
    rw [hr] at HP
    have HB : Hid (∀ w', Kb b w w' → R (.panicked [{ v := wrongC, recovered := false }]) w') := fun w' hk => HR.out _ _ (by unfold pPar; rw [hr]; exact ⟨rfl, hk⟩)
    clear hr
    go_enter Tryz.func228, Tryz.ntmps228
    go_wp2_with (go_at_call 136; refine Calls_panBS (HP.out _) ?_; intro w3 hk3)
    exact ⟨rfl, HB.out _ hk3⟩
  | some r =>
    obtain ⟨m, T', d'⟩ := r
    have HP2 : Hid (∀ y, Calls Tryz.prog 136 #[.pointer (some ⟨b, 0, none⟩), .int .i64 (lv + 1)] (sb (xt w y) b (rdO s n (max d (lv + 1)))) (RetT (sb (xt w y) b (rdO s n (max d (lv + 1)))) b s T' d' (nv m))) := fun y => by
      have := HP.out y
      rwa [hr] at this
    obtain ⟨ty, v, hv⟩ := nv_iface m
    rw [hv] at HP2
    by_cases hy : hd T' = [41]
    · have HTk2 : Hid (∀ y n', n' ≤ s.size → toks (sfx s n') = T' → Calls Tryz.prog 174 #[.pointer (some ⟨b, 0, none⟩), .string ⟨#[41]⟩] (sb (xt w y) b (rdO s n' d')) (RetT (sb (xt w y) b (rdO s n' d')) b s T'.tail d' (.bool true))) := fun y n' a1 a2 => HTk.out _ T' y n' d' (by decide) a1 a2 hy
      have HB : Hid (∀ e w', RetT w b s T'.tail d' (.iface ty v) e w' → R e w') := fun e w' hh => HR.out _ _ (by unfold pPar; rw [hr]; simp only [hy, if_true]; show RetT w b s T'.tail d' (nv m) e w'; rw [hv]; exact hh)
      clear hr hy hv HP
      go_enter Tryz.func228, Tryz.ntmps228
      go_wp2_with (first | (go_at_call 136; refine Calls_retT hb (HP2.out _) ?_; intro y2 n2 hn2 ht2) | (go_at_call 174; refine Calls_retT hb (HTk2.out _ _ hn2 ht2) ?_; intro y3 n3 hn3 ht3))
      exact HB.out _ _ (retT_1 hb rfl hn3 ht3 rfl)
    · have HTn2 : Hid (∀ y n', n' ≤ s.size → toks (sfx s n') = T' → Calls Tryz.prog 174 #[.pointer (some ⟨b, 0, none⟩), .string ⟨#[41]⟩] (sb (xt w y) b (rdO s n' d')) (RetT (sb (xt w y) b (rdO s n' d')) b s T' d' (.bool false))) := fun y n' a1 a2 => HTn.out _ T' y n' d' (by decide) a1 a2 hy
      have HB : Hid (∀ w', Kb b w w' → R (.panicked [{ v := wrongC, recovered := false }]) w') := fun w' hk => HR.out _ _ (by unfold pPar; rw [hr]; simp only [hy, if_false]; exact ⟨rfl, hk⟩)
      clear hr hy hv HP
      go_enter Tryz.func228, Tryz.ntmps228
      go_wp2_with (first | (go_at_call 136; refine Calls_retT hb (HP2.out _) ?_; intro y2 n2 hn2 ht2) | (go_at_call 174; refine Calls_retT hb (HTn2.out _ _ hn2 ht2) ?_; intro y3 n3 hn3 ht3))
      exact ⟨rfl, HB.out _ (((Kb.refl b w).more _).setB _)⟩
end Go.Proofs.YtpmheafccfnfjaaGreatDoor
