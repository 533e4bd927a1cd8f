/- Sectors that follow one another, of a log's disk. -/
import Derived.Test.YtpemgmbfkobmeaaGreatDoorA4
import Derived.Test.YtpemgmbfkobmeaaGreatDoorA3
import Derived.Test.YtpemgmbfkobmeaaGreatDoorA2
namespace Go.Proofs.Sol
open Go Go.Proofs
set_option maxRecDepth 100000
set_option maxHeartbeats 4000000
set_option linter.unusedVariables false
set_option linter.unusedSimpArgs false
attribute [local irreducible] R J JW E D Fn Y clf mpI own Sat Exit.then Exit.inBlock bodyPost bodyPostM Code.wpIn wpL
theorem save_err (l : List Bytes) : ∀ (W : Wl) (a : Int) (m : List Bytes), W.saveE a l ≠ 0 → W.saveE a (l ++ m) = W.saveE a l ∧ W.save a (l ++ m) = W.save a l := by
  induction l with
  | nil => intro W a m h; exact absurd rfl h
  | cons s l ih =>
    intro W a m h
    simp only [List.cons_append, Wl.saveE, Wl.save] at h ⊢
    by_cases h1 : W.stE a s = 0
    · rw [if_pos h1] at h ⊢
      rw [if_pos h1, if_pos h1, if_pos h1]
      exact ih _ _ _ h
    · rw [if_neg h1, if_neg h1, if_neg h1, if_neg h1]
      exact ⟨rfl, rfl⟩
theorem save_snoc (l : List Bytes) : ∀ (W : Wl) (a : Int) (s : Bytes), W.saveE a l = 0 → W.saveE a (l ++ [s]) = (W.save a l).stE (a + l.length) s ∧ W.save a (l ++ [s]) = (W.save a l).st (a + l.length) s := by
  induction l with
  | nil =>
    intro W a s _
    simp only [List.nil_append, Wl.saveE, Wl.save, List.length_nil]
    have e : a + ((0 : Nat) : Int) = a := by omega
    rw [e]
    by_cases h1 : W.stE a s = 0
    · rw [if_pos h1, if_pos h1, h1]; exact ⟨rfl, rfl⟩
    · rw [if_neg h1, if_neg h1]; exact ⟨rfl, by unfold Wl.st; rw [if_neg h1]⟩
  | cons t l ih =>
    intro W a s h
    simp only [List.cons_append, Wl.saveE, Wl.save] at h ⊢
    by_cases h1 : W.stE a t = 0
    · rw [if_pos h1] at h
      rw [if_pos h1, if_pos h1, if_pos h1]
      have := ih _ _ s h
      have e : a + 1 + (l.length : Int) = a + ((t :: l).length : Int) := by simp; omega
      rw [e] at this
      exact this
    · rw [if_neg h1] at h; exact absurd h h1
theorem home_lt {W : Wl} (ok : WlOk W) {i : Int} (h : W.home i = true) : 0 ≤ i ∧ i < 1000 := by
  have := ok.n
  simp only [Wl.home, homeB, Bool.and_eq_true, decide_eq_true_eq] at h
  omega
theorem extent_Save (b : Nat) (W : Wl) (ok : WlOk W) (a : Int) (data : Bytes) (hl : data.length ≤ 100000) (ha : -9223372036854775808 ≤ a ∧ a < 9223372036854775808) (n : Nat) (hn : 1 ≤ n ∧ n ≤ 16) (hd : data.length = 64 * n) (F : List HP) :
    Fn Tryz.prog 36 [.pointer (some ⟨b, 0, none⟩), .int .i64 a, .string (S data)] (wal b W :: F) (Pst (.int .i64 (W.saveE a (chunks data n))) (wal b (W.save a (chunks data n)) :: F)) := by
  have hcl := chunks_length data n
  have e1 : (data.length : Int) / 64 = (n : Int) := by omega
  refine Fn_enter Tryz.func36 rfl Tryz.ntmps36 rfl ?_
  refine R_seq ?_
  refine R_region ?_
  refine J_assign rfl rfl rfl ?_
  refine J_nil ?_
  refine E_then ?_
  refine R_seq ?_
  refine R_region ?_
  refine J_move rfl rfl rfl ?_
  refine J_len_str rfl rfl rfl ?_
  refine J_quo rfl rfl (by omega) (by omega) rfl rfl ?_
  refine J_assign rfl rfl rfl ?_
  refine J_nil3 ?_
  refine E_then ?_
  refine R_seq ?_
  refine R_seq ?_
  refine R_region ?_
  refine J_move rfl rfl rfl ?_
  refine J_cmp rfl rfl rfl rfl rfl ?_
  refine J_move rfl rfl rfl ?_
  refine J_guard_split rfl rfl (fun hh => ?_) (fun hh => ?_)
  simp only [decide_eq_true_eq, decide_eq_false_iff_not, Bool.and_eq_true, Bool.or_eq_true, Bool.not_eq_true', Bool.not_eq_false', beq_iff_eq, bne_iff_ne, beq_eq_false_iff_ne, bne_eq_false_iff_eq, ne_eq, ge_iff_le, gt_iff_lt, Int.not_le, Int.not_lt, Bool.and_eq_false_iff, Bool.or_eq_false_iff, Decidable.not_not] at hh
  exfalso; omega
  simp only [decide_eq_true_eq, decide_eq_false_iff_not, Bool.and_eq_true, Bool.or_eq_true, Bool.not_eq_true', Bool.not_eq_false', beq_iff_eq, bne_iff_ne, beq_eq_false_iff_ne, bne_eq_false_iff_eq, ne_eq, ge_iff_le, gt_iff_lt, Int.not_le, Int.not_lt, Bool.and_eq_false_iff, Bool.or_eq_false_iff, Decidable.not_not] at hh
  refine J_guard rfl rfl rfl ?_
  refine J_move rfl rfl rfl ?_
  refine J_guard rfl rfl rfl ?_
  refine J_cmp rfl rfl rfl rfl rfl ?_
  refine J_pick_false rfl rfl rfl rfl ?_
  refine J_move rfl rfl rfl ?_
  refine J_guard_split rfl rfl (fun hh => ?_) (fun hh => ?_)
  simp only [decide_eq_true_eq, decide_eq_false_iff_not, Bool.and_eq_true, Bool.or_eq_true, Bool.not_eq_true', Bool.not_eq_false', beq_iff_eq, bne_iff_ne, beq_eq_false_iff_ne, bne_eq_false_iff_eq, ne_eq, ge_iff_le, gt_iff_lt, Int.not_le, Int.not_lt, Bool.and_eq_false_iff, Bool.or_eq_false_iff, Decidable.not_not] at hh
  exfalso; omega
  simp only [decide_eq_true_eq, decide_eq_false_iff_not, Bool.and_eq_true, Bool.or_eq_true, Bool.not_eq_true', Bool.not_eq_false', beq_iff_eq, bne_iff_ne, beq_eq_false_iff_ne, bne_eq_false_iff_eq, ne_eq, ge_iff_le, gt_iff_lt, Int.not_le, Int.not_lt, Bool.and_eq_false_iff, Bool.or_eq_false_iff, Decidable.not_not] at hh
  refine J_guard rfl rfl rfl ?_
  refine J_move rfl rfl rfl ?_
  refine J_guard rfl rfl rfl ?_
  refine J_ari64 rfl rfl rfl (by omega) rfl rfl ?_
  refine J_guard rfl rfl rfl ?_
  refine J_move rfl rfl rfl ?_
  refine J_guard rfl rfl rfl ?_
  refine J_len_str rfl rfl rfl ?_
  refine J_guard rfl rfl rfl ?_
  refine J_cmp rfl rfl rfl rfl rfl ?_
  refine J_pick_false rfl rfl rfl rfl ?_
  refine J_nil3 ?_
  refine E_then ?_
  refine R_cond rfl (fun hh => ?_) (fun hh => ?_)
  simp only [decide_eq_true_eq, decide_eq_false_iff_not, Bool.and_eq_true, Bool.or_eq_true, Bool.not_eq_true', Bool.not_eq_false', beq_iff_eq, bne_iff_ne, beq_eq_false_iff_ne, bne_eq_false_iff_eq, ne_eq, ge_iff_le, gt_iff_lt, Int.not_le, Int.not_lt, Bool.and_eq_false_iff, Bool.or_eq_false_iff, Decidable.not_not] at hh
  exfalso; omega
  simp only [decide_eq_true_eq, decide_eq_false_iff_not, Bool.and_eq_true, Bool.or_eq_true, Bool.not_eq_true', Bool.not_eq_false', beq_iff_eq, bne_iff_ne, beq_eq_false_iff_ne, bne_eq_false_iff_eq, ne_eq, ge_iff_le, gt_iff_lt, Int.not_le, Int.not_lt, Bool.and_eq_false_iff, Bool.or_eq_false_iff, Decidable.not_not] at hh
  refine R_skip ?_
  refine E_then ?_
  refine R_seq ?_
  refine R_seq ?_
  refine R_region ?_
  refine J_move rfl rfl rfl ?_
  refine J_move rfl rfl rfl ?_
  refine J_nil2 ?_
  refine E_then ?_
  refine R_block ?_
  rw [e1]
  skip
  refine R_loop (X := {j : Nat // j ≤ n ∧ W.saveE a ((chunks data n).take j) = 0}) (fun j => [(27, .int .i64 (j.1 : Int)), (26, .int .i64 (n : Int)), (0, .pointer (some ⟨b, 0, none⟩)), (1, .int .i64 a), (2, .string (S data))])
    (fun j => wal b (W.save a ((chunks data n).take j.1)) :: F) (fun j => n - j.1) ⟨0, by omega, rfl⟩ (by exact sub_cons rfl (sub_cons rfl (sub_cons rfl (sub_cons rfl (sub_cons rfl sub_nil))))) Gives.refl ?_
  rintro ⟨j, hj, h0⟩
  dsimp only
  refine R_seq ?_
  refine R_region ?_
  refine J_cmp rfl rfl rfl rfl rfl ?_
  refine J_nil1 ?_
  refine E_then ?_
  refine R_seq ?_
  refine R_cond rfl (fun hh => ?_) (fun hh => ?_)
  simp only [decide_eq_true_eq, decide_eq_false_iff_not, Bool.and_eq_true, Bool.or_eq_true, Bool.not_eq_true', Bool.not_eq_false', beq_iff_eq, bne_iff_ne, beq_eq_false_iff_ne, bne_eq_false_iff_eq, ne_eq, ge_iff_le, gt_iff_lt, Int.not_le, Int.not_lt, Bool.and_eq_false_iff, Bool.or_eq_false_iff, Decidable.not_not] at hh
  refine R_skip ?_
  refine E_then ?_
  refine R_seq ?_
  refine R_block ?_
  refine R_seq ?_
  refine R_region ?_
  refine J_move rfl rfl rfl ?_
  refine J_assign rfl rfl rfl ?_
  refine J_nil1 ?_
  refine E_then ?_
  refine R_seq ?_
  refine R_region ?_
  refine J_move rfl rfl rfl ?_
  refine J_move rfl rfl rfl ?_
  refine J_move rfl rfl rfl ?_
  rotate_left
  simp only [decide_eq_true_eq, decide_eq_false_iff_not, Bool.and_eq_true, Bool.or_eq_true, Bool.not_eq_true', Bool.not_eq_false', beq_iff_eq, bne_iff_ne, beq_eq_false_iff_ne, bne_eq_false_iff_eq, ne_eq, ge_iff_le, gt_iff_lt, Int.not_le, Int.not_lt, Bool.and_eq_false_iff, Bool.or_eq_false_iff, Decidable.not_not] at hh
  refine R_exit ?_
  refine E_then_exit ?_
  refine E_then_exit ?_
  refine E_block_hit ?_
  refine E_then ?_
  refine R_seq ?_
  refine R_region ?_
  refine J_assign rfl rfl rfl ?_
  refine J_nil ?_
  refine E_then ?_
  refine R_ret ?_
  rotate_left
  · have hlt : j < n := by omega
    have hb : -9223372036854775808 ≤ a + j ∧ a + j < 9223372036854775808 := by
      rcases Nat.eq_zero_or_pos j with hz | hz
      · subst hz; omega
      · have h1 := save_home _ h0 (j - 1) (by simp [hcl]; omega)
        have := home_lt ok h1
        omega
    have e2 : (data.drop ((j : Int) * 64).toNat).length = data.length - ((j : Int) * 64).toNat := List.length_drop
    refine J_ari64 rfl rfl rfl (by omega) rfl rfl ?_
    refine J_move rfl rfl rfl ?_
    refine J_move rfl rfl rfl ?_
    refine J_ari64 rfl rfl rfl (by omega) rfl rfl ?_
    refine J_slice_lo rfl rfl (by omega) (by omega) rfl rfl ?_
    refine J_slice_hi rfl rfl (by omega) (by omega) rfl rfl ?_
    have e3 : ((data.drop ((j : Int) * 64).toNat).take (Int.toNat 64)) = (chunks data n)[j]'(by omega) := by
      have e4 : ((j : Int) * 64).toNat = 64 * j := by omega
      simp only [chunks, List.getElem_map, List.getElem_range, e4]; rfl
    rw [e3]
    have htk : ((chunks data n).take j).length = j := by simp [hcl]; omega
    have hsn := save_snoc _ W a ((chunks data n)[j]'(by omega)) h0
    rw [htk, ← List.take_succ_eq_append_getElem (by omega)] at hsn
    refine J_callr rfl (wal_Stage b (W.save a ((chunks data n).take j)) (save_ok _ ok a) (a + j) ((chunks data n)[j]'(by omega)) _) (by exact Gives.refl) rfl rfl ?_
    rw [← hsn.1, ← hsn.2]
    by_cases hz : W.saveE a ((chunks data n).take (j + 1)) = 0
    · rw [hz]
      refine J_assign rfl rfl rfl ?_
      refine J_nil3 ?_
      refine E_then ?_
      refine R_seq ?_
      refine R_region ?_
      refine J_move rfl rfl rfl ?_
      refine J_cmp rfl rfl rfl rfl rfl ?_
      refine J_nil2 ?_
      refine E_then ?_
      refine R_cond_false rfl ?_
      refine R_skip ?_
      refine E_block_normal ?_
      refine E_then ?_
      refine R_region ?_
      refine J_ari64 rfl rfl rfl (by omega) rfl rfl ?_
      refine J_moveg rfl rfl rfl ?_
      refine J_nil1 ?_
      exact E_thenI fun a' w he hs => ⟨⟨j + 1, by omega, hz⟩, by simp; omega, he.sub (by exact sub_cons rfl (sub_cons rfl (sub_cons rfl (sub_cons rfl (sub_cons rfl sub_nil))))), hs⟩
    · have hx := save_err _ W a ((chunks data n).drop (j + 1)) hz
      rw [List.take_append_drop] at hx
      rw [hx.1, hx.2]
      refine J_assign rfl rfl rfl ?_
      refine J_nil3 ?_
      refine E_then ?_
      refine R_seq ?_
      refine R_region ?_
      refine J_move rfl rfl rfl ?_
      refine J_cmp rfl rfl rfl rfl rfl ?_
      refine J_nil2 ?_
      refine E_then ?_
      refine R_cond rfl (fun hh => ?_) (fun hh => ?_)
      simp only [decide_eq_true_eq, decide_eq_false_iff_not, Bool.and_eq_true, Bool.or_eq_true, Bool.not_eq_true', Bool.not_eq_false', beq_iff_eq, bne_iff_ne, beq_eq_false_iff_ne, bne_eq_false_iff_eq, ne_eq, ge_iff_le, gt_iff_lt, Int.not_le, Int.not_lt, Bool.and_eq_false_iff, Bool.or_eq_false_iff, Decidable.not_not] at hh
      refine R_seq ?_
      refine R_region ?_
      refine J_move rfl rfl rfl ?_
      refine J_assign rfl rfl rfl ?_
      refine J_nil1 ?_
      refine E_then ?_
      refine R_ret ?_
      refine E_block_ret ?_
      refine E_then_ret ?_
      refine E_then_ret ?_
      refine E_block_ret ?_
      refine E_then_ret ?_
      rotate_left
      simp only [decide_eq_true_eq, decide_eq_false_iff_not, Bool.and_eq_true, Bool.or_eq_true, Bool.not_eq_true', Bool.not_eq_false', beq_iff_eq, bne_iff_ne, beq_eq_false_iff_ne, bne_eq_false_iff_eq, ne_eq, ge_iff_le, gt_iff_lt, Int.not_le, Int.not_lt, Bool.and_eq_false_iff, Bool.or_eq_false_iff, Decidable.not_not] at hh
      exfalso; omega
      apply E_retP Tryz.results36
      · exact Res.tmp rfl (Res.nil)
      · exact Gives.refl
      rfl
  · have ej : j = n := by omega
    subst ej
    have et : (chunks data j).take j = chunks data j := List.take_of_length_le (by omega)
    rw [et] at h0 ⊢
    rw [h0]
    apply E_retP Tryz.results36
    · exact Res.tmp rfl (Res.nil)
    · exact Gives.refl
    rfl
theorem extent_Save0 (v : Option Addr) (a : Int) (data : Bytes) (hl : data.length ≤ 100000) (hd : data.length / 64 < 1 ∨ 16 < data.length / 64 ∨ data.length % 64 ≠ 0) (F : List HP) :
    Fn Tryz.prog 36 [.pointer v, .int .i64 a, .string (S data)] F (Pst (.int .i64 12) F) := by
  refine Fn_enter Tryz.func36 rfl Tryz.ntmps36 rfl ?_
  refine R_seq ?_
  refine R_region ?_
  refine J_assign rfl rfl rfl ?_
  refine J_nil ?_
  refine E_then ?_
  refine R_seq ?_
  refine R_region ?_
  refine J_move rfl rfl rfl ?_
  refine J_len_str rfl rfl rfl ?_
  refine J_quo rfl rfl (by omega) (by omega) rfl rfl ?_
  refine J_assign rfl rfl rfl ?_
  refine J_nil3 ?_
  refine E_then ?_
  refine R_seq ?_
  refine R_seq ?_
  refine R_region ?_
  refine J_move rfl rfl rfl ?_
  refine J_cmp rfl rfl rfl rfl rfl ?_
  refine J_move rfl rfl rfl ?_
  refine J_guard_split rfl rfl (fun hh => ?_) (fun hh => ?_)
  simp only [decide_eq_true_eq, decide_eq_false_iff_not, Bool.and_eq_true, Bool.or_eq_true, Bool.not_eq_true', Bool.not_eq_false', beq_iff_eq, bne_iff_ne, beq_eq_false_iff_ne, bne_eq_false_iff_eq, ne_eq, ge_iff_le, gt_iff_lt, Int.not_le, Int.not_lt, Bool.and_eq_false_iff, Bool.or_eq_false_iff, Decidable.not_not] at hh
  refine J_guard_not rfl rfl rfl rfl rfl rfl ?_
  refine J_guard_not rfl rfl rfl rfl rfl rfl ?_
  refine J_pick_true rfl rfl rfl rfl ?_
  refine J_move rfl rfl rfl ?_
  refine J_guard_not rfl rfl rfl rfl rfl rfl ?_
  refine J_guard_not rfl rfl rfl rfl rfl rfl ?_
  refine J_guard_not rfl rfl rfl rfl rfl rfl ?_
  refine J_guard_not rfl rfl rfl rfl rfl rfl ?_
  refine J_guard_not rfl rfl rfl rfl rfl rfl ?_
  refine J_pick_true rfl rfl rfl rfl ?_
  refine J_nil3 ?_
  refine E_then ?_
  refine R_cond_true rfl ?_
  refine R_seq ?_
  refine R_region ?_
  refine J_assign rfl rfl rfl ?_
  refine J_nil ?_
  refine E_then ?_
  refine R_ret ?_
  refine E_then_ret ?_
  rotate_left
  simp only [decide_eq_true_eq, decide_eq_false_iff_not, Bool.and_eq_true, Bool.or_eq_true, Bool.not_eq_true', Bool.not_eq_false', beq_iff_eq, bne_iff_ne, beq_eq_false_iff_ne, bne_eq_false_iff_eq, ne_eq, ge_iff_le, gt_iff_lt, Int.not_le, Int.not_lt, Bool.and_eq_false_iff, Bool.or_eq_false_iff, Decidable.not_not] at hh
  refine J_guard rfl rfl rfl ?_
  refine J_move rfl rfl rfl ?_
  refine J_guard rfl rfl rfl ?_
  refine J_cmp rfl rfl rfl rfl rfl ?_
  refine J_pick_false rfl rfl rfl rfl ?_
  refine J_move rfl rfl rfl ?_
  refine J_guard_split rfl rfl (fun hh => ?_) (fun hh => ?_)
  simp only [decide_eq_true_eq, decide_eq_false_iff_not, Bool.and_eq_true, Bool.or_eq_true, Bool.not_eq_true', Bool.not_eq_false', beq_iff_eq, bne_iff_ne, beq_eq_false_iff_ne, bne_eq_false_iff_eq, ne_eq, ge_iff_le, gt_iff_lt, Int.not_le, Int.not_lt, Bool.and_eq_false_iff, Bool.or_eq_false_iff, Decidable.not_not] at hh
  refine J_guard_not rfl rfl rfl rfl rfl rfl ?_
  refine J_guard_not rfl rfl rfl rfl rfl rfl ?_
  refine J_guard_not rfl rfl rfl rfl rfl rfl ?_
  refine J_guard_not rfl rfl rfl rfl rfl rfl ?_
  refine J_guard_not rfl rfl rfl rfl rfl rfl ?_
  refine J_pick_true rfl rfl rfl rfl ?_
  refine J_nil3 ?_
  refine E_then ?_
  refine R_cond_true rfl ?_
  refine R_seq ?_
  refine R_region ?_
  refine J_assign rfl rfl rfl ?_
  refine J_nil ?_
  refine E_then ?_
  refine R_ret ?_
  refine E_then_ret ?_
  rotate_left
  simp only [decide_eq_true_eq, decide_eq_false_iff_not, Bool.and_eq_true, Bool.or_eq_true, Bool.not_eq_true', Bool.not_eq_false', beq_iff_eq, bne_iff_ne, beq_eq_false_iff_ne, bne_eq_false_iff_eq, ne_eq, ge_iff_le, gt_iff_lt, Int.not_le, Int.not_lt, Bool.and_eq_false_iff, Bool.or_eq_false_iff, Decidable.not_not] at hh
  refine J_guard rfl rfl rfl ?_
  refine J_move rfl rfl rfl ?_
  refine J_guard rfl rfl rfl ?_
  refine J_ari64 rfl rfl rfl (by omega) rfl rfl ?_
  refine J_guard rfl rfl rfl ?_
  refine J_move rfl rfl rfl ?_
  refine J_guard rfl rfl rfl ?_
  refine J_len_str rfl rfl rfl ?_
  refine J_guard rfl rfl rfl ?_
  refine J_cmp rfl rfl rfl rfl rfl ?_
  refine J_pick_false rfl rfl rfl rfl ?_
  refine J_nil3 ?_
  refine E_then ?_
  refine R_cond rfl (fun hh => ?_) (fun hh => ?_)
  simp only [decide_eq_true_eq, decide_eq_false_iff_not, Bool.and_eq_true, Bool.or_eq_true, Bool.not_eq_true', Bool.not_eq_false', beq_iff_eq, bne_iff_ne, beq_eq_false_iff_ne, bne_eq_false_iff_eq, ne_eq, ge_iff_le, gt_iff_lt, Int.not_le, Int.not_lt, Bool.and_eq_false_iff, Bool.or_eq_false_iff, Decidable.not_not] at hh
  refine R_seq ?_
  refine R_region ?_
  refine J_assign rfl rfl rfl ?_
  refine J_nil ?_
  refine E_then ?_
  refine R_ret ?_
  refine E_then_ret ?_
  rotate_left
  simp only [decide_eq_true_eq, decide_eq_false_iff_not, Bool.and_eq_true, Bool.or_eq_true, Bool.not_eq_true', Bool.not_eq_false', beq_iff_eq, bne_iff_ne, beq_eq_false_iff_ne, bne_eq_false_iff_eq, ne_eq, ge_iff_le, gt_iff_lt, Int.not_le, Int.not_lt, Bool.and_eq_false_iff, Bool.or_eq_false_iff, Decidable.not_not] at hh
  exfalso; omega
  all_goals first
    | (apply E_retP Tryz.results36
       · exact Res.tmp rfl (Res.nil)
       · (repeat (with_reducible exact Gives.refl))
       rfl)
    | (exfalso; omega)
end Go.Proofs.Sol

/- A table: new; its sectors; what it tells of an extent. -/
namespace Go.Proofs.Sol
open Go Go.Proofs
set_option maxRecDepth 100000
set_option maxHeartbeats 4000000
set_option linter.unusedVariables false
set_option linter.unusedSimpArgs false
attribute [local irreducible] R J JW E D Fn Y clf mpI own Sat Exit.then Exit.inBlock bodyPost bodyPostM Code.wpIn wpL
/-- A table over a log (or over none). -/
abbrev tbl (t : Nat) (v : Option Addr) (c : Cfg) : HP := cl t 197 [.pointer v, .int .i64 c.E, .int .i64 c.S, .int .i64 c.L]
theorem table_New (v : Option Addr) (c : Cfg) (F : List HP) : Fn Tryz.prog 64 [.pointer v, cfgV c] F (fun r w => ∃ t, r = .pointer (some ⟨t, 0, none⟩) ∧ Sat w (tbl t v c :: F)) := by
  refine Fn_enter Tryz.func64 rfl Tryz.ntmps64 rfl ?_
  refine R_seq ?_
  refine R_region ?_
  refine J_boxA rfl rfl rfl ?_; intro
  refine J_assign rfl rfl rfl ?_
  refine J_nil ?_
  refine E_then ?_
  refine R_seq ?_
  refine R_region ?_
  refine J_move rfl rfl rfl ?_
  refine J_loadA rfl rfl rfl rfl ?_
  refine J_build rfl rfl rfl rfl ?_
  refine J_boxA rfl rfl rfl ?_; intro
  refine J_assign rfl rfl rfl ?_
  refine J_nil3 ?_
  refine E_then ?_
  refine R_ret ?_
  apply E_ret Tryz.results64
  · exact Res.tmp rfl (Res.nil)
  · intro w s
    exact ⟨_, rfl, s.gives (by exact Gives.cons Take.here (Gives.drop Gives.refl))⟩
/-- What the table's sector of an extent says: its entries; what is wrong. -/
noncomputable def Wl.tbP (W : Wl) (n : Int) : Ent × Ent := if W.rdE (2 + n / 2) = 0 then (entGet (W.rd (2 + n / 2))).1 else (ent0, ent0)
noncomputable def Wl.tbE (W : Wl) (n : Int) : Int := if W.rdE (2 + n / 2) = 0 then (if (entGet (W.rd (2 + n / 2))).2 = 0 then 0 else 32) else W.rdE (2 + n / 2)
theorem table_sector (t b : Nat) (W : Wl) (hk : W.k < 100000000) (c : Cfg) (n : Int) (h : chk c n c.E = 0) (F : List HP) :
    Fn Tryz.prog 137 [.pointer (some ⟨t, 0, none⟩), .int .i64 n] (tbl t (some ⟨b, 0, none⟩) c :: wal b W :: F)
      (Pst (.tuple #[.int .i64 (2 + n / 2), .int .i64 (n % 2), pairV (W.tbP n), .int .i64 (W.tbE n)]) (tbl t (some ⟨b, 0, none⟩) c :: wal b { W with k := W.k + 1 } :: F)) := by
  refine Fn_enter Tryz.func137 rfl Tryz.ntmps137 rfl ?_
  refine R_seq ?_
  refine R_region ?_
  refine J_assign rfl rfl rfl ?_
  refine J_assign rfl rfl rfl ?_
  refine J_alloc rfl rfl ?_; intro
  refine J_assign rfl rfl rfl ?_
  refine J_nil ?_
  refine E_then ?_
  refine R_seq ?_
  refine R_seq ?_
  refine R_region ?_
  refine J_move rfl rfl rfl ?_
  refine J_nilCheck rfl rfl rfl ?_
  refine J_fieldAddr0 rfl rfl rfl ?_
  refine J_loadA rfl rfl rfl rfl ?_
  refine J_move rfl rfl rfl ?_
  rename_i t6
  refine J_callr rfl (layout_Table c n _) (by exact Gives.refl) rfl rfl ?_
  rw [h, if_pos rfl, if_pos rfl]
  refine J_move rfl rfl rfl ?_
  refine J_extract rfl rfl rfl rfl ?_
  refine J_extract rfl rfl rfl rfl ?_
  refine J_extract rfl rfl rfl rfl ?_
  refine J_assign rfl rfl rfl ?_
  refine J_assign rfl rfl rfl ?_
  refine J_assign rfl rfl rfl ?_
  refine J_nil3 ?_
  refine E_then ?_
  refine R_seq ?_
  refine R_region ?_
  refine J_move rfl rfl rfl ?_
  refine J_cmp rfl rfl rfl rfl rfl ?_
  refine J_nil2 ?_
  refine E_then ?_
  refine R_cond_false rfl ?_
  refine R_skip ?_
  refine E_then ?_
  refine R_seq ?_
  refine R_region ?_
  refine J_move rfl rfl rfl ?_
  refine J_nilCheck rfl rfl rfl ?_
  refine J_fieldAddr0 rfl rfl rfl ?_
  refine J_load rfl rfl rfl rfl ?_
  refine J_move rfl rfl rfl ?_
  refine J_callr rfl (wal_Read b W (2 + n / 2) hk _) (by exact Gives.last (Take.next (Take.next Take.here))) rfl rfl ?_
  unfold Wl.tbP Wl.tbE
  by_cases hr : W.rdE (2 + n / 2) = 0
  · rw [if_pos hr, if_pos hr, hr]
    refine J_move rfl rfl rfl ?_
    refine J_extract rfl rfl rfl rfl ?_
    refine J_extract rfl rfl rfl rfl ?_
    refine J_assign rfl rfl rfl ?_
    refine J_assign rfl rfl rfl ?_
    refine J_nil3 ?_
    refine E_then ?_
    refine R_seq ?_
    refine R_seq ?_
    refine R_region ?_
    refine J_move rfl rfl rfl ?_
    refine J_cmp rfl rfl rfl rfl rfl ?_
    refine J_nil2 ?_
    refine E_then ?_
    refine R_cond_false rfl ?_
    refine R_skip ?_
    refine E_then ?_
    refine R_seq ?_
    refine R_seq ?_
    refine R_region ?_
    refine J_move rfl rfl rfl ?_
    refine J_callr rfl (entry_Get (W.rd (2 + n / 2)) _) (by exact Gives.refl) rfl rfl ?_
    rcases hg : entGet (W.rd (2 + n / 2)) with ⟨⟨⟨a, b', s⟩, ⟨a2, b2, s2⟩⟩, e⟩
    dsimp only [pairV, pairL]
    by_cases he : e = 0
    · rw [if_pos he, he]
      refine J_move rfl rfl rfl ?_
      refine J_extract rfl rfl rfl rfl ?_
      refine J_extract rfl rfl rfl rfl ?_
      refine J_storeA rfl rfl rfl rfl rfl rfl ?_
      refine J_assign rfl rfl rfl ?_
      refine J_nil3 ?_
      refine E_then ?_
      refine R_seq ?_
      refine R_region ?_
      refine J_move rfl rfl rfl ?_
      refine J_cmp rfl rfl rfl rfl rfl ?_
      refine J_nil2 ?_
      refine E_then ?_
      refine R_cond_false rfl ?_
      refine R_skip ?_
      refine E_then ?_
      refine R_seq ?_
      refine R_draw ([cl t6 193 [.int .i64 a, .int .i64 b', .int .i64 s, .int .i64 a2, .int .i64 b2, .int .i64 s2]]) [6, 7] (by kernel_rfl) ?_
      (refine D_lookP (i := 0) rfl (by kernel_rfl) (by exact NP_then NP_body) (by exact Y_move rfl) rfl rfl ?_)
      (refine D_lookP (i := 1) rfl (by kernel_rfl) (by exact NP_then NP_body) (by exact Y_move rfl) rfl rfl ?_)
      (refine D_look (i := 2) rfl (by kernel_rfl) (by exact NP_then NP_body) (by exact Gives.cons (Take.next Take.here) Gives.nil) (by exact Y_loadA rfl rfl) rfl rfl ?_)
      (refine D_lookP (i := 3) rfl (by kernel_rfl) (by exact NP_then NP_body) (by exact Y_move rfl) rfl rfl ?_)
      refine D_try1 (i := 4) (by kernel_rfl) rfl ?_
      refine J_assign rfl rfl rfl ?_
      refine D_next (by exact Gives.cons (Take.next Take.here) Gives.nil) ?_
      refine D_try1 (i := 5) (by kernel_rfl) rfl ?_
      refine J_assign rfl rfl rfl ?_
      refine D_next (by exact Gives.cons (Take.next Take.here) Gives.nil) ?_
      refine D_try1 (i := 6) (by kernel_rfl) rfl ?_
      refine J_storeA rfl rfl rfl rfl rfl rfl ?_
      refine D_last (by kernel_rfl) ?_
      refine D_try1 (i := 7) (by kernel_rfl) rfl ?_
      refine J_assign rfl rfl rfl ?_
      refine D_last (by kernel_rfl) ?_
      (first | refine D_end1 (by kernel_rfl) ?_ | refine D_end (by kernel_rfl) ?_)
      refine E_then ?_
      refine R_ret ?_
      apply E_retP Tryz.results137
      · exact Res.tmp rfl (Res.tmp rfl (Res_cellA rfl rfl (Res.tmp rfl (Res.nil))))
      · exact Gives.cons (Take.next (Take.next Take.here)) (Gives.cons Take.here (Gives.drop Gives.refl))
      rfl
    · rw [if_neg he]
      refine J_move rfl rfl rfl ?_
      refine J_extract rfl rfl rfl rfl ?_
      refine J_extract rfl rfl rfl rfl ?_
      refine J_storeA rfl rfl rfl rfl rfl rfl ?_
      refine J_assign rfl rfl rfl ?_
      refine J_nil3 ?_
      refine E_then ?_
      refine R_seq ?_
      refine R_region ?_
      refine J_move rfl rfl rfl ?_
      refine J_cmp rfl rfl rfl rfl rfl ?_
      refine J_nil2 ?_
      refine E_then ?_
      refine R_cond rfl (fun hh => ?_) (fun hh => ?_)
      simp only [decide_eq_true_eq, decide_eq_false_iff_not, Bool.and_eq_true, Bool.or_eq_true, Bool.not_eq_true', Bool.not_eq_false', beq_iff_eq, bne_iff_ne, beq_eq_false_iff_ne, bne_eq_false_iff_eq, ne_eq, ge_iff_le, gt_iff_lt, Int.not_le, Int.not_lt, Bool.and_eq_false_iff, Bool.or_eq_false_iff, Decidable.not_not] at hh
      refine R_region ?_
      refine J_assign rfl rfl rfl ?_
      refine J_nil ?_
      refine E_then ?_
      refine R_seq ?_
      rotate_left
      simp only [decide_eq_true_eq, decide_eq_false_iff_not, Bool.and_eq_true, Bool.or_eq_true, Bool.not_eq_true', Bool.not_eq_false', beq_iff_eq, bne_iff_ne, beq_eq_false_iff_ne, bne_eq_false_iff_eq, ne_eq, ge_iff_le, gt_iff_lt, Int.not_le, Int.not_lt, Bool.and_eq_false_iff, Bool.or_eq_false_iff, Decidable.not_not] at hh
      exfalso; omega
      refine R_draw ([cl t6 193 [.int .i64 a, .int .i64 b', .int .i64 s, .int .i64 a2, .int .i64 b2, .int .i64 s2]]) [6, 7] (by kernel_rfl) ?_
      (refine D_lookP (i := 0) rfl (by kernel_rfl) (by exact NP_then NP_body) (by exact Y_move rfl) rfl rfl ?_)
      (refine D_lookP (i := 1) rfl (by kernel_rfl) (by exact NP_then NP_body) (by exact Y_move rfl) rfl rfl ?_)
      (refine D_look (i := 2) rfl (by kernel_rfl) (by exact NP_then NP_body) (by exact Gives.cons (Take.next Take.here) Gives.nil) (by exact Y_loadA rfl rfl) rfl rfl ?_)
      (refine D_lookP (i := 3) rfl (by kernel_rfl) (by exact NP_then NP_body) (by exact Y_move rfl) rfl rfl ?_)
      refine D_try1 (i := 4) (by kernel_rfl) rfl ?_
      refine J_assign rfl rfl rfl ?_
      refine D_next (by exact Gives.cons (Take.next Take.here) Gives.nil) ?_
      refine D_try1 (i := 5) (by kernel_rfl) rfl ?_
      refine J_assign rfl rfl rfl ?_
      refine D_next (by exact Gives.cons (Take.next Take.here) Gives.nil) ?_
      refine D_try1 (i := 6) (by kernel_rfl) rfl ?_
      refine J_storeA rfl rfl rfl rfl rfl rfl ?_
      refine D_last (by kernel_rfl) ?_
      refine D_try1 (i := 7) (by kernel_rfl) rfl ?_
      refine J_assign rfl rfl rfl ?_
      refine D_last (by kernel_rfl) ?_
      (first | refine D_end1 (by kernel_rfl) ?_ | refine D_end (by kernel_rfl) ?_)
      refine E_then ?_
      refine R_ret ?_
      apply E_retP Tryz.results137
      · exact Res.tmp rfl (Res.tmp rfl (Res_cellA rfl rfl (Res.tmp rfl (Res.nil))))
      · exact Gives.cons (Take.next (Take.next Take.here)) (Gives.cons Take.here (Gives.drop Gives.refl))
      rfl
  · rw [if_neg hr, if_neg hr]
    generalize W.rdE (2 + n / 2) = e at hr ⊢
    refine J_move rfl rfl rfl ?_
    refine J_extract rfl rfl rfl rfl ?_
    refine J_extract rfl rfl rfl rfl ?_
    refine J_assign rfl rfl rfl ?_
    refine J_assign rfl rfl rfl ?_
    refine J_nil3 ?_
    refine E_then ?_
    refine R_seq ?_
    refine R_seq ?_
    refine R_region ?_
    refine J_move rfl rfl rfl ?_
    refine J_cmp rfl rfl rfl rfl rfl ?_
    refine J_nil2 ?_
    refine E_then ?_
    refine R_cond rfl (fun hh => ?_) (fun hh => ?_)
    simp only [decide_eq_true_eq, decide_eq_false_iff_not, Bool.and_eq_true, Bool.or_eq_true, Bool.not_eq_true', Bool.not_eq_false', beq_iff_eq, bne_iff_ne, beq_eq_false_iff_ne, bne_eq_false_iff_eq, ne_eq, ge_iff_le, gt_iff_lt, Int.not_le, Int.not_lt, Bool.and_eq_false_iff, Bool.or_eq_false_iff, Decidable.not_not] at hh
    refine R_seq ?_
    rotate_left
    simp only [decide_eq_true_eq, decide_eq_false_iff_not, Bool.and_eq_true, Bool.or_eq_true, Bool.not_eq_true', Bool.not_eq_false', beq_iff_eq, bne_iff_ne, beq_eq_false_iff_ne, bne_eq_false_iff_eq, ne_eq, ge_iff_le, gt_iff_lt, Int.not_le, Int.not_lt, Bool.and_eq_false_iff, Bool.or_eq_false_iff, Decidable.not_not] at hh
    exfalso; omega
    refine R_draw ([cl t6 193 [.int .i64 0, .int .i64 0, .int .i64 0, .int .i64 0, .int .i64 0, .int .i64 0]]) [6, 7] (by kernel_rfl) ?_
    (refine D_lookP (i := 0) rfl (by kernel_rfl) (by exact NP_then (NP_then NP_body)) (by exact Y_move rfl) rfl rfl ?_)
    (refine D_lookP (i := 1) rfl (by kernel_rfl) (by exact NP_then (NP_then NP_body)) (by exact Y_move rfl) rfl rfl ?_)
    (refine D_look (i := 2) rfl (by kernel_rfl) (by exact NP_then (NP_then NP_body)) (by exact Gives.cons (Take.next Take.here) Gives.nil) (by exact Y_loadA rfl rfl) rfl rfl ?_)
    (refine D_lookP (i := 3) rfl (by kernel_rfl) (by exact NP_then (NP_then NP_body)) (by exact Y_move rfl) rfl rfl ?_)
    refine D_try1 (i := 4) (by kernel_rfl) rfl ?_
    refine J_assign rfl rfl rfl ?_
    refine D_next (by exact Gives.cons (Take.next Take.here) Gives.nil) ?_
    refine D_try1 (i := 5) (by kernel_rfl) rfl ?_
    refine J_assign rfl rfl rfl ?_
    refine D_next (by exact Gives.cons (Take.next Take.here) Gives.nil) ?_
    refine D_try1 (i := 6) (by kernel_rfl) rfl ?_
    refine J_storeA rfl rfl rfl rfl rfl rfl ?_
    refine D_last (by kernel_rfl) ?_
    refine D_try1 (i := 7) (by kernel_rfl) rfl ?_
    refine J_assign rfl rfl rfl ?_
    refine D_last (by kernel_rfl) ?_
    (first | refine D_end1 (by kernel_rfl) ?_ | refine D_end (by kernel_rfl) ?_)
    refine E_then ?_
    refine R_ret ?_
    refine E_then_ret ?_
    apply E_retP Tryz.results137
    · exact Res.tmp rfl (Res.tmp rfl (Res_cellA rfl rfl (Res.tmp rfl (Res.nil))))
    · exact Gives.cons (Take.next (Take.next Take.here)) (Gives.cons Take.here (Gives.drop Gives.refl))
    rfl
/-- .. where there is no such extent, or no log. -/
theorem table_sectorN (t : Nat) (v : Option Addr) (c : Cfg) (n : Int) (h : chk c n c.E ≠ 0 ∨ v = none) (F : List HP) :
    Fn Tryz.prog 137 [.pointer (some ⟨t, 0, none⟩), .int .i64 n] (tbl t v c :: F)
      (fun r w => ∃ a k : Int, r = .tuple #[.int .i64 a, .int .i64 k, pairV (ent0, ent0), .int .i64 (if chk c n c.E = 0 then 10 else chk c n c.E)] ∧ Sat w (tbl t v c :: F)) := by
  refine Fn_enter Tryz.func137 rfl Tryz.ntmps137 rfl ?_
  refine R_seq ?_
  refine R_region ?_
  refine J_assign rfl rfl rfl ?_
  refine J_assign rfl rfl rfl ?_
  refine J_alloc rfl rfl ?_; intro
  refine J_assign rfl rfl rfl ?_
  refine J_nil ?_
  refine E_then ?_
  refine R_seq ?_
  refine R_seq ?_
  refine R_region ?_
  refine J_move rfl rfl rfl ?_
  refine J_nilCheck rfl rfl rfl ?_
  refine J_fieldAddr0 rfl rfl rfl ?_
  refine J_loadA rfl rfl rfl rfl ?_
  refine J_move rfl rfl rfl ?_
  rename_i t6
  refine J_callr rfl (layout_Table c n _) (by exact Gives.refl) rfl rfl ?_
  by_cases hc : chk c n c.E = 0
  · obtain rfl : v = none := by rcases h with h | h; exact absurd hc h; exact h
    rw [hc, if_pos rfl, if_pos rfl, if_pos rfl]
    refine J_move rfl rfl rfl ?_
    refine J_extract rfl rfl rfl rfl ?_
    refine J_extract rfl rfl rfl rfl ?_
    refine J_extract rfl rfl rfl rfl ?_
    refine J_assign rfl rfl rfl ?_
    refine J_assign rfl rfl rfl ?_
    refine J_assign rfl rfl rfl ?_
    refine J_nil3 ?_
    refine E_then ?_
    refine R_seq ?_
    refine R_region ?_
    refine J_move rfl rfl rfl ?_
    refine J_cmp rfl rfl rfl rfl rfl ?_
    refine J_nil2 ?_
    refine E_then ?_
    refine R_cond_false rfl ?_
    refine R_skip ?_
    refine E_then ?_
    refine R_seq ?_
    refine R_region ?_
    refine J_move rfl rfl rfl ?_
    refine J_nilCheck rfl rfl rfl ?_
    refine J_fieldAddr0 rfl rfl rfl ?_
    refine J_load rfl rfl rfl rfl ?_
    refine J_move rfl rfl rfl ?_
    refine J_callr rfl (wal_Read0 (2 + n / 2) _) (by exact Gives.refl) rfl rfl ?_
    refine J_move rfl rfl rfl ?_
    refine J_extract rfl rfl rfl rfl ?_
    refine J_extract rfl rfl rfl rfl ?_
    refine J_assign rfl rfl rfl ?_
    refine J_assign rfl rfl rfl ?_
    refine J_nil3 ?_
    refine E_then ?_
    refine R_seq ?_
    refine R_seq ?_
    refine R_region ?_
    refine J_move rfl rfl rfl ?_
    refine J_cmp rfl rfl rfl rfl rfl ?_
    refine J_nil2 ?_
    refine E_then ?_
    refine R_cond_true rfl ?_
    refine R_seq ?_
    refine R_draw ([cl t6 193 [.int .i64 0, .int .i64 0, .int .i64 0, .int .i64 0, .int .i64 0, .int .i64 0]]) [6, 7] (by kernel_rfl) ?_
    (refine D_lookP (i := 0) rfl (by kernel_rfl) (by exact NP_then (NP_then NP_body)) (by exact Y_move rfl) rfl rfl ?_)
    (refine D_lookP (i := 1) rfl (by kernel_rfl) (by exact NP_then (NP_then NP_body)) (by exact Y_move rfl) rfl rfl ?_)
    (refine D_look (i := 2) rfl (by kernel_rfl) (by exact NP_then (NP_then NP_body)) (by exact Gives.cons Take.here Gives.nil) (by exact Y_loadA rfl rfl) rfl rfl ?_)
    (refine D_lookP (i := 3) rfl (by kernel_rfl) (by exact NP_then (NP_then NP_body)) (by exact Y_move rfl) rfl rfl ?_)
    refine D_try1 (i := 4) (by kernel_rfl) rfl ?_
    refine J_assign rfl rfl rfl ?_
    refine D_next (by exact Gives.cons Take.here Gives.nil) ?_
    refine D_try1 (i := 5) (by kernel_rfl) rfl ?_
    refine J_assign rfl rfl rfl ?_
    refine D_next (by exact Gives.cons Take.here Gives.nil) ?_
    refine D_try1 (i := 6) (by kernel_rfl) rfl ?_
    refine J_storeA rfl rfl rfl rfl rfl rfl ?_
    refine D_last (by kernel_rfl) ?_
    refine D_try1 (i := 7) (by kernel_rfl) rfl ?_
    refine J_assign rfl rfl rfl ?_
    refine D_last (by kernel_rfl) ?_
    (first | refine D_end1 (by kernel_rfl) ?_ | refine D_end (by kernel_rfl) ?_)
    refine E_then ?_
    refine R_ret ?_
    refine E_then_ret ?_
    apply E_ret Tryz.results137
    · exact Res.tmp rfl (Res.tmp rfl (Res_cellA rfl rfl (Res.tmp rfl (Res.nil))))
    · intro w s
      exact ⟨_, _, rfl, s.gives (by exact Gives.cons (Take.next Take.here) (Gives.drop Gives.refl))⟩
  · rw [if_neg hc, if_neg hc, if_neg hc]
    generalize chk c n c.E = e at hc ⊢
    refine J_move rfl rfl rfl ?_
    refine J_extract rfl rfl rfl rfl ?_
    refine J_extract rfl rfl rfl rfl ?_
    refine J_extract rfl rfl rfl rfl ?_
    refine J_assign rfl rfl rfl ?_
    refine J_assign rfl rfl rfl ?_
    refine J_assign rfl rfl rfl ?_
    refine J_nil3 ?_
    refine E_then ?_
    refine R_seq ?_
    refine R_region ?_
    refine J_move rfl rfl rfl ?_
    refine J_cmp rfl rfl rfl rfl rfl ?_
    refine J_nil2 ?_
    refine E_then ?_
    refine R_cond rfl (fun hh => ?_) (fun hh => ?_)
    simp only [decide_eq_true_eq, decide_eq_false_iff_not, Bool.and_eq_true, Bool.or_eq_true, Bool.not_eq_true', Bool.not_eq_false', beq_iff_eq, bne_iff_ne, beq_eq_false_iff_ne, bne_eq_false_iff_eq, ne_eq, ge_iff_le, gt_iff_lt, Int.not_le, Int.not_lt, Bool.and_eq_false_iff, Bool.or_eq_false_iff, Decidable.not_not] at hh
    refine R_seq ?_
    rotate_left
    simp only [decide_eq_true_eq, decide_eq_false_iff_not, Bool.and_eq_true, Bool.or_eq_true, Bool.not_eq_true', Bool.not_eq_false', beq_iff_eq, bne_iff_ne, beq_eq_false_iff_ne, bne_eq_false_iff_eq, ne_eq, ge_iff_le, gt_iff_lt, Int.not_le, Int.not_lt, Bool.and_eq_false_iff, Bool.or_eq_false_iff, Decidable.not_not] at hh
    exfalso; omega
    refine R_draw ([cl t6 193 [.int .i64 0, .int .i64 0, .int .i64 0, .int .i64 0, .int .i64 0, .int .i64 0]]) [6, 7] (by kernel_rfl) ?_
    (refine D_lookP (i := 0) rfl (by kernel_rfl) (by exact NP_then (NP_then NP_body)) (by exact Y_move rfl) rfl rfl ?_)
    (refine D_lookP (i := 1) rfl (by kernel_rfl) (by exact NP_then (NP_then NP_body)) (by exact Y_move rfl) rfl rfl ?_)
    (refine D_look (i := 2) rfl (by kernel_rfl) (by exact NP_then (NP_then NP_body)) (by exact Gives.cons Take.here Gives.nil) (by exact Y_loadA rfl rfl) rfl rfl ?_)
    (refine D_lookP (i := 3) rfl (by kernel_rfl) (by exact NP_then (NP_then NP_body)) (by exact Y_move rfl) rfl rfl ?_)
    refine D_try1 (i := 4) (by kernel_rfl) rfl ?_
    refine J_assign rfl rfl rfl ?_
    refine D_next (by exact Gives.cons Take.here Gives.nil) ?_
    refine D_try1 (i := 5) (by kernel_rfl) rfl ?_
    refine J_assign rfl rfl rfl ?_
    refine D_next (by exact Gives.cons Take.here Gives.nil) ?_
    refine D_try1 (i := 6) (by kernel_rfl) rfl ?_
    refine J_storeA rfl rfl rfl rfl rfl rfl ?_
    refine D_last (by kernel_rfl) ?_
    refine D_try1 (i := 7) (by kernel_rfl) rfl ?_
    refine J_assign rfl rfl rfl ?_
    refine D_last (by kernel_rfl) ?_
    (first | refine D_end1 (by kernel_rfl) ?_ | refine D_end (by kernel_rfl) ?_)
    refine E_then ?_
    refine R_ret ?_
    refine E_then_ret ?_
    apply E_ret Tryz.results137
    · exact Res.tmp rfl (Res.tmp rfl (Res_cellA rfl rfl (Res.tmp rfl (Res.nil))))
    · intro w s
      exact ⟨_, _, rfl, s.gives (by exact Gives.cons (Take.next Take.here) (Gives.drop Gives.refl))⟩
def pick2 (n : Int) (p : Ent × Ent) : Ent := if n % 2 = 0 then p.1 else p.2
theorem table_Get (t b : Nat) (W : Wl) (hk : W.k < 100000000) (c : Cfg) (n : Int) (h : chk c n c.E = 0) (F : List HP) :
    Fn Tryz.prog 62 [.pointer (some ⟨t, 0, none⟩), .int .i64 n] (tbl t (some ⟨b, 0, none⟩) c :: wal b W :: F)
      (Pst (.tuple #[entV (if W.tbE n = 0 then pick2 n (W.tbP n) else ent0), .int .i64 (W.tbE n)]) (tbl t (some ⟨b, 0, none⟩) c :: wal b { W with k := W.k + 1 } :: F)) := by
  refine Fn_enter Tryz.func62 rfl Tryz.ntmps62 rfl ?_
  refine R_seq ?_
  refine R_region ?_
  refine J_alloc rfl rfl ?_; intro
  refine J_assign rfl rfl rfl ?_
  refine J_nil ?_
  refine E_then ?_
  refine R_seq ?_
  refine R_seq ?_
  refine R_region ?_
  refine J_move rfl rfl rfl ?_
  refine J_ptr_nil rfl rfl rfl rfl ?_
  refine J_nil2 ?_
  refine E_then ?_
  refine R_cond_false rfl ?_
  refine R_skip ?_
  refine E_then ?_
  refine R_seq ?_
  refine R_region ?_
  refine J_move rfl rfl rfl ?_
  refine J_move rfl rfl rfl ?_
  refine J_callr rfl (table_sector t b W hk c n h _) (by exact Gives.cons (Take.next Take.here) (Gives.last (Take.next Take.here))) rfl rfl ?_
  generalize W.tbP n = p
  obtain ⟨⟨a, b', s⟩, ⟨a2, b2, s2⟩⟩ := p
  dsimp only [pairV, pairL]
  generalize W.tbE n = e
  by_cases he : e = 0
  · rw [if_pos he, he]
    unfold pick2
    rcases Int.emod_two_eq n with h2 | h2
    · rw [h2, if_pos rfl]
      refine J_move rfl rfl rfl ?_
      refine J_extract rfl rfl rfl rfl ?_
      refine J_extract rfl rfl rfl rfl ?_
      refine J_extract rfl rfl rfl rfl ?_
      refine J_extract rfl rfl rfl rfl ?_
      refine J_alloc rfl rfl ?_; intro
      refine J_assign rfl rfl rfl ?_
      refine J_assign rfl rfl rfl ?_
      refine J_storeA rfl rfl rfl rfl rfl rfl ?_
      refine J_assign rfl rfl rfl ?_
      refine J_nil3 ?_
      refine E_then ?_
      refine R_seq ?_
      refine R_seq ?_
      refine R_region ?_
      refine J_move rfl rfl rfl ?_
      refine J_cmp rfl rfl rfl rfl rfl ?_
      refine J_nil2 ?_
      refine E_then ?_
      refine R_cond_false rfl ?_
      refine R_skip ?_
      refine E_then ?_
      refine R_seq ?_
      refine R_region ?_
      refine J_move rfl rfl rfl ?_
      refine J_indexAddrA rfl rfl (by omega) (by omega) rfl rfl ?_
      refine J_loadA rfl rfl rfl rfl ?_
      refine J_storeA rfl rfl rfl rfl rfl rfl ?_
      refine J_assign rfl rfl rfl ?_
      refine J_nil3 ?_
      refine E_then ?_
      refine R_ret ?_
      apply E_retP Tryz.results62
      · exact Res_cellA rfl rfl (Res.tmp rfl (Res.nil))
      · exact Gives.cons (Take.next Take.here) (Gives.cons (Take.next Take.here) (Gives.drop (Gives.drop Gives.refl)))
      rfl
    · rw [h2, if_neg (by omega)]
      refine J_move rfl rfl rfl ?_
      refine J_extract rfl rfl rfl rfl ?_
      refine J_extract rfl rfl rfl rfl ?_
      refine J_extract rfl rfl rfl rfl ?_
      refine J_extract rfl rfl rfl rfl ?_
      refine J_alloc rfl rfl ?_; intro
      refine J_assign rfl rfl rfl ?_
      refine J_assign rfl rfl rfl ?_
      refine J_storeA rfl rfl rfl rfl rfl rfl ?_
      refine J_assign rfl rfl rfl ?_
      refine J_nil3 ?_
      refine E_then ?_
      refine R_seq ?_
      refine R_seq ?_
      refine R_region ?_
      refine J_move rfl rfl rfl ?_
      refine J_cmp rfl rfl rfl rfl rfl ?_
      refine J_nil2 ?_
      refine E_then ?_
      refine R_cond_false rfl ?_
      refine R_skip ?_
      refine E_then ?_
      refine R_seq ?_
      refine R_region ?_
      refine J_move rfl rfl rfl ?_
      refine J_indexAddrA rfl rfl (by omega) (by omega) rfl rfl ?_
      refine J_loadA rfl rfl rfl rfl ?_
      refine J_storeA rfl rfl rfl rfl rfl rfl ?_
      refine J_assign rfl rfl rfl ?_
      refine J_nil3 ?_
      refine E_then ?_
      refine R_ret ?_
      apply E_retP Tryz.results62
      · exact Res_cellA rfl rfl (Res.tmp rfl (Res.nil))
      · exact Gives.cons (Take.next Take.here) (Gives.cons (Take.next Take.here) (Gives.drop (Gives.drop Gives.refl)))
      rfl
  · rw [if_neg he]
    refine J_move rfl rfl rfl ?_
    refine J_extract rfl rfl rfl rfl ?_
    refine J_extract rfl rfl rfl rfl ?_
    refine J_extract rfl rfl rfl rfl ?_
    refine J_extract rfl rfl rfl rfl ?_
    refine J_alloc rfl rfl ?_; intro
    refine J_assign rfl rfl rfl ?_
    refine J_assign rfl rfl rfl ?_
    refine J_storeA rfl rfl rfl rfl rfl rfl ?_
    refine J_assign rfl rfl rfl ?_
    refine J_nil3 ?_
    refine E_then ?_
    refine R_seq ?_
    refine R_seq ?_
    refine R_region ?_
    refine J_move rfl rfl rfl ?_
    refine J_cmp rfl rfl rfl rfl rfl ?_
    refine J_nil2 ?_
    refine E_then ?_
    refine R_cond rfl (fun hh => ?_) (fun hh => ?_)
    simp only [decide_eq_true_eq, decide_eq_false_iff_not, Bool.and_eq_true, Bool.or_eq_true, Bool.not_eq_true', Bool.not_eq_false', beq_iff_eq, bne_iff_ne, beq_eq_false_iff_ne, bne_eq_false_iff_eq, ne_eq, ge_iff_le, gt_iff_lt, Int.not_le, Int.not_lt, Bool.and_eq_false_iff, Bool.or_eq_false_iff, Decidable.not_not] at hh
    refine R_seq ?_
    refine R_region ?_
    refine J_build rfl rfl rfl rfl ?_
    refine J_move rfl rfl rfl ?_
    refine J_storeA rfl rfl rfl rfl rfl rfl ?_
    refine J_assign rfl rfl rfl ?_
    refine J_nil2 ?_
    refine E_then ?_
    refine R_ret ?_
    refine E_then_ret ?_
    rotate_left
    simp only [decide_eq_true_eq, decide_eq_false_iff_not, Bool.and_eq_true, Bool.or_eq_true, Bool.not_eq_true', Bool.not_eq_false', beq_iff_eq, bne_iff_ne, beq_eq_false_iff_ne, bne_eq_false_iff_eq, ne_eq, ge_iff_le, gt_iff_lt, Int.not_le, Int.not_lt, Bool.and_eq_false_iff, Bool.or_eq_false_iff, Decidable.not_not] at hh
    exfalso; omega
    apply E_retP Tryz.results62
    · exact Res_cellA rfl rfl (Res.tmp rfl (Res.nil))
    · exact Gives.cons (Take.next Take.here) (Gives.cons (Take.next Take.here) (Gives.drop (Gives.drop Gives.refl)))
    rfl
theorem table_GetN (t : Nat) (v : Option Addr) (c : Cfg) (n : Int) (h : chk c n c.E ≠ 0 ∨ v = none) (F : List HP) :
    Fn Tryz.prog 62 [.pointer (some ⟨t, 0, none⟩), .int .i64 n] (tbl t v c :: F)
      (Pst (.tuple #[entV ent0, .int .i64 (if chk c n c.E = 0 then 10 else chk c n c.E)]) (tbl t v c :: F)) := by
  refine Fn_enter Tryz.func62 rfl Tryz.ntmps62 rfl ?_
  refine R_seq ?_
  refine R_region ?_
  refine J_alloc rfl rfl ?_; intro
  refine J_assign rfl rfl rfl ?_
  refine J_nil ?_
  refine E_then ?_
  refine R_seq ?_
  refine R_seq ?_
  refine R_region ?_
  refine J_move rfl rfl rfl ?_
  refine J_ptr_nil rfl rfl rfl rfl ?_
  refine J_nil2 ?_
  refine E_then ?_
  refine R_cond_false rfl ?_
  refine R_skip ?_
  refine E_then ?_
  refine R_seq ?_
  refine R_region ?_
  refine J_move rfl rfl rfl ?_
  refine J_move rfl rfl rfl ?_
  refine J_callm rfl (table_sectorN t v c n h _) (by exact Gives.last (Take.next Take.here)) rfl rfl ?_
  rintro v' w ⟨a, k, rfl, s0⟩
  refine JW.of s0 ?_
  have he : (if chk c n c.E = 0 then 10 else chk c n c.E) ≠ 0 := by split <;> omega
  generalize (if chk c n c.E = 0 then 10 else chk c n c.E) = e at he ⊢
  dsimp only [pairV, pairL]
  refine J_move rfl rfl rfl ?_
  refine J_extract rfl rfl rfl rfl ?_
  refine J_extract rfl rfl rfl rfl ?_
  refine J_extract rfl rfl rfl rfl ?_
  refine J_extract rfl rfl rfl rfl ?_
  refine J_alloc rfl rfl ?_; intro
  refine J_assign rfl rfl rfl ?_
  refine J_assign rfl rfl rfl ?_
  refine J_storeA rfl rfl rfl rfl rfl rfl ?_
  refine J_assign rfl rfl rfl ?_
  refine J_nil3 ?_
  refine E_then ?_
  refine R_seq ?_
  refine R_seq ?_
  refine R_region ?_
  refine J_move rfl rfl rfl ?_
  refine J_cmp rfl rfl rfl rfl rfl ?_
  refine J_nil2 ?_
  refine E_then ?_
  refine R_cond rfl (fun hh => ?_) (fun hh => ?_)
  simp only [decide_eq_true_eq, decide_eq_false_iff_not, Bool.and_eq_true, Bool.or_eq_true, Bool.not_eq_true', Bool.not_eq_false', beq_iff_eq, bne_iff_ne, beq_eq_false_iff_ne, bne_eq_false_iff_eq, ne_eq, ge_iff_le, gt_iff_lt, Int.not_le, Int.not_lt, Bool.and_eq_false_iff, Bool.or_eq_false_iff, Decidable.not_not] at hh
  refine R_seq ?_
  refine R_region ?_
  refine J_build rfl rfl rfl rfl ?_
  refine J_move rfl rfl rfl ?_
  refine J_storeA rfl rfl rfl rfl rfl rfl ?_
  refine J_assign rfl rfl rfl ?_
  refine J_nil2 ?_
  refine E_then ?_
  refine R_ret ?_
  refine E_then_ret ?_
  rotate_left
  simp only [decide_eq_true_eq, decide_eq_false_iff_not, Bool.and_eq_true, Bool.or_eq_true, Bool.not_eq_true', Bool.not_eq_false', beq_iff_eq, bne_iff_ne, beq_eq_false_iff_ne, bne_eq_false_iff_eq, ne_eq, ge_iff_le, gt_iff_lt, Int.not_le, Int.not_lt, Bool.and_eq_false_iff, Bool.or_eq_false_iff, Decidable.not_not] at hh
  exfalso; omega
  apply E_retP Tryz.results62
  · exact Res_cellA rfl rfl (Res.tmp rfl (Res.nil))
  · exact Gives.cons (Take.next Take.here) (Gives.drop (Gives.drop Gives.refl))
  rfl
theorem table_Get0 (n : Int) (F : List HP) : Fn Tryz.prog 62 [.pointer none, .int .i64 n] F (Pst (.tuple #[entV ent0, .int .i64 10]) F) := by
  refine Fn_enter Tryz.func62 rfl Tryz.ntmps62 rfl ?_
  refine R_seq ?_
  refine R_region ?_
  refine J_alloc rfl rfl ?_; intro
  refine J_assign rfl rfl rfl ?_
  refine J_nil ?_
  refine E_then ?_
  refine R_seq ?_
  refine R_seq ?_
  refine R_region ?_
  refine J_move rfl rfl rfl ?_
  refine J_ptr_nil rfl rfl rfl rfl ?_
  refine J_nil2 ?_
  refine E_then ?_
  refine R_cond_true rfl ?_
  refine R_seq ?_
  refine R_region ?_
  refine J_build rfl rfl rfl rfl ?_
  refine J_storeA rfl rfl rfl rfl rfl rfl ?_
  refine J_assign rfl rfl rfl ?_
  refine J_nil1 ?_
  refine E_then ?_
  refine R_ret ?_
  refine E_then_ret ?_
  apply E_retP Tryz.results62
  · exact Res_cellA rfl rfl (Res.tmp rfl (Res.nil))
  · exact Gives.drop Gives.refl
  rfl
theorem table_All0 (F : List HP) : Fn Tryz.prog 63 [.pointer none] F (Pst (.tuple #[.slice none 0 0, .int .i64 10]) F) := by
  refine Fn_enter Tryz.func63 rfl Tryz.ntmps63 rfl ?_
  refine R_seq ?_
  refine R_region ?_
  refine J_assign rfl rfl rfl ?_
  refine J_assign rfl rfl rfl ?_
  refine J_nil ?_
  refine E_then ?_
  refine R_seq ?_
  refine R_seq ?_
  refine R_region ?_
  refine J_move rfl rfl rfl ?_
  refine J_ptr_nil rfl rfl rfl rfl ?_
  refine J_nil2 ?_
  refine E_then ?_
  refine R_cond_true rfl ?_
  refine R_seq ?_
  refine R_region ?_
  refine J_assign rfl rfl rfl ?_
  refine J_assign rfl rfl rfl ?_
  refine J_nil ?_
  refine E_then ?_
  refine R_ret ?_
  refine E_then_ret ?_
  apply E_retP Tryz.results63
  · exact Res.tmp rfl (Res.tmp rfl (Res.nil))
  · exact Gives.refl
  rfl
theorem table_Put0 (n : Int) (x : Ent) (F : List HP) : Fn Tryz.prog 66 [.pointer none, .int .i64 n, entV x] F (Pst (.int .i64 10) F) := by
  refine Fn_enter Tryz.func66 rfl Tryz.ntmps66 rfl ?_
  refine R_seq ?_
  refine R_region ?_
  refine J_boxA rfl rfl rfl ?_; intro
  refine J_assign rfl rfl rfl ?_
  refine J_nil ?_
  refine E_then ?_
  refine R_seq ?_
  refine R_seq ?_
  refine R_region ?_
  refine J_move rfl rfl rfl ?_
  refine J_ptr_nil rfl rfl rfl rfl ?_
  refine J_nil2 ?_
  refine E_then ?_
  refine R_cond_true rfl ?_
  refine R_seq ?_
  refine R_region ?_
  refine J_assign rfl rfl rfl ?_
  refine J_nil ?_
  refine E_then ?_
  refine R_ret ?_
  refine E_then_ret ?_
  apply E_retP Tryz.results66
  · exact Res.tmp rfl (Res.nil)
  · exact Gives.drop Gives.refl
  rfl
theorem table_Format0 (F : List HP) : Fn Tryz.prog 67 [.pointer none] F (Pst (.int .i64 10) F) := by
  refine Fn_enter Tryz.func67 rfl Tryz.ntmps67 rfl ?_
  refine R_seq ?_
  refine R_region ?_
  refine J_assign rfl rfl rfl ?_
  refine J_nil ?_
  refine E_then ?_
  refine R_seq ?_
  refine R_seq ?_
  refine R_region ?_
  refine J_move rfl rfl rfl ?_
  refine J_ptr_nil rfl rfl rfl rfl ?_
  refine J_nil2 ?_
  refine E_then ?_
  refine R_cond_true rfl ?_
  refine R_seq ?_
  refine R_region ?_
  refine J_assign rfl rfl rfl ?_
  refine J_nil ?_
  refine E_then ?_
  refine R_ret ?_
  refine E_then_ret ?_
  apply E_retP Tryz.results67
  · exact Res.tmp rfl (Res.nil)
  · exact Gives.refl
  rfl
/-- An extent's entry, put among those of its sector. -/
def put2 (n : Int) (p : Ent × Ent) (x : Ent) : Ent × Ent := if n % 2 = 0 then (x, p.2) else (p.1, x)
theorem table_Put (t b : Nat) (W : Wl) (ok : WlOk W) (hk : W.k < 100000000) (c : Cfg) (n : Int) (x : Ent) (h : chk c n c.E = 0) (hx : entOk x = true) (hs : W.tbE n = 0) (hp : entOk (W.tbP n).1 = true ∧ entOk (W.tbP n).2 = true) (F : List HP) :
    Fn Tryz.prog 66 [.pointer (some ⟨t, 0, none⟩), .int .i64 n, entV x] (tbl t (some ⟨b, 0, none⟩) c :: wal b W :: F)
      (Pst (.int .i64 (W.stE (2 + n / 2) (entB (put2 n (W.tbP n) x).1 (put2 n (W.tbP n) x).2))) (tbl t (some ⟨b, 0, none⟩) c :: wal b { W.st (2 + n / 2) (entB (put2 n (W.tbP n) x).1 (put2 n (W.tbP n) x).2) with k := W.k + 1 } :: F)) := by
  have hxE : entE x = 0 := by simp [entE, hx]
  have ok1 : WlOk { W with k := W.k + 1 } := ⟨ok.fr, ok.n, ok.many, ok.at_, ok.used, ok.gen, ok.seq, ok.lo, ok.loH, ok.loN, ok.kH, by have := ok.k; dsimp only; omega⟩
  obtain ⟨xa, xb, xs⟩ := x
  refine Fn_enter Tryz.func66 rfl Tryz.ntmps66 rfl ?_
  refine R_seq ?_
  refine R_region ?_
  refine J_boxA rfl rfl rfl ?_; intro
  refine J_assign rfl rfl rfl ?_
  refine J_nil ?_
  refine E_then ?_
  refine R_seq ?_
  refine R_seq ?_
  refine R_region ?_
  refine J_move rfl rfl rfl ?_
  refine J_ptr_nil rfl rfl rfl rfl ?_
  refine J_nil2 ?_
  refine E_then ?_
  refine R_cond_false rfl ?_
  refine R_skip ?_
  refine E_then ?_
  refine R_seq ?_
  refine R_seq ?_
  refine R_region ?_
  refine J_move rfl rfl rfl ?_
  refine J_nilCheck rfl rfl rfl ?_
  refine J_fieldAddr0 rfl rfl rfl ?_
  refine J_loadA rfl rfl rfl rfl ?_
  refine J_move rfl rfl rfl ?_
  refine J_callr rfl (layout_Table c n _) (by exact Gives.refl) rfl rfl ?_
  rw [h, if_pos rfl, if_pos rfl]
  refine J_move rfl rfl rfl ?_
  refine J_extract rfl rfl rfl rfl ?_
  refine J_extract rfl rfl rfl rfl ?_
  refine J_extract rfl rfl rfl rfl ?_
  refine J_assign rfl rfl rfl ?_
  refine J_assign rfl rfl rfl ?_
  refine J_assign rfl rfl rfl ?_
  refine J_nil3 ?_
  refine E_then ?_
  refine R_seq ?_
  refine R_region ?_
  refine J_move rfl rfl rfl ?_
  refine J_cmp rfl rfl rfl rfl rfl ?_
  refine J_nil2 ?_
  refine E_then ?_
  refine R_cond_false rfl ?_
  refine R_skip ?_
  refine E_then ?_
  refine R_seq ?_
  refine R_seq ?_
  refine R_region ?_
  refine J_loadA rfl rfl rfl rfl ?_
  refine J_callr rfl (entry_Check ⟨xa, xb, xs⟩ _) (by exact Gives.refl) rfl rfl ?_
  rw [hxE]
  refine J_assign rfl rfl rfl ?_
  refine J_nil2 ?_
  refine E_then ?_
  refine R_seq ?_
  refine R_region ?_
  refine J_move rfl rfl rfl ?_
  refine J_cmp rfl rfl rfl rfl rfl ?_
  refine J_nil2 ?_
  refine E_then ?_
  refine R_cond_false rfl ?_
  refine R_skip ?_
  refine E_then ?_
  refine R_seq ?_
  refine R_region ?_
  refine J_move rfl rfl rfl ?_
  refine J_move rfl rfl rfl ?_
  refine J_callr rfl (table_sector t b W hk c n h _) (by exact Gives.cons (Take.next Take.here) (Gives.last (Take.next Take.here))) rfl rfl ?_
  rw [hs]
  generalize W.tbP n = p at hp ⊢
  obtain ⟨⟨a, b', s⟩, ⟨a2, b2, s2⟩⟩ := p
  dsimp only [pairV, pairL] at hp ⊢
  unfold put2
  rcases Int.emod_two_eq n with h2 | h2
  · rw [h2, if_pos rfl]
    refine J_move rfl rfl rfl ?_
    refine J_extract rfl rfl rfl rfl ?_
    refine J_extract rfl rfl rfl rfl ?_
    refine J_extract rfl rfl rfl rfl ?_
    refine J_extract rfl rfl rfl rfl ?_
    refine J_alloc rfl rfl ?_; intro
    refine J_assign rfl rfl rfl ?_
    refine J_assign rfl rfl rfl ?_
    refine J_storeA rfl rfl rfl rfl rfl rfl ?_
    refine J_assign rfl rfl rfl ?_
    refine J_nil3 ?_
    refine E_then ?_
    refine R_seq ?_
    refine R_seq ?_
    refine R_region ?_
    refine J_move rfl rfl rfl ?_
    refine J_cmp rfl rfl rfl rfl rfl ?_
    refine J_nil2 ?_
    refine E_then ?_
    refine R_cond_false rfl ?_
    refine R_skip ?_
    refine E_then ?_
    refine R_seq ?_
    refine R_region ?_
    refine J_move rfl rfl rfl ?_
    refine J_loadA rfl rfl rfl rfl ?_
    refine J_indexAddrA rfl rfl (by omega) (by omega) rfl rfl ?_
    refine J_storeA rfl rfl rfl rfl rfl rfl ?_
    refine J_nil3 ?_
    refine E_then ?_
    refine R_seq ?_
    refine R_region ?_
    refine J_loadA rfl rfl rfl rfl ?_
    refine J_callr rfl (entry_Put ⟨xa, xb, xs⟩ ⟨a2, b2, s2⟩ _) (by exact Gives.refl) rfl rfl ?_
    rw [hx, hp.2]
    simp only [Bool.and_self, if_true]
    refine J_move rfl rfl rfl ?_
    refine J_extract rfl rfl rfl rfl ?_
    refine J_extract rfl rfl rfl rfl ?_
    refine J_assign rfl rfl rfl ?_
    refine J_assign rfl rfl rfl ?_
    refine J_nil3 ?_
    refine E_then ?_
    refine R_seq ?_
    refine R_seq ?_
    refine R_region ?_
    refine J_move rfl rfl rfl ?_
    refine J_cmp rfl rfl rfl rfl rfl ?_
    refine J_nil2 ?_
    refine E_then ?_
    refine R_cond_false rfl ?_
    refine R_skip ?_
    refine E_then ?_
    refine R_seq ?_
    refine R_region ?_
    refine J_move rfl rfl rfl ?_
    refine J_nilCheck rfl rfl rfl ?_
    refine J_fieldAddr0 rfl rfl rfl ?_
    refine J_load rfl rfl rfl rfl ?_
    refine J_move rfl rfl rfl ?_
    refine J_move rfl rfl rfl ?_
    refine J_callr rfl (wal_Stage b { W with k := W.k + 1 } ok1 (2 + n / 2) (entB ⟨xa, xb, xs⟩ ⟨a2, b2, s2⟩) _) (by exact Gives.last (Take.next (Take.next Take.here))) rfl rfl ?_
    have e1 : ({ W with k := W.k + 1 } : Wl).stE (2 + n / 2) (entB ⟨xa, xb, xs⟩ ⟨a2, b2, s2⟩) = W.stE (2 + n / 2) (entB ⟨xa, xb, xs⟩ ⟨a2, b2, s2⟩) := rfl
    have e2 : ({ W with k := W.k + 1 } : Wl).st (2 + n / 2) (entB ⟨xa, xb, xs⟩ ⟨a2, b2, s2⟩) = { W.st (2 + n / 2) (entB ⟨xa, xb, xs⟩ ⟨a2, b2, s2⟩) with k := W.k + 1 } := by
      unfold Wl.st; rw [e1]; split <;> rfl
    rw [e1, e2]
    refine J_assign rfl rfl rfl ?_
    refine J_nil3 ?_
    refine E_then ?_
    refine R_ret ?_
    apply E_retP Tryz.results66
    · exact Res.tmp rfl (Res.nil)
    · exact Gives.cons (Take.next (Take.next Take.here)) (Gives.cons Take.here (Gives.drop (Gives.drop Gives.refl)))
    rfl
  · rw [h2, if_neg (by omega)]
    refine J_move rfl rfl rfl ?_
    refine J_extract rfl rfl rfl rfl ?_
    refine J_extract rfl rfl rfl rfl ?_
    refine J_extract rfl rfl rfl rfl ?_
    refine J_extract rfl rfl rfl rfl ?_
    refine J_alloc rfl rfl ?_; intro
    refine J_assign rfl rfl rfl ?_
    refine J_assign rfl rfl rfl ?_
    refine J_storeA rfl rfl rfl rfl rfl rfl ?_
    refine J_assign rfl rfl rfl ?_
    refine J_nil3 ?_
    refine E_then ?_
    refine R_seq ?_
    refine R_seq ?_
    refine R_region ?_
    refine J_move rfl rfl rfl ?_
    refine J_cmp rfl rfl rfl rfl rfl ?_
    refine J_nil2 ?_
    refine E_then ?_
    refine R_cond_false rfl ?_
    refine R_skip ?_
    refine E_then ?_
    refine R_seq ?_
    refine R_region ?_
    refine J_move rfl rfl rfl ?_
    refine J_loadA rfl rfl rfl rfl ?_
    refine J_indexAddrA rfl rfl (by omega) (by omega) rfl rfl ?_
    refine J_storeA rfl rfl rfl rfl rfl rfl ?_
    refine J_nil3 ?_
    refine E_then ?_
    refine R_seq ?_
    refine R_region ?_
    refine J_loadA rfl rfl rfl rfl ?_
    refine J_callr rfl (entry_Put ⟨a, b', s⟩ ⟨xa, xb, xs⟩ _) (by exact Gives.refl) rfl rfl ?_
    rw [hx, hp.1]
    simp only [Bool.and_self, if_true]
    refine J_move rfl rfl rfl ?_
    refine J_extract rfl rfl rfl rfl ?_
    refine J_extract rfl rfl rfl rfl ?_
    refine J_assign rfl rfl rfl ?_
    refine J_assign rfl rfl rfl ?_
    refine J_nil3 ?_
    refine E_then ?_
    refine R_seq ?_
    refine R_seq ?_
    refine R_region ?_
    refine J_move rfl rfl rfl ?_
    refine J_cmp rfl rfl rfl rfl rfl ?_
    refine J_nil2 ?_
    refine E_then ?_
    refine R_cond_false rfl ?_
    refine R_skip ?_
    refine E_then ?_
    refine R_seq ?_
    refine R_region ?_
    refine J_move rfl rfl rfl ?_
    refine J_nilCheck rfl rfl rfl ?_
    refine J_fieldAddr0 rfl rfl rfl ?_
    refine J_load rfl rfl rfl rfl ?_
    refine J_move rfl rfl rfl ?_
    refine J_move rfl rfl rfl ?_
    refine J_callr rfl (wal_Stage b { W with k := W.k + 1 } ok1 (2 + n / 2) (entB ⟨a, b', s⟩ ⟨xa, xb, xs⟩) _) (by exact Gives.last (Take.next (Take.next Take.here))) rfl rfl ?_
    have e1 : ({ W with k := W.k + 1 } : Wl).stE (2 + n / 2) (entB ⟨a, b', s⟩ ⟨xa, xb, xs⟩) = W.stE (2 + n / 2) (entB ⟨a, b', s⟩ ⟨xa, xb, xs⟩) := rfl
    have e2 : ({ W with k := W.k + 1 } : Wl).st (2 + n / 2) (entB ⟨a, b', s⟩ ⟨xa, xb, xs⟩) = { W.st (2 + n / 2) (entB ⟨a, b', s⟩ ⟨xa, xb, xs⟩) with k := W.k + 1 } := by
      unfold Wl.st; rw [e1]; split <;> rfl
    rw [e1, e2]
    refine J_assign rfl rfl rfl ?_
    refine J_nil3 ?_
    refine E_then ?_
    refine R_ret ?_
    apply E_retP Tryz.results66
    · exact Res.tmp rfl (Res.nil)
    · exact Gives.cons (Take.next (Take.next Take.here)) (Gives.cons Take.here (Gives.drop (Gives.drop Gives.refl)))
    rfl
/-- A table's sectors, none of whose extents has changed. -/
def entX : Ent := ⟨0, 0, -1⟩
def fmtL (c : Cfg) : List Bytes := List.replicate ((c.E.toNat + 1) / 2) (entB entX entX)
theorem fmt_saveE (W : Wl) (a : Int) (m : Nat) (s : Bytes) (j : Nat) (hj : j ≤ m) (h : W.saveE a (List.replicate m s) = 0) : W.saveE a (List.replicate j s) = 0 := by
  refine Classical.byContradiction fun h2 => ?_
  have := (save_err (List.replicate j s) W a (List.replicate (m - j) s) h2).1
  rw [List.replicate_append_replicate, show j + (m - j) = m from by omega, h] at this
  exact h2 this.symm
theorem table_Format (t b : Nat) (W : Wl) (ok : WlOk W) (c : Cfg) (hc : cfgOk c = true) (hE : W.saveE 2 (fmtL c) = 0) (F : List HP) :
    Fn Tryz.prog 67 [.pointer (some ⟨t, 0, none⟩)] (tbl t (some ⟨b, 0, none⟩) c :: wal b W :: F) (Pst (.int .i64 0) (tbl t (some ⟨b, 0, none⟩) c :: wal b (W.save 2 (fmtL c)) :: F)) := by
  have h3 := cfgOk_spec hc
  have hcE : cfgE c = 0 := by simp [cfgE, hc]
  have hX : entOk entX = true := by decide
  refine Fn_enter Tryz.func67 rfl Tryz.ntmps67 rfl ?_
  refine R_seq ?_
  refine R_region ?_
  refine J_assign rfl rfl rfl ?_
  refine J_nil ?_
  refine E_then ?_
  refine R_seq ?_
  refine R_seq ?_
  refine R_region ?_
  refine J_move rfl rfl rfl ?_
  refine J_ptr_nil rfl rfl rfl rfl ?_
  refine J_nil2 ?_
  refine E_then ?_
  refine R_cond_false rfl ?_
  refine R_skip ?_
  refine E_then ?_
  refine R_seq ?_
  refine R_seq ?_
  refine R_region ?_
  refine J_move rfl rfl rfl ?_
  refine J_nilCheck rfl rfl rfl ?_
  refine J_fieldAddr0 rfl rfl rfl ?_
  refine J_loadA rfl rfl rfl rfl ?_
  refine J_callr rfl (layout_Check c _) (by exact Gives.refl) rfl rfl ?_
  rw [hcE]
  refine J_assign rfl rfl rfl ?_
  refine J_nil3 ?_
  refine E_then ?_
  refine R_seq ?_
  refine R_region ?_
  refine J_move rfl rfl rfl ?_
  refine J_cmp rfl rfl rfl rfl rfl ?_
  refine J_nil2 ?_
  refine E_then ?_
  refine R_cond_false rfl ?_
  refine R_skip ?_
  refine E_then ?_
  refine R_seq ?_
  refine R_region ?_
  refine J_build rfl rfl rfl rfl ?_
  refine J_build rfl rfl rfl rfl ?_
  refine J_buildArr rfl rfl rfl rfl ?_
  have hput : ∀ F, Fn Tryz.prog 139 [.agg #[.int .i64 0, .int .i64 0, .int .i64 (-1), .int .i64 0, .int .i64 0, .int .i64 (-1)]] F (Pst (.tuple #[.string (S (if entOk entX && entOk entX then entB entX entX else [])), .int .i64 (if entOk entX && entOk entX then 0 else 3)]) F) := fun F => entry_Put entX entX F
  refine J_callr rfl (hput _) (by exact Gives.refl) rfl rfl ?_
  rw [hX]
  simp only [Bool.and_self, if_true]
  unfold fmtL at hE ⊢
  generalize hm : (c.E.toNat + 1) / 2 = m at hE ⊢
  generalize entB entX entX = s at hE ⊢
  refine J_move rfl rfl rfl ?_
  refine J_extract rfl rfl rfl rfl ?_
  refine J_extract rfl rfl rfl rfl ?_
  refine J_assign rfl rfl rfl ?_
  refine J_assign rfl rfl rfl ?_
  refine J_nil3 ?_
  refine E_then ?_
  refine R_seq ?_
  refine R_seq ?_
  refine R_region ?_
  refine J_move rfl rfl rfl ?_
  refine J_cmp rfl rfl rfl rfl rfl ?_
  refine J_nil2 ?_
  refine E_then ?_
  refine R_cond_false rfl ?_
  refine R_skip ?_
  refine E_then ?_
  refine R_seq ?_
  refine R_seq ?_
  refine R_region ?_
  refine J_assign rfl rfl rfl ?_
  refine J_nil ?_
  refine E_then ?_
  refine R_block ?_
  refine R_loop (X := {j : Nat // j ≤ m}) (fun j => [(6, .int .i64 (2 * (j.1 : Int))), (0, .pointer (some ⟨t, 0, none⟩)), (4, .string (S s))])
    (fun j => tbl t (some ⟨b, 0, none⟩) c :: wal b (W.save 2 (List.replicate j.1 s)) :: F) (fun j => m - j.1) ⟨0, by omega⟩ (by exact sub_cons rfl (sub_cons rfl (sub_cons rfl sub_nil))) (Gives.trans (M := tbl t (some ⟨b, 0, none⟩) c :: wal b W :: F) (by exact Gives.refl) ⟨fun _ s => s⟩) ?_
  rintro ⟨j, hj⟩
  dsimp only
  refine R_seq ?_
  refine R_seq ?_
  refine R_region ?_
  refine J_move rfl rfl rfl ?_
  refine J_move rfl rfl rfl ?_
  refine J_nilCheck rfl rfl rfl ?_
  refine J_fieldAddr0 rfl rfl rfl ?_
  refine J_fieldAddr rfl rfl rfl rfl ?_
  refine J_load rfl rfl rfl rfl ?_
  refine J_cmp rfl rfl rfl rfl rfl ?_
  refine J_nil3 ?_
  refine E_then ?_
  refine R_cond rfl (fun hh => ?_) (fun hh => ?_)
  simp only [decide_eq_true_eq, decide_eq_false_iff_not, Bool.and_eq_true, Bool.or_eq_true, Bool.not_eq_true', Bool.not_eq_false', beq_iff_eq, bne_iff_ne, beq_eq_false_iff_ne, bne_eq_false_iff_eq, ne_eq, ge_iff_le, gt_iff_lt, Int.not_le, Int.not_lt, Bool.and_eq_false_iff, Bool.or_eq_false_iff, Decidable.not_not] at hh
  refine R_skip ?_
  refine E_then ?_
  refine R_seq ?_
  refine R_block ?_
  refine R_seq ?_
  refine R_region ?_
  refine J_move rfl rfl rfl ?_
  refine J_nilCheck rfl rfl rfl ?_
  refine J_fieldAddr0 rfl rfl rfl ?_
  refine J_loadA rfl rfl rfl rfl ?_
  refine J_move rfl rfl rfl ?_
  rotate_left
  simp only [decide_eq_true_eq, decide_eq_false_iff_not, Bool.and_eq_true, Bool.or_eq_true, Bool.not_eq_true', Bool.not_eq_false', beq_iff_eq, bne_iff_ne, beq_eq_false_iff_ne, bne_eq_false_iff_eq, ne_eq, ge_iff_le, gt_iff_lt, Int.not_le, Int.not_lt, Bool.and_eq_false_iff, Bool.or_eq_false_iff, Decidable.not_not] at hh
  refine R_exit ?_
  refine E_then_exit ?_
  refine E_then_exit ?_
  refine E_block_hit ?_
  refine E_then ?_
  refine R_seq ?_
  refine R_region ?_
  refine J_assign rfl rfl rfl ?_
  refine J_nil ?_
  refine E_then ?_
  refine R_ret ?_
  rotate_left
  · have hlt : j < m := by omega
    have hck : chk c (2 * (j : Int)) c.E = 0 := by unfold chk; rw [hc, if_pos rfl, if_pos (by omega)]
    have hsn := save_snoc (List.replicate j s) W 2 s (fmt_saveE W 2 m s j (by omega) hE)
    rw [List.length_replicate, show List.replicate j s ++ [s] = List.replicate (j + 1) s from (List.replicate_succ' ..).symm, fmt_saveE W 2 m s (j + 1) (by omega) hE] at hsn
    refine J_callr rfl (layout_Table c (2 * (j : Int)) _) (by exact Gives.refl) rfl rfl ?_
    rw [hck, if_pos rfl, if_pos rfl]
    have e1 : 2 + 2 * (j : Int) / 2 = 2 + (j : Int) := by omega
    rw [e1]
    refine J_move rfl rfl rfl ?_
    refine J_extract rfl rfl rfl rfl ?_
    refine J_extract rfl rfl rfl rfl ?_
    refine J_extract rfl rfl rfl rfl ?_
    refine J_assign rfl rfl rfl ?_
    refine J_assign rfl rfl rfl ?_
    refine J_assign rfl rfl rfl ?_
    refine J_nil3 ?_
    refine E_then ?_
    refine R_seq ?_
    refine R_seq ?_
    refine R_region ?_
    refine J_move rfl rfl rfl ?_
    refine J_cmp rfl rfl rfl rfl rfl ?_
    refine J_nil2 ?_
    refine E_then ?_
    refine R_cond_true rfl ?_
    refine R_region ?_
    refine J_move rfl rfl rfl ?_
    refine J_nilCheck rfl rfl rfl ?_
    refine J_fieldAddr0 rfl rfl rfl ?_
    refine J_load rfl rfl rfl rfl ?_
    refine J_move rfl rfl rfl ?_
    refine J_move rfl rfl rfl ?_
    refine J_callr rfl (wal_Stage b (W.save 2 (List.replicate j s)) (save_ok _ ok 2) (2 + (j : Int)) s _) (by exact Gives.last (Take.next Take.here)) rfl rfl ?_
    rw [← hsn.1, ← hsn.2]
    refine J_assign rfl rfl rfl ?_
    refine J_nil3 ?_
    refine E_then ?_
    refine R_seq ?_
    refine R_region ?_
    refine J_move rfl rfl rfl ?_
    refine J_cmp rfl rfl rfl rfl rfl ?_
    refine J_nil2 ?_
    refine E_then ?_
    refine R_cond_false rfl ?_
    refine R_skip ?_
    refine E_block_normal ?_
    refine E_then ?_
    refine R_region ?_
    refine J_move rfl rfl rfl ?_
    refine J_ari64 rfl rfl rfl (by omega) rfl rfl ?_
    refine J_assign rfl rfl rfl ?_
    refine J_nil2 ?_
    have e2 : 2 * (j : Int) + 2 = 2 * ((j + 1 : Nat) : Int) := by omega
    rw [e2]
    exact E_thenI fun a w he hs => ⟨⟨j + 1, by omega⟩, by simp; omega, he.sub (by exact sub_cons rfl (sub_cons rfl (sub_cons rfl sub_nil))), by
      have hs2 : Sat w (tbl t (some ⟨b, 0, none⟩) c :: wal b (W.save 2 (List.replicate (j + 1) s)) :: F) := hs.gives (by exact Gives.last (Take.next Take.here))
      exact hs2⟩
  · have ej : j = m := by omega
    subst ej
    apply E_retP Tryz.results67
    · exact Res.tmp rfl (Res.nil)
    · exact Gives.refl
    rfl
end Go.Proofs.Sol

/- Heads of a log. -/
namespace Go.Proofs.Sol
open Go Go.Proofs
set_option maxRecDepth 100000
set_option maxHeartbeats 4000000
set_option linter.unusedVariables false
set_option linter.unusedSimpArgs false
attribute [local irreducible] R J JW E D Fn Y clf mpI own Sat Exit.then Exit.inBlock bodyPost bodyPostM Code.wpIn wpL
theorem loghead_within (n m : Int) (F : List HP) : Fn Tryz.prog 242 [.int .i64 n, .int .i64 m] F (Pst (.bool (decide (0 ≤ n) && decide (n < m))) F) := by
  refine Fn_enter Tryz.func242 rfl Tryz.ntmps242 rfl ?_
  refine R_seq ?_
  refine R_region ?_
  refine J_assign rfl rfl rfl ?_
  refine J_nil ?_
  refine E_then ?_
  refine R_seq ?_
  refine R_region ?_
  refine J_move rfl rfl rfl ?_
  refine J_cmp rfl rfl rfl rfl rfl ?_
  refine J_move rfl rfl rfl ?_
  refine J_guard_split rfl rfl (fun hh => ?_) (fun hh => ?_)
  simp only [decide_eq_true_eq, decide_eq_false_iff_not, Bool.and_eq_true, Bool.or_eq_true, Bool.not_eq_true', Bool.not_eq_false', beq_iff_eq, bne_iff_ne, beq_eq_false_iff_ne, bne_eq_false_iff_eq, ne_eq, ge_iff_le, gt_iff_lt, Int.not_le, Int.not_lt, Bool.and_eq_false_iff, Bool.or_eq_false_iff, Decidable.not_not] at hh
  refine J_guard rfl rfl rfl ?_
  refine J_move rfl rfl rfl ?_
  refine J_guard rfl rfl rfl ?_
  refine J_move rfl rfl rfl ?_
  refine J_guard rfl rfl rfl ?_
  refine J_cmp rfl rfl rfl rfl rfl ?_
  refine J_pick_true rfl rfl rfl rfl ?_
  refine J_assign rfl rfl rfl ?_
  refine J_nil3 ?_
  refine E_then ?_
  refine R_ret ?_
  rotate_left
  simp only [decide_eq_true_eq, decide_eq_false_iff_not, Bool.and_eq_true, Bool.or_eq_true, Bool.not_eq_true', Bool.not_eq_false', beq_iff_eq, bne_iff_ne, beq_eq_false_iff_ne, bne_eq_false_iff_eq, ne_eq, ge_iff_le, gt_iff_lt, Int.not_le, Int.not_lt, Bool.and_eq_false_iff, Bool.or_eq_false_iff, Decidable.not_not] at hh
  refine J_guard_not rfl rfl rfl rfl rfl rfl ?_
  refine J_guard_not rfl rfl rfl rfl rfl rfl ?_
  refine J_guard_not rfl rfl rfl rfl rfl rfl ?_
  refine J_pick_false rfl rfl rfl rfl ?_
  refine J_assign rfl rfl rfl ?_
  refine J_nil3 ?_
  refine E_then ?_
  refine R_ret ?_
  rotate_left
  all_goals
    apply E_retP Tryz.results242
    · exact Res.tmp rfl (Res.nil)
    · (repeat (with_reducible exact Gives.refl))
    simp only [one]
    congr 1
    rw [Bool.eq_iff_iff]
    simp
    try omega
abbrev headA (g q a : Int) : Value := .agg #[.int .i64 g, .int .i64 q, .int .i64 a]
theorem loghead_may (g q a : Int) (F : List HP) : Fn Tryz.prog 215 [headA g q a] F (Pst (.bool (headMay g q a)) F) := by
  refine Fn_enter Tryz.func215 rfl Tryz.ntmps215 rfl ?_
  refine R_seq ?_
  refine R_region ?_
  refine J_boxA rfl rfl rfl ?_; intro
  refine J_assign rfl rfl rfl ?_
  refine J_nil ?_
  refine E_then ?_
  refine R_seq ?_
  refine R_region ?_
  refine J_fieldAddr0 rfl rfl rfl ?_
  refine J_load rfl rfl rfl rfl ?_
  refine J_callr rfl (loghead_within _ _ _) (by exact Gives.refl) rfl rfl ?_
  rcases Bool.eq_false_or_eq_true (decide (0 ≤ g) && decide (g < 281474976710656)) with h1 | h1
  · rw [h1]
    refine J_move rfl rfl rfl ?_
    refine J_guard rfl rfl rfl ?_
    refine J_fieldAddr0 rfl rfl rfl ?_
    refine J_guard rfl rfl rfl ?_
    refine J_load rfl rfl rfl rfl ?_
    refine J_guard rfl rfl rfl ?_
    refine J_callr rfl (loghead_within _ _ _) (by exact Gives.refl) rfl rfl ?_
    rcases Bool.eq_false_or_eq_true (decide (0 ≤ q) && decide (q < 281474976710656)) with h2 | h2
    · rw [h2]
      refine J_pick_true rfl rfl rfl rfl ?_
      refine J_move rfl rfl rfl ?_
      refine J_guard rfl rfl rfl ?_
      refine J_fieldAddr0 rfl rfl rfl ?_
      refine J_guard rfl rfl rfl ?_
      refine J_load rfl rfl rfl rfl ?_
      refine J_guard rfl rfl rfl ?_
      refine J_callr rfl (loghead_within _ _ _) (by exact Gives.refl) rfl rfl ?_
      refine J_pick_true rfl rfl rfl rfl ?_
      refine J_assign rfl rfl rfl ?_
      refine J_nil3 ?_
      refine E_then ?_
      refine R_ret ?_
      apply E_retP Tryz.results215
      · exact Res.tmp rfl (Res.nil)
      · exact Gives.drop Gives.refl
      simp only [one, headMay]
      congr 1
      rw [Bool.eq_iff_iff]
      simp at h1 h2 ⊢
      omega
    · rw [h2]
      refine J_pick_true rfl rfl rfl rfl ?_
      refine J_move rfl rfl rfl ?_
      refine J_guard_not rfl rfl rfl rfl rfl rfl ?_
      refine J_guard_not rfl rfl rfl rfl rfl rfl ?_
      refine J_guard_not rfl rfl rfl rfl rfl rfl ?_
      refine J_pick_false rfl rfl rfl rfl ?_
      refine J_assign rfl rfl rfl ?_
      refine J_nil3 ?_
      refine E_then ?_
      refine R_ret ?_
      apply E_retP Tryz.results215
      · exact Res.tmp rfl (Res.nil)
      · exact Gives.drop Gives.refl
      simp only [one, headMay]
      congr 1
      rw [Bool.eq_iff_iff]
      simp at h1 h2 ⊢
      omega
  · rw [h1]
    refine J_move rfl rfl rfl ?_
    refine J_guard_not rfl rfl rfl rfl rfl rfl ?_
    refine J_guard_not rfl rfl rfl rfl rfl rfl ?_
    refine J_guard_not rfl rfl rfl rfl rfl rfl ?_
    refine J_pick_false rfl rfl rfl rfl ?_
    refine J_move rfl rfl rfl ?_
    refine J_guard_not rfl rfl rfl rfl rfl rfl ?_
    refine J_guard_not rfl rfl rfl rfl rfl rfl ?_
    refine J_guard_not rfl rfl rfl rfl rfl rfl ?_
    refine J_pick_false rfl rfl rfl rfl ?_
    refine J_assign rfl rfl rfl ?_
    refine J_nil3 ?_
    refine E_then ?_
    refine R_ret ?_
    apply E_retP Tryz.results215
    · exact Res.tmp rfl (Res.nil)
    · exact Gives.drop Gives.refl
    simp only [one, headMay]
    congr 1
    rw [Bool.eq_iff_iff]
    simp at h1 ⊢
    omega
theorem loghead_Put (g q a : Int) (F : List HP) : Fn Tryz.prog 175 [headA g q a] F (Pst (.tuple #[.string (S (if headMay g q a = true then headB g q a else [])), .int .i64 (if headMay g q a = true then 0 else 3)]) F) := by
  refine Fn_enter Tryz.func175 rfl Tryz.ntmps175 rfl ?_
  refine R_seq ?_
  refine R_region ?_
  refine J_boxA rfl rfl rfl ?_; intro
  refine J_assign rfl rfl rfl ?_
  refine J_assign rfl rfl rfl ?_
  refine J_nil ?_
  refine E_then ?_
  refine R_seq ?_
  refine R_seq ?_
  refine R_region ?_
  refine J_loadA rfl rfl rfl rfl ?_
  rename_i b
  refine J_callr rfl (loghead_may g q a _) (by exact Gives.refl) rfl rfl ?_
  by_cases h : headMay g q a = true
  · have hm := h
    simp only [headMay, decide_eq_true_eq] at hm
    rw [h]
    simp only [if_true]
    refine J_un_not rfl rfl rfl ?_
    refine J_nil3 ?_
    refine E_then ?_
    refine R_cond_false rfl ?_
    refine R_skip ?_
    refine E_then ?_
    refine R_seq ?_
    refine R_draw ([cl b 159 [.int .i64 g, .int .i64 q, .int .i64 a]]) [8, 9] (by kernel_rfl) ?_
    (refine D_lookP (i := 0) rfl (by kernel_rfl) (by exact NP_then NP_body) (by exact Y_fieldAddr0 rfl) rfl rfl ?_)
    (refine D_look (i := 1) rfl (by kernel_rfl) (by exact NP_then NP_body) (by exact Gives.cons Take.here Gives.nil) (by exact Y_load rfl rfl) rfl rfl ?_)
    (refine D_lookP (i := 3) rfl (by kernel_rfl) (by exact NP_then NP_body) (by exact Y_fieldAddr0 rfl) rfl rfl ?_)
    (refine D_look (i := 4) rfl (by kernel_rfl) (by exact NP_then NP_body) (by exact Gives.cons Take.here Gives.nil) (by exact Y_load rfl rfl) rfl rfl ?_)
    (refine D_lookP (i := 6) rfl (by kernel_rfl) (by exact NP_then NP_body) (by exact Y_fieldAddr0 rfl) rfl rfl ?_)
    (refine D_look (i := 7) rfl (by kernel_rfl) (by exact NP_then NP_body) (by exact Gives.cons Take.here Gives.nil) (by exact Y_load rfl rfl) rfl rfl ?_)
    refine D_try1 (i := 2) (by kernel_rfl) rfl ?_
    refine J_callr rfl (field_Put [76] g 6 (by simp) (by omega) _) (by exact Gives.refl) rfl rfl ?_
    have l1 := putF_length [76] g 6
    simp at l1
    refine D_next (by exact Gives.cons Take.here Gives.nil) ?_
    refine D_try1 (i := 5) (by kernel_rfl) rfl ?_
    refine J_callr rfl (field_Put _ q 6 (by omega) (by omega) _) (by exact Gives.refl) rfl rfl ?_
    have l2 := putF_length (putF [76] g 6) q 6
    refine D_next (by exact Gives.cons Take.here Gives.nil) ?_
    refine D_try1 (i := 8) (by kernel_rfl) rfl ?_
    refine J_callr rfl (field_Put _ a 2 (by omega) (by omega) _) (by exact Gives.refl) rfl rfl ?_
    refine D_last (by kernel_rfl) ?_
    refine D_try1 (i := 9) (by kernel_rfl) rfl ?_
    refine J_assign rfl rfl rfl ?_
    refine D_last (by kernel_rfl) ?_
    (first | refine D_end1 (by kernel_rfl) ?_ | refine D_end (by kernel_rfl) ?_)
    refine E_then ?_
    refine R_seq ?_
    refine R_region ?_
    refine J_move rfl rfl rfl ?_
    refine J_move rfl rfl rfl ?_
    have l3 := headP_length h
    unfold headP at l3
    refine J_callr rfl (cyclic_Tail _ (by omega) _) (by exact Gives.refl) rfl rfl ?_
    have l4 := tail_length (putF (putF (putF [76] g 6) q 6) a 2)
    refine J_str_add rfl rfl (by omega) rfl rfl ?_
    refine J_callr rfl (region_Pad _ (by simp; omega) _) (by exact Gives.refl) rfl rfl ?_
    refine J_assign rfl rfl rfl ?_
    refine J_assign rfl rfl rfl ?_
    refine J_nil3 ?_
    refine E_then ?_
    refine R_ret ?_
    apply E_retP Tryz.results175
    · exact Res.tmp rfl (Res.tmp rfl (Res.nil))
    · exact Gives.drop Gives.refl
    rfl
  · rw [Bool.not_eq_true] at h
    rw [h]
    simp only [Bool.false_eq_true, if_false]
    refine J_un_not rfl rfl rfl ?_
    refine J_nil3 ?_
    refine E_then ?_
    refine R_cond_true rfl ?_
    refine R_seq ?_
    refine R_region ?_
    refine J_assign rfl rfl rfl ?_
    refine J_assign rfl rfl rfl ?_
    refine J_nil ?_
    refine E_then ?_
    refine R_ret ?_
    refine E_then_ret ?_
    apply E_retP Tryz.results175
    · exact Res.tmp rfl (Res.tmp rfl (Res.nil))
    · exact Gives.drop Gives.refl
    rfl
end Go.Proofs.Sol

/- A log over a disk: its parts, its head. -/
namespace Go.Proofs.Sol
open Go Go.Proofs
set_option maxRecDepth 100000
set_option maxHeartbeats 4000000
set_option linter.unusedVariables false
set_option linter.unusedSimpArgs false
attribute [local irreducible] R J JW E D Fn Y clf mpI own Sat Exit.then Exit.inBlock bodyPost bodyPostM Code.wpIn wpL
theorem wal_tried (s : Bytes) (F : List HP) : Fn Tryz.prog 157 [.string (S s), .int .i64 0] F (Pst .nilIface F) := by
  refine Fn_enter Tryz.func157 rfl Tryz.ntmps157 rfl ?_
  refine R_seq ?_
  refine R_region ?_
  refine J_assign rfl rfl rfl ?_
  refine J_nil ?_
  refine E_then ?_
  refine R_seq ?_
  refine R_seq ?_
  refine R_region ?_
  refine J_move rfl rfl rfl ?_
  refine J_cmp rfl rfl rfl rfl rfl ?_
  refine J_nil2 ?_
  refine E_then ?_
  refine R_cond_true rfl ?_
  refine R_seq ?_
  refine R_region ?_
  refine J_assign rfl rfl rfl ?_
  refine J_nil ?_
  refine E_then ?_
  refine R_ret ?_
  refine E_then_ret ?_
  apply E_retP Tryz.results157
  · exact Res.tmp rfl (Res.nil)
  · exact Gives.refl
  rfl
theorem wal_number (F : List HP) : Fn Tryz.prog 94 [.nilIface] F (Pst (.int .i64 0) F) := by
  refine Fn_enter Tryz.func94 rfl Tryz.ntmps94 rfl ?_
  refine R_seq ?_
  refine R_region ?_
  refine J_assign rfl rfl rfl ?_
  refine J_nil ?_
  refine E_then ?_
  refine R_seq ?_
  refine R_region ?_
  refine J_alloc rfl rfl ?_; intro
  refine J_nil ?_
  refine E_then ?_
  refine R_seq ?_
  refine R_block ?_
  refine R_seq ?_
  refine R_region ?_
  refine J_move rfl rfl rfl ?_
  refine J_ifc_nil rfl rfl rfl rfl ?_
  refine J_assign rfl rfl rfl ?_
  refine J_nil2 ?_
  refine E_then ?_
  refine R_cond_true rfl ?_
  refine R_seq ?_
  refine R_region ?_
  refine J_assign rfl rfl rfl ?_
  refine J_nil ?_
  refine E_then ?_
  refine R_ret ?_
  refine E_block_ret ?_
  refine E_then_ret ?_
  apply E_retP Tryz.results94
  · exact Res.tmp rfl (Res.nil)
  · exact Gives.drop Gives.refl
  rfl
/-- May a log be there? -/
def walMay (n : Nat) (fr many : Int) : Bool := decide (24 ≤ many) && decide (many ≤ 200) && insB fr many n
theorem walMay_spec {n : Nat} {fr many : Int} (h : walMay n fr many = true) : 24 ≤ many ∧ many ≤ 200 ∧ 0 ≤ fr ∧ fr + many ≤ n := by
  simp [walMay, insB] at h; omega
def Wl.none_ (d : Nat) (fr many : Int) (V : List Bytes) (k : Nat) : Wl := ⟨d, fr, many, 0, 0, 0, 0, false, false, [], [], V, k⟩
theorem wal_parted (d : Nat) (V : List Bytes) (k : Nat) (fr many : Int) (h : walMay V.length fr many = true) (hV : V.length ≤ 1000) (F : List HP) :
    Fn Tryz.prog 105 [.pointer (some ⟨d, 0, none⟩), .int .i64 fr, .int .i64 many] (dvk d V k :: F) (fun v w => ∃ b, v = .tuple #[.pointer (some ⟨b, 0, none⟩), .int .i64 0] ∧ Sat w (wal b (Wl.none_ d fr many V k) :: F)) := by
  have hs := walMay_spec h
  have i1 : insB fr many V.length = true := by simp [insB]; omega
  have i2 : insB fr 2 V.length = true := by simp [insB]; omega
  have i3 : insB (fr + 2) (many - 2) V.length = true := by simp [insB]; omega
  refine Fn_enter Tryz.func105 rfl Tryz.ntmps105 rfl ?_
  refine R_seq ?_
  refine R_region ?_
  refine J_assign rfl rfl rfl ?_
  refine J_assign rfl rfl rfl ?_
  refine J_nil ?_
  refine E_then ?_
  refine R_seq ?_
  refine R_seq ?_
  refine R_region ?_
  refine J_move rfl rfl rfl ?_
  refine J_cmp rfl rfl rfl rfl rfl ?_
  refine J_move rfl rfl rfl ?_
  refine J_guard_split rfl rfl (fun hh => ?_) (fun hh => ?_)
  simp only [decide_eq_true_eq, decide_eq_false_iff_not, Bool.and_eq_true, Bool.or_eq_true, Bool.not_eq_true', Bool.not_eq_false', beq_iff_eq, bne_iff_ne, beq_eq_false_iff_ne, bne_eq_false_iff_eq, ne_eq, ge_iff_le, gt_iff_lt, Int.not_le, Int.not_lt, Bool.and_eq_false_iff, Bool.or_eq_false_iff, Decidable.not_not] at hh
  exfalso; omega
  simp only [decide_eq_true_eq, decide_eq_false_iff_not, Bool.and_eq_true, Bool.or_eq_true, Bool.not_eq_true', Bool.not_eq_false', beq_iff_eq, bne_iff_ne, beq_eq_false_iff_ne, bne_eq_false_iff_eq, ne_eq, ge_iff_le, gt_iff_lt, Int.not_le, Int.not_lt, Bool.and_eq_false_iff, Bool.or_eq_false_iff, Decidable.not_not] at hh
  refine J_guard rfl rfl rfl ?_
  refine J_move rfl rfl rfl ?_
  refine J_guard rfl rfl rfl ?_
  refine J_cmp rfl rfl rfl rfl rfl ?_
  refine J_pick_false rfl rfl rfl rfl ?_
  refine J_nil3 ?_
  refine E_then ?_
  refine R_cond rfl (fun hh => ?_) (fun hh => ?_)
  simp only [decide_eq_true_eq, decide_eq_false_iff_not, Bool.and_eq_true, Bool.or_eq_true, Bool.not_eq_true', Bool.not_eq_false', beq_iff_eq, bne_iff_ne, beq_eq_false_iff_ne, bne_eq_false_iff_eq, ne_eq, ge_iff_le, gt_iff_lt, Int.not_le, Int.not_lt, Bool.and_eq_false_iff, Bool.or_eq_false_iff, Decidable.not_not] at hh
  exfalso; omega
  simp only [decide_eq_true_eq, decide_eq_false_iff_not, Bool.and_eq_true, Bool.or_eq_true, Bool.not_eq_true', Bool.not_eq_false', beq_iff_eq, bne_iff_ne, beq_eq_false_iff_ne, bne_eq_false_iff_eq, ne_eq, ge_iff_le, gt_iff_lt, Int.not_le, Int.not_lt, Bool.and_eq_false_iff, Bool.or_eq_false_iff, Decidable.not_not] at hh
  refine R_skip ?_
  refine E_then ?_
  refine R_seq ?_
  refine R_seq ?_
  refine R_region ?_
  refine J_move rfl rfl rfl ?_
  refine J_move rfl rfl rfl ?_
  refine J_move rfl rfl rfl ?_
  refine J_callm rfl (region_New d V k fr many hV F) Gives.refl rfl rfl ?_
  rintro v w hp
  rw [if_pos i1] at hp
  obtain ⟨r0, rfl, s0⟩ := hp
  refine JW.of s0 ?_
  refine J_move rfl rfl rfl ?_
  refine J_extract rfl rfl rfl rfl ?_
  refine J_extract rfl rfl rfl rfl ?_
  refine J_assign rfl rfl rfl ?_
  refine J_assign rfl rfl rfl ?_
  refine J_nil3 ?_
  refine E_then ?_
  refine R_seq ?_
  refine R_region ?_
  refine J_move rfl rfl rfl ?_
  refine J_cmp rfl rfl rfl rfl rfl ?_
  refine J_nil2 ?_
  refine E_then ?_
  refine R_cond_false rfl ?_
  refine R_skip ?_
  refine E_then ?_
  refine R_seq ?_
  refine R_region ?_
  refine J_move rfl rfl rfl ?_
  refine J_move rfl rfl rfl ?_
  refine J_callm rfl (region_New d V k fr 2 hV F) (by exact Gives.cons (Take.next Take.here) (Gives.drop Gives.refl)) rfl rfl ?_
  rintro v w hp
  rw [if_pos i2] at hp
  obtain ⟨r1, rfl, s0⟩ := hp
  refine JW.of s0 ?_
  refine J_move rfl rfl rfl ?_
  refine J_extract rfl rfl rfl rfl ?_
  refine J_extract rfl rfl rfl rfl ?_
  refine J_assign rfl rfl rfl ?_
  refine J_assign rfl rfl rfl ?_
  refine J_nil3 ?_
  refine E_then ?_
  refine R_seq ?_
  refine R_seq ?_
  refine R_region ?_
  refine J_move rfl rfl rfl ?_
  refine J_cmp rfl rfl rfl rfl rfl ?_
  refine J_nil2 ?_
  refine E_then ?_
  refine R_cond_false rfl ?_
  refine R_skip ?_
  refine E_then ?_
  refine R_seq ?_
  refine R_region ?_
  refine J_move rfl rfl rfl ?_
  refine J_move rfl rfl rfl ?_
  refine J_ari64 rfl rfl rfl (by omega) rfl rfl ?_
  refine J_move rfl rfl rfl ?_
  refine J_ari64 rfl rfl rfl (by omega) rfl rfl ?_
  refine J_callm rfl (region_New d V k (fr + 2) (many - 2) hV (reg r1 d fr 2 :: F)) (by exact Gives.last (Take.next Take.here)) rfl rfl ?_
  rintro v w hp
  rw [if_pos i3] at hp
  obtain ⟨r2, rfl, s0⟩ := hp
  refine JW.of s0 ?_
  refine J_move rfl rfl rfl ?_
  refine J_extract rfl rfl rfl rfl ?_
  refine J_extract rfl rfl rfl rfl ?_
  refine J_assign rfl rfl rfl ?_
  refine J_assign rfl rfl rfl ?_
  refine J_nil3 ?_
  refine E_then ?_
  refine R_seq ?_
  refine R_seq ?_
  refine R_region ?_
  refine J_move rfl rfl rfl ?_
  refine J_cmp rfl rfl rfl rfl rfl ?_
  refine J_nil2 ?_
  refine E_then ?_
  refine R_cond_false rfl ?_
  refine R_skip ?_
  refine E_then ?_
  refine R_seq ?_
  refine R_region ?_
  refine J_move rfl rfl rfl ?_
  refine J_move rfl rfl rfl ?_
  refine J_move rfl rfl rfl ?_
  refine J_move rfl rfl rfl ?_
  refine J_move rfl rfl rfl ?_
  refine J_callm rfl (shadow_New _) Gives.refl rfl rfl ?_
  rintro v w ⟨sh, rfl, s0⟩
  refine JW.of s0 ?_
  refine J_build rfl rfl rfl rfl ?_
  refine J_boxA rfl rfl rfl ?_; intro
  refine J_assign rfl rfl rfl ?_
  refine J_assign rfl rfl rfl ?_
  refine J_nil3 ?_
  refine E_then ?_
  refine R_ret ?_
  rename_i b
  apply E_ret Tryz.results105
  · exact Res.tmp rfl (Res.tmp rfl (Res.nil))
  · intro w s
    refine ⟨b, rfl, shut_wal (p := (r1, r2, sh)) ?_⟩
    dsimp only [walL, List.cons_append, List.nil_append, Wl.none_]
    exact s.gives (by exact Gives.cons Take.here (Gives.cons (Take.next (Take.next (Take.next Take.here))) (Gives.last (Take.next Take.here))))
theorem wal_parted0 (d : Nat) (V : List Bytes) (k : Nat) (fr many : Int) (h : walMay V.length fr many = false) (hV : V.length ≤ 1000) (F : List HP) :
    Fn Tryz.prog 105 [.pointer (some ⟨d, 0, none⟩), .int .i64 fr, .int .i64 many] (dvk d V k :: F) (Pst (.tuple #[.pointer none, .int .i64 3]) (dvk d V k :: F)) := by
  refine Fn_enter Tryz.func105 rfl Tryz.ntmps105 rfl ?_
  refine R_seq ?_
  refine R_region ?_
  refine J_assign rfl rfl rfl ?_
  refine J_assign rfl rfl rfl ?_
  refine J_nil ?_
  refine E_then ?_
  refine R_seq ?_
  refine R_seq ?_
  refine R_region ?_
  refine J_move rfl rfl rfl ?_
  refine J_cmp rfl rfl rfl rfl rfl ?_
  refine J_move rfl rfl rfl ?_
  refine J_guard_split rfl rfl (fun hh => ?_) (fun hh => ?_)
  simp only [decide_eq_true_eq, decide_eq_false_iff_not, Bool.and_eq_true, Bool.or_eq_true, Bool.not_eq_true', Bool.not_eq_false', beq_iff_eq, bne_iff_ne, beq_eq_false_iff_ne, bne_eq_false_iff_eq, ne_eq, ge_iff_le, gt_iff_lt, Int.not_le, Int.not_lt, Bool.and_eq_false_iff, Bool.or_eq_false_iff, Decidable.not_not] at hh
  refine J_guard_not rfl rfl rfl rfl rfl rfl ?_
  refine J_guard_not rfl rfl rfl rfl rfl rfl ?_
  refine J_pick_true rfl rfl rfl rfl ?_
  refine J_nil3 ?_
  refine E_then ?_
  refine R_cond_true rfl ?_
  refine R_seq ?_
  refine R_region ?_
  refine J_assign rfl rfl rfl ?_
  refine J_assign rfl rfl rfl ?_
  refine J_nil ?_
  refine E_then ?_
  refine R_ret ?_
  refine E_then_ret ?_
  rotate_left
  simp only [decide_eq_true_eq, decide_eq_false_iff_not, Bool.and_eq_true, Bool.or_eq_true, Bool.not_eq_true', Bool.not_eq_false', beq_iff_eq, bne_iff_ne, beq_eq_false_iff_ne, bne_eq_false_iff_eq, ne_eq, ge_iff_le, gt_iff_lt, Int.not_le, Int.not_lt, Bool.and_eq_false_iff, Bool.or_eq_false_iff, Decidable.not_not] at hh
  refine J_guard rfl rfl rfl ?_
  refine J_move rfl rfl rfl ?_
  refine J_guard rfl rfl rfl ?_
  refine J_cmp rfl rfl rfl rfl rfl ?_
  refine J_pick_false rfl rfl rfl rfl ?_
  refine J_nil3 ?_
  refine E_then ?_
  refine R_cond rfl (fun hh => ?_) (fun hh => ?_)
  simp only [decide_eq_true_eq, decide_eq_false_iff_not, Bool.and_eq_true, Bool.or_eq_true, Bool.not_eq_true', Bool.not_eq_false', beq_iff_eq, bne_iff_ne, beq_eq_false_iff_ne, bne_eq_false_iff_eq, ne_eq, ge_iff_le, gt_iff_lt, Int.not_le, Int.not_lt, Bool.and_eq_false_iff, Bool.or_eq_false_iff, Decidable.not_not] at hh
  refine R_seq ?_
  refine R_region ?_
  refine J_assign rfl rfl rfl ?_
  refine J_assign rfl rfl rfl ?_
  refine J_nil ?_
  refine E_then ?_
  refine R_ret ?_
  refine E_then_ret ?_
  rotate_left
  simp only [decide_eq_true_eq, decide_eq_false_iff_not, Bool.and_eq_true, Bool.or_eq_true, Bool.not_eq_true', Bool.not_eq_false', beq_iff_eq, bne_iff_ne, beq_eq_false_iff_ne, bne_eq_false_iff_eq, ne_eq, ge_iff_le, gt_iff_lt, Int.not_le, Int.not_lt, Bool.and_eq_false_iff, Bool.or_eq_false_iff, Decidable.not_not] at hh
  refine R_skip ?_
  refine E_then ?_
  refine R_seq ?_
  refine R_seq ?_
  refine R_region ?_
  refine J_move rfl rfl rfl ?_
  refine J_move rfl rfl rfl ?_
  refine J_move rfl rfl rfl ?_
  rotate_left
  · apply E_retP Tryz.results105
    · exact Res.tmp rfl (Res.tmp rfl (Res.nil))
    · exact Gives.refl
    rfl
  · apply E_retP Tryz.results105
    · exact Res.tmp rfl (Res.tmp rfl (Res.nil))
    · exact Gives.refl
    rfl
  · have i1 : insB fr many V.length = false := by
      simp only [walMay] at h
      rw [decide_eq_true (by omega), decide_eq_true (by omega)] at h
      simpa using h
    refine J_callm rfl (region_New d V k fr many hV F) Gives.refl rfl rfl ?_
    rintro v w hp
    rw [i1] at hp
    simp only [Bool.false_eq_true, if_false] at hp
    obtain ⟨rfl, s0⟩ := hp
    refine JW.of s0 ?_
    refine J_move rfl rfl rfl ?_
    refine J_extract rfl rfl rfl rfl ?_
    refine J_extract rfl rfl rfl rfl ?_
    refine J_assign rfl rfl rfl ?_
    refine J_assign rfl rfl rfl ?_
    refine J_nil3 ?_
    refine E_then ?_
    refine R_seq ?_
    refine R_region ?_
    refine J_move rfl rfl rfl ?_
    refine J_cmp rfl rfl rfl rfl rfl ?_
    refine J_nil2 ?_
    refine E_then ?_
    refine R_cond_true rfl ?_
    refine R_seq ?_
    refine R_region ?_
    refine J_move rfl rfl rfl ?_
    refine J_assign rfl rfl rfl ?_
    refine J_assign rfl rfl rfl ?_
    refine J_nil1 ?_
    refine E_then ?_
    refine R_ret ?_
    refine E_then_ret ?_
    apply E_retP Tryz.results105
    · exact Res.tmp rfl (Res.tmp rfl (Res.nil))
    · exact Gives.refl
    rfl
theorem wal_head (b : Nat) (W : Wl) (g q a : Int) (hg : headMay g q a = true) (hf : 0 ≤ W.fr ∧ W.fr + 2 ≤ W.V.length) (hk : W.k < 100000000) (F : List HP) :
    Fn Tryz.prog 107 [.pointer (some ⟨b, 0, none⟩), headA g q a] (wal b W :: F) (Pst .nilIface (wal b { W with V := W.V.set (W.fr + g % 2).toNat (headB g q a), k := W.k + 2 } :: F)) := by
  have hm := hg
  simp only [headMay, decide_eq_true_eq] at hm
  refine Fn.open_ (fun w h => open_wal h) ?_
  rintro p
  dsimp only [walL, List.cons_append, List.nil_append]
  refine Fn.know (fun w h => dvk_know h.drop.drop.drop.drop) ?_
  rintro ⟨hV, hV6⟩
  refine Fn_enter Tryz.func107 rfl Tryz.ntmps107 rfl ?_
  refine R_seq ?_
  refine R_region ?_
  refine J_boxA rfl rfl rfl ?_; intro
  refine J_assign rfl rfl rfl ?_
  refine J_nil ?_
  refine E_then ?_
  refine R_seq ?_
  refine R_region ?_
  refine J_loadA rfl rfl rfl rfl ?_
  rename_i bh
  refine J_callr rfl (loghead_Put g q a _) (by exact Gives.refl) rfl rfl ?_
  rw [hg]
  simp only [if_true]
  have hl := headB_length hg
  refine J_move rfl rfl rfl ?_
  refine J_extract rfl rfl rfl rfl ?_
  refine J_extract rfl rfl rfl rfl ?_
  refine J_assign rfl rfl rfl ?_
  refine J_assign rfl rfl rfl ?_
  refine J_nil3 ?_
  refine E_then ?_
  refine R_seq ?_
  refine R_seq ?_
  refine R_region ?_
  refine J_move rfl rfl rfl ?_
  refine J_cmp rfl rfl rfl rfl rfl ?_
  refine J_nil2 ?_
  refine E_then ?_
  refine R_cond_false rfl ?_
  refine R_skip ?_
  refine E_then ?_
  refine R_seq ?_
  refine R_seq ?_
  refine R_draw ([cl bh 159 [.int .i64 g, .int .i64 q, .int .i64 a], walH b W p]) [8, 9] (by kernel_rfl) ?_
  (refine D_lookP (i := 0) rfl (by kernel_rfl) (by exact NP_then (NP_then NP_body)) (by exact Y_move rfl) rfl rfl ?_)
  (refine D_lookP (i := 1) rfl (by kernel_rfl) (by exact NP_then (NP_then NP_body)) (by exact Y_nilCheck rfl) rfl rfl ?_)
  (refine D_lookP (i := 2) rfl (by kernel_rfl) (by exact NP_then (NP_then NP_body)) (by exact Y_fieldAddr0 rfl) rfl rfl ?_)
  (refine D_look (i := 3) rfl (by kernel_rfl) (by exact NP_then (NP_then NP_body)) (by exact Gives.cons Take.here (Gives.cons Take.here Gives.nil)) (by exact Y_load rfl rfl) rfl rfl ?_)
  (refine D_lookP (i := 4) rfl (by kernel_rfl) (by exact NP_then (NP_then NP_body)) (by exact Y_fieldAddr0 rfl) rfl rfl ?_)
  (refine D_look (i := 5) rfl (by kernel_rfl) (by exact NP_then (NP_then NP_body)) (by exact Gives.cons Take.here (Gives.cons Take.here Gives.nil)) (by exact Y_load rfl rfl) rfl rfl ?_)
  (refine D_lookP (i := 6) rfl (by kernel_rfl) (by exact NP_then (NP_then NP_body)) (by exact Y_rem rfl rfl (by omega) (by omega)) rfl rfl ?_)
  (refine D_lookP (i := 7) rfl (by kernel_rfl) (by exact NP_then (NP_then NP_body)) (by exact Y_move rfl) rfl rfl ?_)
  refine D_try1 (i := 8) (by kernel_rfl) rfl ?_
  refine J_callr rfl (region_Write1 p.1 W.d W.V W.k W.fr 2 (g % 2) (headB g q a) hl (by omega) hf hV (by omega) _) (by exact Gives.cons (Take.next (Take.next (Take.next (Take.next (Take.next Take.here))))) (Gives.last (Take.next (Take.next Take.here)))) rfl rfl ?_
  refine D_last (by kernel_rfl) ?_
  refine D_try1 (i := 9) (by kernel_rfl) rfl ?_
  refine J_assign rfl rfl rfl ?_
  refine D_last (by kernel_rfl) ?_
  (first | refine D_end1 (by kernel_rfl) ?_ | refine D_end (by kernel_rfl) ?_)
  refine E_then ?_
  refine R_seq ?_
  refine R_region ?_
  refine J_move rfl rfl rfl ?_
  refine J_cmp rfl rfl rfl rfl rfl ?_
  refine J_nil2 ?_
  refine E_then ?_
  refine R_cond_false rfl ?_
  refine R_skip ?_
  refine E_then ?_
  refine R_seq ?_
  refine R_region ?_
  refine J_move rfl rfl rfl ?_
  refine J_nilCheck rfl rfl rfl ?_
  refine J_fieldAddr0 rfl rfl rfl ?_
  refine J_load rfl rfl rfl rfl ?_
  refine J_callr rfl (diskv_Flush W.d _ (W.k + 1) (by omega) _) (by exact Gives.refl) rfl rfl ?_
  skip
  refine J_callr rfl (wal_tried _ _) (by exact Gives.refl) rfl rfl ?_
  refine J_assign rfl rfl rfl ?_
  refine J_nil3 ?_
  refine E_then ?_
  refine R_ret ?_
  apply E_ret Tryz.results107
  · exact Res.tmp rfl (Res.nil)
  · intro w s
    refine ⟨rfl, shut_wal (p := p) ?_⟩
    dsimp only [walL, List.cons_append, List.nil_append]
    have s2 : Sat w (walH b W p :: reg p.1 W.d W.fr 2 :: reg p.2.1 W.d (W.fr + 2) (W.many - 2) :: shd p.2.2 W.K W.Lo :: dvk W.d (W.V.set (W.fr + g % 2).toNat (headB g q a)) (W.k + 1 + 1) :: F) := s.gives (by exact Gives.cons (Take.next (Take.next (Take.next Take.here))) (Gives.cons (Take.next Take.here) (Gives.cons (Take.next (Take.next Take.here)) (Gives.cons (Take.next (Take.next Take.here)) (Gives.cons Take.here (Gives.drop Gives.refl))))))
    exact s2
end Go.Proofs.Sol

/- A log over a disk, laid. -/
namespace Go.Proofs.Sol
open Go Go.Proofs
set_option maxRecDepth 100000
set_option maxHeartbeats 4000000
set_option linter.unusedVariables false
set_option linter.unusedSimpArgs false
attribute [local irreducible] R J JW E D Fn Y clf mpI own Sat Exit.then Exit.inBlock bodyPost bodyPostM Code.wpIn wpL
def zf (V : List Bytes) (a : Int) : Nat → List Bytes
  | 0 => V
  | j + 1 => (zf V a j).set (a + j).toNat zs64
theorem zf_length (V : List Bytes) (a : Int) (j : Nat) : (zf V a j).length = V.length := by
  induction j with
  | zero => rfl
  | succ j ih => simp only [zf, List.length_set, ih]
/-- A disk on which a log is laid. -/
def fmtV (V : List Bytes) (fr many : Int) : List Bytes := (zf (zf V fr 2) (fr + 2) (many - 2).toNat).set (fr + 1).toNat (headB 1 1 0)
theorem wal_Format (d : Nat) (V : List Bytes) (k : Nat) (fr many : Int) (h : walMay V.length fr many = true) (hV : V.length ≤ 1000) (hk : k < 10000000) (F : List HP) :
    Fn Tryz.prog 27 [.pointer (some ⟨d, 0, none⟩), .int .i64 fr, .int .i64 many] (dvk d V k :: F) (Pst (.int .i64 0) (dvk d (fmtV V fr many) (k + many.toNat + 2) :: F)) := by
  have hs := walMay_spec h
  refine Fn_enter Tryz.func27 rfl Tryz.ntmps27 rfl ?_
  refine R_seq ?_
  refine R_region ?_
  refine J_assign rfl rfl rfl ?_
  refine J_nil ?_
  refine E_then ?_
  refine R_seq ?_
  refine R_region ?_
  refine J_move rfl rfl rfl ?_
  refine J_move rfl rfl rfl ?_
  refine J_move rfl rfl rfl ?_
  refine J_callm rfl (wal_parted d V k fr many h hV F) Gives.refl rfl rfl ?_
  rintro v w ⟨b, rfl, s0⟩
  obtain ⟨p, s0⟩ := open_wal s0
  dsimp only [walL, List.cons_append, List.nil_append] at s0
  refine JW.of s0 ?_
  refine J_move rfl rfl rfl ?_
  refine J_extract rfl rfl rfl rfl ?_
  refine J_extract rfl rfl rfl rfl ?_
  refine J_assign rfl rfl rfl ?_
  refine J_assign rfl rfl rfl ?_
  refine J_nil3 ?_
  refine E_then ?_
  refine R_seq ?_
  refine R_seq ?_
  refine R_region ?_
  refine J_move rfl rfl rfl ?_
  refine J_cmp rfl rfl rfl rfl rfl ?_
  refine J_nil2 ?_
  refine E_then ?_
  refine R_cond_false rfl ?_
  refine R_skip ?_
  refine E_then ?_
  refine R_seq ?_
  refine R_region ?_
  refine J_makeSlice rfl rfl (by omega) (by omega) (by omega) rfl rfl ?_
  intro bz
  rw [zeroRow_one]
  have hz : List.replicate (Int.toNat 64 * 1) (Value.int .u8 0) = zs64.map byv := rfl
  have hz2 : List.replicate (Int.toNat 64) (Value.int .u8 0) = zs64.map byv := rfl
  first
    | rw [hz]
    | rw [hz2]
  refine J_bytesToStr (cs := zs64) rfl (by simp) rfl rfl rfl ?_
  refine J_assign rfl rfl rfl ?_
  refine J_nil2 ?_
  refine E_then ?_
  refine R_seq ?_
  refine R_seq ?_
  refine R_region ?_
  refine J_move rfl rfl rfl ?_
  refine J_nil1 ?_
  refine E_then ?_
  refine R_block ?_
  refine R_loop (X := {j : Nat // j ≤ 2}) (fun j => [(26, .int .i64 (j.1 : Int)), (7, .pointer (some ⟨b, 0, none⟩)), (9, .string (S zs64))])
    (fun j => walH b (Wl.none_ d fr many V k) p :: reg p.1 d fr 2 :: reg p.2.1 d (fr + 2) (many - 2) :: shd p.2.2 [] [] :: dvk d (zf V fr j.1) (k + j.1) :: F) (fun j => 2 - j.1) ⟨0, by omega⟩ (by exact sub_cons rfl (sub_cons rfl (sub_cons rfl sub_nil))) (by exact Gives.cons (Take.next Take.here) (Gives.cons (Take.next Take.here) (Gives.cons (Take.next Take.here) (Gives.cons (Take.next Take.here) (Gives.cons (Take.next Take.here) (Gives.drop Gives.refl)))))) ?_
  rintro ⟨j, hj⟩
  dsimp only
  have hl := zf_length V fr j
  refine R_seq ?_
  refine R_region ?_
  refine J_cmp rfl rfl rfl rfl rfl ?_
  refine J_nil1 ?_
  refine E_then ?_
  refine R_seq ?_
  refine R_cond rfl (fun hh => ?_) (fun hh => ?_)
  simp only [decide_eq_true_eq, decide_eq_false_iff_not, Bool.and_eq_true, Bool.or_eq_true, Bool.not_eq_true', Bool.not_eq_false', beq_iff_eq, bne_iff_ne, beq_eq_false_iff_ne, bne_eq_false_iff_eq, ne_eq, ge_iff_le, gt_iff_lt, Int.not_le, Int.not_lt, Bool.and_eq_false_iff, Bool.or_eq_false_iff, Decidable.not_not] at hh
  refine R_skip ?_
  refine E_then ?_
  refine R_seq ?_
  refine R_block ?_
  refine R_seq ?_
  refine R_region ?_
  refine J_move rfl rfl rfl ?_
  refine J_assign rfl rfl rfl ?_
  refine J_nil1 ?_
  refine E_then ?_
  refine R_seq ?_
  refine R_region ?_
  refine J_move rfl rfl rfl ?_
  refine J_nilCheck rfl rfl rfl ?_
  refine J_fieldAddr0 rfl rfl rfl ?_
  refine J_load rfl rfl rfl rfl ?_
  refine J_move rfl rfl rfl ?_
  refine J_move rfl rfl rfl ?_
  rotate_left
  simp only [decide_eq_true_eq, decide_eq_false_iff_not, Bool.and_eq_true, Bool.or_eq_true, Bool.not_eq_true', Bool.not_eq_false', beq_iff_eq, bne_iff_ne, beq_eq_false_iff_ne, bne_eq_false_iff_eq, ne_eq, ge_iff_le, gt_iff_lt, Int.not_le, Int.not_lt, Bool.and_eq_false_iff, Bool.or_eq_false_iff, Decidable.not_not] at hh
  refine R_exit ?_
  refine E_then_exit ?_
  refine E_then_exit ?_
  refine E_block_hit ?_
  refine E_then ?_
  refine R_seq ?_
  refine R_seq ?_
  refine R_region ?_
  refine J_move rfl rfl rfl ?_
  refine J_nilCheck rfl rfl rfl ?_
  refine J_fieldAddr0 rfl rfl rfl ?_
  refine J_load rfl rfl rfl rfl ?_
  rotate_left
  · refine J_callr rfl (region_Write1 p.1 d (zf V fr j) (k + j) fr 2 (j : Int) zs64 rfl (by omega) (by omega) (by omega) (by omega) _) (by exact Gives.cons (Take.next (Take.next (Take.next (Take.next Take.here)))) (Gives.last (Take.next Take.here))) rfl rfl ?_
    refine J_assign rfl rfl rfl ?_
    refine J_nil3 ?_
    refine E_then ?_
    refine R_seq ?_
    refine R_region ?_
    refine J_move rfl rfl rfl ?_
    refine J_cmp rfl rfl rfl rfl rfl ?_
    refine J_nil2 ?_
    refine E_then ?_
    refine R_cond_false rfl ?_
    refine R_skip ?_
    refine E_block_normal ?_
    refine E_then ?_
    refine R_region ?_
    refine J_ari64 rfl rfl rfl (by omega) rfl rfl ?_
    refine J_moveg rfl rfl rfl ?_
    refine J_nil1 ?_
    exact E_thenI fun a w he hs => ⟨⟨j + 1, by omega⟩, by simp; omega, he.sub (by exact sub_cons rfl (sub_cons rfl (sub_cons rfl sub_nil))), by
      have hs2 : Sat w (walH b (Wl.none_ d fr many V k) p :: reg p.1 d fr 2 :: reg p.2.1 d (fr + 2) (many - 2) :: shd p.2.2 [] [] :: dvk d ((zf V fr j).set (fr + (j : Int)).toNat zs64) (k + j + 1) :: F) := hs.gives (by exact Gives.cons (Take.next (Take.next Take.here)) (Gives.cons (Take.next Take.here) (Gives.cons (Take.next Take.here) (Gives.last (Take.next Take.here)))))
      exact hs2⟩
  · have ej : j = 2 := by omega
    subst ej
    refine J_callr rfl (region_Many p.2.1 d (fr + 2) (many - 2) _) (by exact Gives.last (Take.next (Take.next Take.here))) rfl rfl ?_
    refine J_move rfl rfl rfl ?_
    refine J_nil3 ?_
    refine E_then ?_
    refine R_block ?_
    refine R_loop (X := {j : Nat // (j : Int) ≤ many - 2}) (fun j => [(45, .int .i64 (j.1 : Int)), (44, .int .i64 (many - 2)), (7, .pointer (some ⟨b, 0, none⟩)), (9, .string (S zs64))])
      (fun j => walH b (Wl.none_ d fr many V k) p :: reg p.1 d fr 2 :: reg p.2.1 d (fr + 2) (many - 2) :: shd p.2.2 [] [] :: dvk d (zf (zf V fr 2) (fr + 2) j.1) (k + 2 + j.1) :: F) (fun j => many.toNat - j.1) ⟨0, by omega⟩ (by exact sub_cons rfl (sub_cons rfl (sub_cons rfl (sub_cons rfl sub_nil)))) (by exact Gives.cons (Take.next Take.here) (Gives.last (Take.next Take.here))) ?_
    rintro ⟨j, hj⟩
    dsimp only
    have hl2 := zf_length (zf V fr 2) (fr + 2) j
    refine R_seq ?_
    refine R_region ?_
    refine J_cmp rfl rfl rfl rfl rfl ?_
    refine J_nil1 ?_
    refine E_then ?_
    refine R_seq ?_
    refine R_cond rfl (fun hh => ?_) (fun hh => ?_)
    simp only [decide_eq_true_eq, decide_eq_false_iff_not, Bool.and_eq_true, Bool.or_eq_true, Bool.not_eq_true', Bool.not_eq_false', beq_iff_eq, bne_iff_ne, beq_eq_false_iff_ne, bne_eq_false_iff_eq, ne_eq, ge_iff_le, gt_iff_lt, Int.not_le, Int.not_lt, Bool.and_eq_false_iff, Bool.or_eq_false_iff, Decidable.not_not] at hh
    refine R_skip ?_
    refine E_then ?_
    refine R_seq ?_
    refine R_block ?_
    refine R_seq ?_
    refine R_region ?_
    refine J_move rfl rfl rfl ?_
    refine J_assign rfl rfl rfl ?_
    refine J_nil1 ?_
    refine E_then ?_
    refine R_seq ?_
    refine R_region ?_
    refine J_move rfl rfl rfl ?_
    refine J_nilCheck rfl rfl rfl ?_
    refine J_fieldAddr0 rfl rfl rfl ?_
    refine J_load rfl rfl rfl rfl ?_
    refine J_move rfl rfl rfl ?_
    refine J_move rfl rfl rfl ?_
    rotate_left
    simp only [decide_eq_true_eq, decide_eq_false_iff_not, Bool.and_eq_true, Bool.or_eq_true, Bool.not_eq_true', Bool.not_eq_false', beq_iff_eq, bne_iff_ne, beq_eq_false_iff_ne, bne_eq_false_iff_eq, ne_eq, ge_iff_le, gt_iff_lt, Int.not_le, Int.not_lt, Bool.and_eq_false_iff, Bool.or_eq_false_iff, Decidable.not_not] at hh
    refine R_exit ?_
    refine E_then_exit ?_
    refine E_then_exit ?_
    refine E_block_hit ?_
    refine E_then ?_
    refine R_seq ?_
    refine R_region ?_
    refine J_move rfl rfl rfl ?_
    refine J_build rfl rfl rfl rfl ?_
    rotate_left
    · refine J_callr rfl (region_Write1 p.2.1 d (zf (zf V fr 2) (fr + 2) j) (k + 2 + j) (fr + 2) (many - 2) (j : Int) zs64 rfl (by omega) (by omega) (by omega) (by omega) _) (by exact Gives.cons (Take.next (Take.next (Take.next (Take.next Take.here)))) (Gives.last (Take.next (Take.next Take.here)))) rfl rfl ?_
      refine J_assign rfl rfl rfl ?_
      refine J_nil3 ?_
      refine E_then ?_
      refine R_seq ?_
      refine R_region ?_
      refine J_move rfl rfl rfl ?_
      refine J_cmp rfl rfl rfl rfl rfl ?_
      refine J_nil2 ?_
      refine E_then ?_
      refine R_cond_false rfl ?_
      refine R_skip ?_
      refine E_block_normal ?_
      refine E_then ?_
      refine R_region ?_
      refine J_ari64 rfl rfl rfl (by omega) rfl rfl ?_
      refine J_moveg rfl rfl rfl ?_
      refine J_nil1 ?_
      exact E_thenI fun a w he hs => ⟨⟨j + 1, by omega⟩, by simp; omega, he.sub (by exact sub_cons rfl (sub_cons rfl (sub_cons rfl (sub_cons rfl sub_nil)))), by
        have hs2 : Sat w (walH b (Wl.none_ d fr many V k) p :: reg p.1 d fr 2 :: reg p.2.1 d (fr + 2) (many - 2) :: shd p.2.2 [] [] :: dvk d ((zf (zf V fr 2) (fr + 2) j).set (fr + 2 + (j : Int)).toNat zs64) (k + 2 + j + 1) :: F) := hs.gives (by exact Gives.cons (Take.next (Take.next Take.here)) (Gives.cons (Take.next (Take.next Take.here)) (Gives.cons (Take.next Take.here) (Gives.last (Take.next Take.here)))))
        exact hs2⟩
    · have ej : j = (many - 2).toNat := by omega
      subst ej
      refine J.open_ (α := Unit) (M := fun _ => wal b { Wl.none_ d fr many V k with V := zf (zf V fr 2) (fr + 2) (many - 2).toNat, k := k + 2 + (many - 2).toNat } :: F) (fun w s => ⟨(), shut_wal (p := p) (by exact s)⟩) ?_
      rintro ⟨⟩
      refine J_callr rfl (wal_head b { Wl.none_ d fr many V k with V := zf (zf V fr 2) (fr + 2) (many - 2).toNat, k := k + 2 + (many - 2).toNat } 1 1 0 rfl (by dsimp only [Wl.none_]; omega) (by dsimp only; omega) _) (by exact Gives.refl) rfl rfl ?_
      skip
      refine J_callr rfl (wal_number _) (by exact Gives.refl) rfl rfl ?_
      refine J_assign rfl rfl rfl ?_
      refine J_nil3 ?_
      refine E_then ?_
      refine R_ret ?_
      apply E_ret Tryz.results27
      · exact Res.tmp rfl (Res.nil)
      · intro w s
        refine ⟨rfl, ?_⟩
        obtain ⟨q, s⟩ := open_wal s
        dsimp only [walL, List.cons_append, List.nil_append, Wl.none_] at s
        have e : k + many.toNat + 2 = k + 2 + (many - 2).toNat + 2 := by omega
        rw [e]
        have s2 : Sat w (dvk d ((zf (zf V fr 2) (fr + 2) (many - 2).toNat).set (fr + 1 % 2).toNat (headB 1 1 0)) (k + 2 + (many - 2).toNat + 2) :: F) := s.gives (by exact Gives.cons (Take.next (Take.next (Take.next (Take.next Take.here)))) (Gives.drop (Gives.drop (Gives.drop (Gives.drop Gives.refl)))))
        exact s2
end Go.Proofs.Sol

/- Heads of a log, read. -/
namespace Go.Proofs.Sol
open Go Go.Proofs
set_option maxRecDepth 100000
set_option maxHeartbeats 4000000
set_option linter.unusedVariables false
set_option linter.unusedSimpArgs false
attribute [local irreducible] R J JW E D Fn Y clf mpI own Sat Exit.then Exit.inBlock bodyPost bodyPostM Code.wpIn wpL
abbrev headT (h : Int × Int × Int) : Value := headA h.1 h.2.1 h.2.2
theorem loghead_Get (s : Bytes) (F : List HP) : Fn Tryz.prog 220 [.string (S s)] F (Pst (.tuple #[headT (headGet s).1, .int .i64 (headGet s).2]) F) := by
  by_cases h64 : s.length = 64
  · refine Fn_enter Tryz.func220 rfl Tryz.ntmps220 rfl ?_
    refine R_seq ?_
    refine R_region ?_
    refine J_alloc rfl rfl ?_; intro
    refine J_assign rfl rfl rfl ?_
    refine J_nil ?_
    refine E_then ?_
    refine R_seq ?_
    refine R_seq ?_
    refine R_region ?_
    refine J_move rfl rfl rfl ?_
    refine J_len_str rfl rfl rfl ?_
    refine J_cmp rfl rfl rfl rfl rfl ?_
    refine J_nil3 ?_
    refine E_then ?_
    refine R_cond rfl (fun hh => ?_) (fun hh => ?_)
    simp only [decide_eq_true_eq, decide_eq_false_iff_not, Bool.and_eq_true, Bool.or_eq_true, Bool.not_eq_true', Bool.not_eq_false', beq_iff_eq, bne_iff_ne, beq_eq_false_iff_ne, bne_eq_false_iff_eq, ne_eq, ge_iff_le, gt_iff_lt, Int.not_le, Int.not_lt, Bool.and_eq_false_iff, Bool.or_eq_false_iff, Decidable.not_not] at hh
    exfalso; omega
    simp only [decide_eq_true_eq, decide_eq_false_iff_not, Bool.and_eq_true, Bool.or_eq_true, Bool.not_eq_true', Bool.not_eq_false', beq_iff_eq, bne_iff_ne, beq_eq_false_iff_ne, bne_eq_false_iff_eq, ne_eq, ge_iff_le, gt_iff_lt, Int.not_le, Int.not_lt, Bool.and_eq_false_iff, Bool.or_eq_false_iff, Decidable.not_not] at hh
    refine R_skip ?_
    refine E_then ?_
    refine R_seq ?_
    refine R_region ?_
    refine J_move rfl rfl rfl ?_
    refine J_callm rfl (field_New s _) Gives.refl rfl rfl ?_
    rintro v w ⟨b, rfl, s0⟩
    refine JW.of s0 ?_
    refine J_assign rfl rfl rfl ?_
    refine J_nil2 ?_
    refine E_then ?_
    refine R_seq ?_
    refine R_seq ?_
    refine R_region ?_
    refine J_move rfl rfl rfl ?_
    refine J_callr rfl (field_Bytes b _ 1 _) (by exact Gives.refl) rfl rfl ?_
    rw [(rd_step (s := s) (n := 1) (by omega)).1, (rd_step (s := s) (n := 1) (by omega)).2]
    have e3 : s.take (Int.toNat 1) = s.take 1 := rfl
    rw [e3]
    by_cases h1 : s.take 1 = [76]
    · rw [h1]
      refine J_str_cmp rfl rfl rfl rfl rfl ?_
      refine J_nil3 ?_
      refine E_then ?_
      refine R_cond_false rfl ?_
      refine R_skip ?_
      refine E_then ?_
      refine R_seq ?_
      refine R_region ?_
      refine J_move rfl rfl rfl ?_
      · have l1 : (s.drop (Int.toNat 1)).length = 63 := by simp; omega
        refine J_callr rfl (field_Num b _ 6 (by omega) _) (by exact Gives.refl) rfl rfl ?_
        rw [(rd_step (s := s.drop (Int.toNat 1)) (n := 6) (by omega)).1, rd_num (s := s.drop (Int.toNat 1)) (n := 6) (by omega)]
        refine J_move rfl rfl rfl ?_
        have l2 : ((s.drop (Int.toNat 1)).drop (Int.toNat 6)).length = 57 := by simp; omega
        refine J_callr rfl (field_Num b _ 6 (by omega) _) (by exact Gives.refl) rfl rfl ?_
        rw [(rd_step (s := (s.drop (Int.toNat 1)).drop (Int.toNat 6)) (n := 6) (by omega)).1, rd_num (s := (s.drop (Int.toNat 1)).drop (Int.toNat 6)) (n := 6) (by omega)]
        refine J_move rfl rfl rfl ?_
        have l3 : (((s.drop (Int.toNat 1)).drop (Int.toNat 6)).drop (Int.toNat 6)).length = 51 := by simp; omega
        refine J_callr rfl (field_Num b _ 2 (by omega) _) (by exact Gives.refl) rfl rfl ?_
        rw [(rd_step (s := ((s.drop (Int.toNat 1)).drop (Int.toNat 6)).drop (Int.toNat 6)) (n := 2) (by omega)).1, rd_num (s := ((s.drop (Int.toNat 1)).drop (Int.toNat 6)).drop (Int.toNat 6)) (n := 2) (by omega)]
        have d1 : s.drop (Int.toNat 1) = s.drop 1 := rfl
        have d2 : (s.drop 1).drop (Int.toNat 6) = s.drop 7 := by rw [List.drop_drop]; rfl
        have d3 : (s.drop 7).drop (Int.toNat 6) = s.drop 13 := by rw [List.drop_drop]; rfl
        have d4 : (s.drop 13).drop (Int.toNat 2) = s.drop 15 := by rw [List.drop_drop]; rfl
        rw [d1, d2, d3, d4]
        have l4 : (s.drop 15).length = 49 := by simp; omega
        have hn : headNum s = ((num ((s.drop 1).take 6) : Int), (num ((s.drop 7).take 6) : Int), (num ((s.drop 13).take 2) : Int)) := rfl
        have t1 : (s.drop 1).take (Int.toNat 6) = (s.drop 1).take 6 := rfl
        have t2 : (s.drop 7).take (Int.toNat 6) = (s.drop 7).take 6 := rfl
        have t3 : (s.drop 13).take (Int.toNat 2) = (s.drop 13).take 2 := rfl
        rw [t1, t2, t3]
        have hg : headGet s = if (s.drop 15).take 4 ≠ tail (s.take 15) then ((0, 0, 0), 5) else if headMay (headNum s).1 (headNum s).2.1 (headNum s).2.2 = true ∧ headB (headNum s).1 (headNum s).2.1 (headNum s).2.2 = s then (headNum s, 0) else ((0, 0, 0), 4) := by
          conv => lhs; unfold headGet
          rw [if_neg (by simp [h64]), if_neg (by simp [h1])]
        rw [hg, hn]
        dsimp only
        generalize (num ((s.drop 1).take 6) : Int) = x1
        generalize (num ((s.drop 7).take 6) : Int) = x2
        generalize (num ((s.drop 13).take 2) : Int) = x3
        refine J_build rfl rfl rfl rfl ?_
        refine J_alloc rfl rfl ?_; intro
        refine J_storeA rfl rfl rfl rfl rfl rfl ?_
        refine J_nil3 ?_
        refine E_then ?_
        refine R_seq ?_
        refine R_seq ?_
        refine R_region ?_
        refine J_move rfl rfl rfl ?_
        refine J_slice_hi rfl rfl (by omega) (by omega) rfl rfl ?_
        have t4 : s.take (Int.toNat 15) = s.take 15 := rfl
        rw [t4]
        refine J_callr rfl (cyclic_Tail (s.take 15) (by simp; omega) _) (by exact Gives.refl) rfl rfl ?_
        have lt := tail_length (s.take 15)
        refine J_assign rfl rfl rfl ?_
        refine J_nil3 ?_
        refine E_then ?_
        refine R_seq ?_
        refine R_region ?_
        refine J_move rfl rfl rfl ?_
        refine J_move rfl rfl rfl ?_
        refine J_len_str rfl rfl rfl ?_
        refine J_callr rfl (field_Bytes b _ _ _) (by exact Gives.last (Take.next Take.here)) rfl rfl ?_
        rw [(rd_step (s := s.drop 15) (n := ((tail (s.take 15)).length : Int)) (by omega)).1, (rd_step (s := s.drop 15) (n := ((tail (s.take 15)).length : Int)) (by omega)).2]
        have t5 : (s.drop 15).take ((tail (s.take 15)).length : Int).toNat = (s.drop 15).take 4 := by rw [lt]; rfl
        rw [t5]
        by_cases h2 : (s.drop 15).take 4 = tail (s.take 15)
        · rw [h2, if_neg (by simp)]
          refine J_move rfl rfl rfl ?_
          refine J_str_cmp rfl rfl rfl rfl rfl ?_
          refine J_nil3 ?_
          refine E_then ?_
          refine R_cond rfl (fun hh => ?_) (fun hh => ?_)
          simp only [decide_eq_true_eq, decide_eq_false_iff_not, Bool.and_eq_true, Bool.or_eq_true, Bool.not_eq_true', Bool.not_eq_false', beq_iff_eq, bne_iff_ne, beq_eq_false_iff_ne, bne_eq_false_iff_eq, ne_eq, ge_iff_le, gt_iff_lt, Int.not_le, Int.not_lt, Bool.and_eq_false_iff, Bool.or_eq_false_iff, Decidable.not_not] at hh
          refine R_seq ?_
          refine R_region ?_
          refine J_build rfl rfl rfl rfl ?_
          refine J_storeA rfl rfl rfl rfl rfl rfl ?_
          refine J_assign rfl rfl rfl ?_
          refine J_nil1 ?_
          refine E_then ?_
          refine R_ret ?_
          refine E_then_ret ?_
          rotate_left
          simp only [decide_eq_true_eq, decide_eq_false_iff_not, Bool.and_eq_true, Bool.or_eq_true, Bool.not_eq_true', Bool.not_eq_false', beq_iff_eq, bne_iff_ne, beq_eq_false_iff_ne, bne_eq_false_iff_eq, ne_eq, ge_iff_le, gt_iff_lt, Int.not_le, Int.not_lt, Bool.and_eq_false_iff, Bool.or_eq_false_iff, Decidable.not_not] at hh
          refine R_skip ?_
          refine E_then ?_
          refine R_seq ?_
          refine R_seq ?_
          refine R_region ?_
          refine J_loadA rfl rfl rfl rfl ?_
          rotate_left
          · exact absurd trivial hh
          · refine J_callr rfl (loghead_Put x1 x2 x3 _) (by exact Gives.refl) rfl rfl ?_
            by_cases h3 : headMay x1 x2 x3 = true
            · rw [h3]
              simp only [if_true, true_and]
              by_cases h4 : headB x1 x2 x3 = s
              · rw [if_pos h4, h4]
                refine J_move rfl rfl rfl ?_
                refine J_extract rfl rfl rfl rfl ?_
                refine J_extract rfl rfl rfl rfl ?_
                refine J_assign rfl rfl rfl ?_
                refine J_assign rfl rfl rfl ?_
                refine J_nil3 ?_
                refine E_then ?_
                refine R_seq ?_
                refine R_region ?_
                refine J_move rfl rfl rfl ?_
                refine J_cmp rfl rfl rfl rfl rfl ?_
                refine J_move rfl rfl rfl ?_
                refine J_guard rfl rfl rfl ?_
                refine J_move rfl rfl rfl ?_
                refine J_guard rfl rfl rfl ?_
                refine J_move rfl rfl rfl ?_
                refine J_guard rfl rfl rfl ?_
                refine J_str_cmp rfl rfl rfl rfl rfl ?_
                refine J_pick_false rfl rfl rfl rfl ?_
                refine J_nil3 ?_
                refine E_then ?_
                refine R_cond rfl (fun hh => ?_) (fun hh => ?_)
                simp only [decide_eq_true_eq, decide_eq_false_iff_not, Bool.and_eq_true, Bool.or_eq_true, Bool.not_eq_true', Bool.not_eq_false', beq_iff_eq, bne_iff_ne, beq_eq_false_iff_ne, bne_eq_false_iff_eq, ne_eq, ge_iff_le, gt_iff_lt, Int.not_le, Int.not_lt, Bool.and_eq_false_iff, Bool.or_eq_false_iff, Decidable.not_not] at hh
                refine R_seq ?_
                refine R_region ?_
                refine J_build rfl rfl rfl rfl ?_
                refine J_storeA rfl rfl rfl rfl rfl rfl ?_
                refine J_assign rfl rfl rfl ?_
                refine J_nil1 ?_
                refine E_then ?_
                refine R_ret ?_
                refine E_then_ret ?_
                rotate_left
                simp only [decide_eq_true_eq, decide_eq_false_iff_not, Bool.and_eq_true, Bool.or_eq_true, Bool.not_eq_true', Bool.not_eq_false', beq_iff_eq, bne_iff_ne, beq_eq_false_iff_ne, bne_eq_false_iff_eq, ne_eq, ge_iff_le, gt_iff_lt, Int.not_le, Int.not_lt, Bool.and_eq_false_iff, Bool.or_eq_false_iff, Decidable.not_not] at hh
                refine R_skip ?_
                refine E_then ?_
                refine R_seq ?_
                refine R_region ?_
                refine J_loadA rfl rfl rfl rfl ?_
                refine J_storeA rfl rfl rfl rfl rfl rfl ?_
                refine J_assign rfl rfl rfl ?_
                refine J_nil1 ?_
                refine E_then ?_
                refine R_ret ?_
                rotate_left
                all_goals first
                  | exact absurd rfl hh
                  | exact absurd trivial hh
                  | (apply E_retP Tryz.results220
                     · exact Res_cellA rfl rfl (Res.tmp rfl (Res.nil))
                     · exact Gives.drop (Gives.drop (Gives.drop Gives.refl))
                     rfl)
              · rw [if_neg h4]
                refine J_move rfl rfl rfl ?_
                refine J_extract rfl rfl rfl rfl ?_
                refine J_extract rfl rfl rfl rfl ?_
                refine J_assign rfl rfl rfl ?_
                refine J_assign rfl rfl rfl ?_
                refine J_nil3 ?_
                refine E_then ?_
                refine R_seq ?_
                refine R_region ?_
                refine J_move rfl rfl rfl ?_
                refine J_cmp rfl rfl rfl rfl rfl ?_
                refine J_move rfl rfl rfl ?_
                refine J_guard rfl rfl rfl ?_
                refine J_move rfl rfl rfl ?_
                refine J_guard rfl rfl rfl ?_
                refine J_move rfl rfl rfl ?_
                refine J_guard rfl rfl rfl ?_
                refine J_str_cmp rfl rfl rfl rfl rfl ?_
                refine J_pick_false rfl rfl rfl rfl ?_
                refine J_nil3 ?_
                refine E_then ?_
                refine R_cond rfl (fun hh => ?_) (fun hh => ?_)
                simp only [decide_eq_true_eq, decide_eq_false_iff_not, Bool.and_eq_true, Bool.or_eq_true, Bool.not_eq_true', Bool.not_eq_false', beq_iff_eq, bne_iff_ne, beq_eq_false_iff_ne, bne_eq_false_iff_eq, ne_eq, ge_iff_le, gt_iff_lt, Int.not_le, Int.not_lt, Bool.and_eq_false_iff, Bool.or_eq_false_iff, Decidable.not_not] at hh
                refine R_seq ?_
                refine R_region ?_
                refine J_build rfl rfl rfl rfl ?_
                refine J_storeA rfl rfl rfl rfl rfl rfl ?_
                refine J_assign rfl rfl rfl ?_
                refine J_nil1 ?_
                refine E_then ?_
                refine R_ret ?_
                refine E_then_ret ?_
                rotate_left
                simp only [decide_eq_true_eq, decide_eq_false_iff_not, Bool.and_eq_true, Bool.or_eq_true, Bool.not_eq_true', Bool.not_eq_false', beq_iff_eq, bne_iff_ne, beq_eq_false_iff_ne, bne_eq_false_iff_eq, ne_eq, ge_iff_le, gt_iff_lt, Int.not_le, Int.not_lt, Bool.and_eq_false_iff, Bool.or_eq_false_iff, Decidable.not_not] at hh
                refine R_skip ?_
                refine E_then ?_
                refine R_seq ?_
                refine R_region ?_
                refine J_loadA rfl rfl rfl rfl ?_
                refine J_storeA rfl rfl rfl rfl rfl rfl ?_
                refine J_assign rfl rfl rfl ?_
                refine J_nil1 ?_
                refine E_then ?_
                refine R_ret ?_
                rotate_left
                all_goals first
                  | exact absurd hh h4
                  | (apply E_retP Tryz.results220
                     · exact Res_cellA rfl rfl (Res.tmp rfl (Res.nil))
                     · exact Gives.drop (Gives.drop (Gives.drop Gives.refl))
                     rfl)
            · rw [Bool.not_eq_true] at h3
              rw [h3]
              simp only [Bool.false_eq_true, if_false, false_and]
              refine J_move rfl rfl rfl ?_
              refine J_extract rfl rfl rfl rfl ?_
              refine J_extract rfl rfl rfl rfl ?_
              refine J_assign rfl rfl rfl ?_
              refine J_assign rfl rfl rfl ?_
              refine J_nil3 ?_
              refine E_then ?_
              refine R_seq ?_
              refine R_region ?_
              refine J_move rfl rfl rfl ?_
              refine J_cmp rfl rfl rfl rfl rfl ?_
              refine J_move rfl rfl rfl ?_
              refine J_guard_not rfl rfl rfl rfl rfl rfl ?_
              refine J_guard_not rfl rfl rfl rfl rfl rfl ?_
              refine J_guard_not rfl rfl rfl rfl rfl rfl ?_
              refine J_pick_true rfl rfl rfl rfl ?_
              refine J_nil3 ?_
              refine E_then ?_
              refine R_cond_true rfl ?_
              refine R_seq ?_
              refine R_region ?_
              refine J_build rfl rfl rfl rfl ?_
              refine J_storeA rfl rfl rfl rfl rfl rfl ?_
              refine J_assign rfl rfl rfl ?_
              refine J_nil1 ?_
              refine E_then ?_
              refine R_ret ?_
              refine E_then_ret ?_
              apply E_retP Tryz.results220
              · exact Res_cellA rfl rfl (Res.tmp rfl (Res.nil))
              · exact Gives.drop (Gives.drop (Gives.drop Gives.refl))
              rfl
        · rw [if_pos h2]
          refine J_move rfl rfl rfl ?_
          refine J_str_cmp rfl rfl rfl rfl rfl ?_
          refine J_nil3 ?_
          refine E_then ?_
          refine R_cond rfl (fun hh => ?_) (fun hh => ?_)
          simp only [decide_eq_true_eq, decide_eq_false_iff_not, Bool.and_eq_true, Bool.or_eq_true, Bool.not_eq_true', Bool.not_eq_false', beq_iff_eq, bne_iff_ne, beq_eq_false_iff_ne, bne_eq_false_iff_eq, ne_eq, ge_iff_le, gt_iff_lt, Int.not_le, Int.not_lt, Bool.and_eq_false_iff, Bool.or_eq_false_iff, Decidable.not_not] at hh
          refine R_seq ?_
          refine R_region ?_
          refine J_build rfl rfl rfl rfl ?_
          refine J_storeA rfl rfl rfl rfl rfl rfl ?_
          refine J_assign rfl rfl rfl ?_
          refine J_nil1 ?_
          refine E_then ?_
          refine R_ret ?_
          refine E_then_ret ?_
          rotate_left
          simp only [decide_eq_true_eq, decide_eq_false_iff_not, Bool.and_eq_true, Bool.or_eq_true, Bool.not_eq_true', Bool.not_eq_false', beq_iff_eq, bne_iff_ne, beq_eq_false_iff_ne, bne_eq_false_iff_eq, ne_eq, ge_iff_le, gt_iff_lt, Int.not_le, Int.not_lt, Bool.and_eq_false_iff, Bool.or_eq_false_iff, Decidable.not_not] at hh
          refine R_skip ?_
          refine E_then ?_
          refine R_seq ?_
          refine R_seq ?_
          refine R_region ?_
          refine J_loadA rfl rfl rfl rfl ?_
          rotate_left
          · apply E_retP Tryz.results220
            · exact Res_cellA rfl rfl (Res.tmp rfl (Res.nil))
            · exact Gives.drop (Gives.drop (Gives.drop Gives.refl))
            rfl
          · exact absurd hh h2
    · have hg : headGet s = ((0, 0, 0), 4) := by unfold headGet; rw [if_neg (by simp [h64]), if_pos h1]
      rw [hg]
      refine J_str_cmp rfl rfl rfl rfl rfl ?_
      refine J_nil3 ?_
      refine E_then ?_
      refine R_cond rfl (fun hh => ?_) (fun hh => ?_)
      simp only [decide_eq_true_eq, decide_eq_false_iff_not, Bool.and_eq_true, Bool.or_eq_true, Bool.not_eq_true', Bool.not_eq_false', beq_iff_eq, bne_iff_ne, beq_eq_false_iff_ne, bne_eq_false_iff_eq, ne_eq, ge_iff_le, gt_iff_lt, Int.not_le, Int.not_lt, Bool.and_eq_false_iff, Bool.or_eq_false_iff, Decidable.not_not] at hh
      refine R_seq ?_
      refine R_region ?_
      refine J_build rfl rfl rfl rfl ?_
      refine J_storeA rfl rfl rfl rfl rfl rfl ?_
      refine J_assign rfl rfl rfl ?_
      refine J_nil1 ?_
      refine E_then ?_
      refine R_ret ?_
      refine E_then_ret ?_
      rotate_left
      simp only [decide_eq_true_eq, decide_eq_false_iff_not, Bool.and_eq_true, Bool.or_eq_true, Bool.not_eq_true', Bool.not_eq_false', beq_iff_eq, bne_iff_ne, beq_eq_false_iff_ne, bne_eq_false_iff_eq, ne_eq, ge_iff_le, gt_iff_lt, Int.not_le, Int.not_lt, Bool.and_eq_false_iff, Bool.or_eq_false_iff, Decidable.not_not] at hh
      refine R_skip ?_
      refine E_then ?_
      refine R_seq ?_
      refine R_region ?_
      refine J_move rfl rfl rfl ?_
      rotate_left
      · apply E_retP Tryz.results220
        · exact Res_cellA rfl rfl (Res.tmp rfl (Res.nil))
        · exact Gives.drop (Gives.drop Gives.refl)
        rfl
      · exact absurd hh h1
  · have hg : headGet s = ((0, 0, 0), 12) := by unfold headGet; rw [if_pos h64]
    rw [hg]
    refine Fn_enter Tryz.func220 rfl Tryz.ntmps220 rfl ?_
    refine R_seq ?_
    refine R_region ?_
    refine J_alloc rfl rfl ?_; intro
    refine J_assign rfl rfl rfl ?_
    refine J_nil ?_
    refine E_then ?_
    refine R_seq ?_
    refine R_seq ?_
    refine R_region ?_
    refine J_move rfl rfl rfl ?_
    refine J_len_str rfl rfl rfl ?_
    refine J_cmp rfl rfl rfl rfl rfl ?_
    refine J_nil3 ?_
    refine E_then ?_
    refine R_cond rfl (fun hh => ?_) (fun hh => ?_)
    simp only [decide_eq_true_eq, decide_eq_false_iff_not, Bool.and_eq_true, Bool.or_eq_true, Bool.not_eq_true', Bool.not_eq_false', beq_iff_eq, bne_iff_ne, beq_eq_false_iff_ne, bne_eq_false_iff_eq, ne_eq, ge_iff_le, gt_iff_lt, Int.not_le, Int.not_lt, Bool.and_eq_false_iff, Bool.or_eq_false_iff, Decidable.not_not] at hh
    refine R_seq ?_
    refine R_region ?_
    refine J_build rfl rfl rfl rfl ?_
    refine J_storeA rfl rfl rfl rfl rfl rfl ?_
    refine J_assign rfl rfl rfl ?_
    refine J_nil1 ?_
    refine E_then ?_
    refine R_ret ?_
    refine E_then_ret ?_
    rotate_left
    simp only [decide_eq_true_eq, decide_eq_false_iff_not, Bool.and_eq_true, Bool.or_eq_true, Bool.not_eq_true', Bool.not_eq_false', beq_iff_eq, bne_iff_ne, beq_eq_false_iff_ne, bne_eq_false_iff_eq, ne_eq, ge_iff_le, gt_iff_lt, Int.not_le, Int.not_lt, Bool.and_eq_false_iff, Bool.or_eq_false_iff, Decidable.not_not] at hh
    exfalso; omega
    apply E_retP Tryz.results220
    · exact Res_cellA rfl rfl (Res.tmp rfl (Res.nil))
    · exact Gives.drop Gives.refl
    rfl
end Go.Proofs.Sol

/- Heads of a log: the one that counts. -/
namespace Go.Proofs.Sol
open Go Go.Proofs
set_option maxRecDepth 100000
set_option maxHeartbeats 4000000
set_option linter.unusedVariables false
set_option linter.unusedSimpArgs false
attribute [local irreducible] R J JW E D Fn Y clf mpI own Sat Exit.then Exit.inBlock bodyPost bodyPostM Code.wpIn wpL
/-- The head of two that counts. -/
def newer (s t : Bytes) : (Int × Int × Int) × Int :=
  if (headGet s).2 = 0 then (if (headGet t).2 = 0 ∧ (headGet s).1.1 < (headGet t).1.1 then ((headGet t).1, 0) else ((headGet s).1, 0))
  else if (headGet t).2 = 0 then ((headGet t).1, 0) else ((0, 0, 0), 8)
/-- What is known behind so many. -/
def nst (s t : Bytes) : Nat → Bool × Int × Int × Int
  | 0 => (false, 0, 0, 0)
  | 1 => if (headGet s).2 = 0 then (true, (headGet s).1) else (false, 0, 0, 0)
  | _ => (decide ((newer s t).2 = 0), (newer s t).1)
abbrev hd3 (b : Nat) (h : Int × Int × Int) : HP := cl b 159 [.int .i64 h.1, .int .i64 h.2.1, .int .i64 h.2.2]
theorem loghead_Newer (s t : Bytes) (F : List HP) : Fn Tryz.prog 181 [.string (S s), .string (S t)] F (Pst (.tuple #[headT (newer s t).1, .int .i64 (newer s t).2]) F) := by
  refine Fn_enter Tryz.func181 rfl Tryz.ntmps181 rfl ?_
  refine R_seq ?_
  refine R_region ?_
  refine J_alloc rfl rfl ?_; intro
  refine J_assign rfl rfl rfl ?_
  refine J_nil ?_
  refine E_then ?_
  refine R_seq ?_
  refine R_region ?_
  refine J_alloc rfl rfl ?_; intro
  refine J_nil ?_
  refine E_then ?_
  refine R_seq ?_
  refine R_region ?_
  refine J_assign rfl rfl rfl ?_
  refine J_nil ?_
  refine E_then ?_
  refine R_seq ?_
  refine R_seq ?_
  refine R_region ?_
  refine J_move rfl rfl rfl ?_
  refine J_move rfl rfl rfl ?_
  refine J_buildSlice rfl rfl rfl rfl rfl rfl ?_; intro
  refine J_len_slice rfl rfl rfl ?_
  refine J_move rfl rfl rfl ?_
  refine J_nil3 ?_
  refine E_then ?_
  refine R_block ?_
  rename_i b4 b6 b14
  refine R_loop (X := {x : Nat × Bool × Int × Int × Int // x.1 ≤ 2 ∧ x.2 = nst s t x.1}) (fun x => [(16, .int .i64 (x.1.1 : Int)), (15, .int .i64 2), (14, .slice (some ⟨b14, 0, none⟩) 2 2), (6, .pointer (some ⟨b6, 0, none⟩)), (4, .pointer (some ⟨b4, 0, none⟩)), (7, .bool x.1.2.1)])
    (fun x => cl b14 9 [.string (S s), .string (S t)] :: hd3 b6 x.1.2.2 :: hd3 b4 (0, 0, 0) :: F) (fun x => 2 - x.1.1) ⟨(0, false, 0, 0, 0), by omega, rfl⟩ (by exact sub_cons rfl (sub_cons rfl (sub_cons rfl (sub_cons rfl (sub_cons rfl (sub_cons rfl sub_nil)))))) Gives.refl ?_
  rintro ⟨⟨j, fo, g0, q0, a0⟩, hj, hst⟩
  dsimp only at hj hst ⊢
  have hj3 : j = 0 ∨ j = 1 ∨ j = 2 := by omega
  rcases hj3 with rfl | rfl | rfl
  · obtain ⟨rfl, rfl, rfl, rfl⟩ : fo = false ∧ g0 = 0 ∧ q0 = 0 ∧ a0 = 0 := by simpa [nst] using hst
    refine R_seq ?_
    refine R_region ?_
    refine J_cmp rfl rfl rfl rfl rfl ?_
    refine J_nil1 ?_
    refine E_then ?_
    refine R_seq ?_
    refine R_cond_true rfl ?_
    refine R_skip ?_
    refine E_then ?_
    refine R_seq ?_
    refine R_block ?_
    refine R_seq ?_
    refine R_region ?_
    refine J_indexAddr rfl rfl (by omega) (by omega) rfl rfl ?_
    refine J_load rfl rfl rfl rfl ?_
    refine J_assign rfl rfl rfl ?_
    refine J_nil2 ?_
    refine E_then ?_
    refine R_seq ?_
    refine R_region ?_
    refine J_move rfl rfl rfl ?_
    refine J_callr rfl (loghead_Get s _) (by exact Gives.refl) rfl rfl ?_
    rcases hg : headGet s with ⟨⟨g, q, a⟩, e⟩
    dsimp only
    by_cases he0 : e = 0
    · subst he0
      refine J_move rfl rfl rfl ?_
      refine J_extract rfl rfl rfl rfl ?_
      refine J_extract rfl rfl rfl rfl ?_
      refine J_alloc rfl rfl ?_; intro
      refine J_storeA rfl rfl rfl rfl rfl rfl ?_
      refine J_assign rfl rfl rfl ?_
      refine J_nil3 ?_
      refine E_then ?_
      refine R_seq ?_
      refine R_region ?_
      refine J_move rfl rfl rfl ?_
      refine J_cmp rfl rfl rfl rfl rfl ?_
      refine J_move rfl rfl rfl ?_
      refine J_guard rfl rfl rfl ?_
      refine J_move rfl rfl rfl ?_
      refine J_guard rfl rfl rfl ?_
      refine J_un_not rfl rfl rfl ?_
      refine J_guard rfl rfl rfl ?_
      refine J_move rfl rfl rfl ?_
      refine J_guard_not rfl rfl rfl rfl rfl rfl ?_
      refine J_guard_not rfl rfl rfl rfl rfl rfl ?_
      refine J_guard_not rfl rfl rfl rfl rfl rfl ?_
      refine J_guard_not rfl rfl rfl rfl rfl rfl ?_
      refine J_guard_notU rfl rfl rfl rfl rfl ?_
      refine J_guard_notU rfl rfl rfl rfl rfl ?_
      refine J_guard_notU rfl rfl rfl rfl rfl ?_
      refine J_guard_notU rfl rfl rfl rfl rfl ?_
      refine J_guard_notU rfl rfl rfl rfl rfl ?_
      refine J_guard_not rfl rfl rfl rfl rfl rfl ?_
      refine J_guard rfl rfl rfl ?_
      refine J_pick_true rfl rfl rfl rfl ?_
      refine J_pick_true rfl rfl rfl rfl ?_
      refine J_nil3 ?_
      refine E_then ?_
      refine R_cond_true rfl ?_
      refine R_region ?_
      refine J_loadA rfl rfl rfl rfl ?_
      refine J_storeA rfl rfl rfl rfl rfl rfl ?_
      refine J_assign rfl rfl rfl ?_
      refine J_nil1 ?_
      refine E_block_normal ?_
      refine E_then ?_
      refine R_region ?_
      refine J_ari64 rfl rfl rfl (by omega) rfl rfl ?_
      refine J_moveg rfl rfl rfl ?_
      refine J_nil1 ?_
      exact E_thenI fun a' w he hs => ⟨⟨(1, true, g, q, a), by omega, by simp [nst, hg]⟩, by simp, he.sub (by exact sub_cons rfl (sub_cons rfl (sub_cons rfl (sub_cons rfl (sub_cons rfl (sub_cons rfl sub_nil)))))), hs.gives (by exact Gives.cons (Take.next Take.here) (Gives.cons (Take.next Take.here) (Gives.cons (Take.next Take.here) (Gives.drop Gives.refl))))⟩
    · refine J_move rfl rfl rfl ?_
      refine J_extract rfl rfl rfl rfl ?_
      refine J_extract rfl rfl rfl rfl ?_
      refine J_alloc rfl rfl ?_; intro
      refine J_storeA rfl rfl rfl rfl rfl rfl ?_
      refine J_assign rfl rfl rfl ?_
      refine J_nil3 ?_
      refine E_then ?_
      refine R_seq ?_
      refine R_region ?_
      refine J_move rfl rfl rfl ?_
      refine J_cmp rfl rfl rfl rfl rfl ?_
      refine J_move rfl rfl rfl ?_
      refine J_guard_split rfl rfl (fun hh => ?_) (fun hh => ?_)
      simp only [decide_eq_true_eq, decide_eq_false_iff_not, Bool.and_eq_true, Bool.or_eq_true, Bool.not_eq_true', Bool.not_eq_false', beq_iff_eq, bne_iff_ne, beq_eq_false_iff_ne, bne_eq_false_iff_eq, ne_eq, ge_iff_le, gt_iff_lt, Int.not_le, Int.not_lt, Bool.and_eq_false_iff, Bool.or_eq_false_iff, Decidable.not_not] at hh
      exfalso; omega
      simp only [decide_eq_true_eq, decide_eq_false_iff_not, Bool.and_eq_true, Bool.or_eq_true, Bool.not_eq_true', Bool.not_eq_false', beq_iff_eq, bne_iff_ne, beq_eq_false_iff_ne, bne_eq_false_iff_eq, ne_eq, ge_iff_le, gt_iff_lt, Int.not_le, Int.not_lt, Bool.and_eq_false_iff, Bool.or_eq_false_iff, Decidable.not_not] at hh
      refine J_guard_not rfl rfl rfl rfl rfl rfl ?_
      refine J_guard_not rfl rfl rfl rfl rfl rfl ?_
      refine J_guard_not rfl rfl rfl rfl rfl rfl ?_
      refine J_guard_notU rfl rfl rfl rfl rfl ?_
      refine J_guard_notU rfl rfl rfl rfl rfl ?_
      refine J_guard_notU rfl rfl rfl rfl rfl ?_
      refine J_guard_notU rfl rfl rfl rfl rfl ?_
      refine J_guard_notU rfl rfl rfl rfl rfl ?_
      refine J_guard_notU rfl rfl rfl rfl rfl ?_
      refine J_guard_notU rfl rfl rfl rfl rfl ?_
      refine J_guard_notU rfl rfl rfl rfl rfl ?_
      refine J_guard_notU rfl rfl rfl rfl rfl ?_
      refine J_guard_notU rfl rfl rfl rfl rfl ?_
      refine J_guard_not rfl rfl rfl rfl rfl rfl ?_
      refine J_pick_false rfl rfl rfl rfl ?_
      refine J_nil3 ?_
      refine E_then ?_
      refine R_cond_false rfl ?_
      refine R_skip ?_
      refine E_block_normal ?_
      refine E_then ?_
      refine R_region ?_
      refine J_ari64 rfl rfl rfl (by omega) rfl rfl ?_
      refine J_moveg rfl rfl rfl ?_
      refine J_nil1 ?_
      exact E_thenI fun a' w he hs => ⟨⟨(1, false, 0, 0, 0), by omega, by simp [nst, hg, he0]⟩, by simp, he.sub (by exact sub_cons rfl (sub_cons rfl (sub_cons rfl (sub_cons rfl (sub_cons rfl (sub_cons rfl sub_nil)))))), hs.gives (by exact Gives.cons (Take.next Take.here) (Gives.cons (Take.next Take.here) (Gives.cons (Take.next Take.here) (Gives.drop Gives.refl))))⟩
  · refine R_seq ?_
    refine R_region ?_
    refine J_cmp rfl rfl rfl rfl rfl ?_
    refine J_nil1 ?_
    refine E_then ?_
    refine R_seq ?_
    refine R_cond_true rfl ?_
    refine R_skip ?_
    refine E_then ?_
    refine R_seq ?_
    refine R_block ?_
    refine R_seq ?_
    refine R_region ?_
    refine J_indexAddr rfl rfl (by omega) (by omega) rfl rfl ?_
    refine J_load rfl rfl rfl rfl ?_
    refine J_assign rfl rfl rfl ?_
    refine J_nil2 ?_
    refine E_then ?_
    refine R_seq ?_
    refine R_region ?_
    refine J_move rfl rfl rfl ?_
    refine J_callr rfl (loghead_Get t _) (by exact Gives.refl) rfl rfl ?_
    rcases ht : headGet t with ⟨⟨g, q, a⟩, e⟩
    rcases hs1 : headGet s with ⟨⟨g1, q1, a1⟩, e1⟩
    dsimp only
    by_cases he0 : e = 0
    · subst he0
      by_cases he1 : e1 = 0
      · subst he1
        obtain ⟨rfl, rfl, rfl, rfl⟩ : fo = true ∧ g0 = g1 ∧ q0 = q1 ∧ a0 = a1 := by simpa [nst, hs1] using hst
        refine J_move rfl rfl rfl ?_
        refine J_extract rfl rfl rfl rfl ?_
        refine J_extract rfl rfl rfl rfl ?_
        refine J_alloc rfl rfl ?_; intro
        refine J_storeA rfl rfl rfl rfl rfl rfl ?_
        refine J_assign rfl rfl rfl ?_
        refine J_nil3 ?_
        refine E_then ?_
        refine R_seq ?_
        refine R_region ?_
        refine J_move rfl rfl rfl ?_
        refine J_cmp rfl rfl rfl rfl rfl ?_
        refine J_move rfl rfl rfl ?_
        refine J_guard rfl rfl rfl ?_
        refine J_move rfl rfl rfl ?_
        refine J_guard rfl rfl rfl ?_
        refine J_un_not rfl rfl rfl ?_
        refine J_guard rfl rfl rfl ?_
        refine J_move rfl rfl rfl ?_
        refine J_guard rfl rfl rfl ?_
        refine J_loadA rfl rfl rfl rfl ?_
        refine J_guard rfl rfl rfl ?_
        refine J_loadA rfl rfl rfl rfl ?_
        refine J_guard rfl rfl rfl ?_
        refine J_eqA rfl rfl rfl rfl rfl rfl rfl rfl ?_
        refine J_guard rfl rfl rfl ?_
        refine J_move rfl rfl rfl ?_
        refine J_guard_split rfl rfl (fun hh => ?_) (fun hh => ?_)
        simp only [decide_eq_true_eq, decide_eq_false_iff_not, Bool.and_eq_true, Bool.or_eq_true, Bool.not_eq_true', Bool.not_eq_false', beq_iff_eq, bne_iff_ne, beq_eq_false_iff_ne, bne_eq_false_iff_eq, ne_eq, ge_iff_le, gt_iff_lt, Int.not_le, Int.not_lt, Bool.and_eq_false_iff, Bool.or_eq_false_iff, Decidable.not_not] at hh
        refine J_guard rfl rfl rfl ?_
        refine J_fieldAddr0 rfl rfl rfl ?_
        refine J_guard rfl rfl rfl ?_
        refine J_load rfl rfl rfl rfl ?_
        refine J_guard rfl rfl rfl ?_
        refine J_fieldAddr0 rfl rfl rfl ?_
        refine J_guard rfl rfl rfl ?_
        refine J_load rfl rfl rfl rfl ?_
        refine J_guard rfl rfl rfl ?_
        refine J_cmp rfl rfl rfl rfl rfl ?_
        refine J_guard rfl rfl rfl ?_
        refine J_pick_true rfl rfl rfl rfl ?_
        refine J_guard rfl rfl rfl ?_
        refine J_pick_false rfl rfl rfl rfl ?_
        refine J_pick_true rfl rfl rfl rfl ?_
        refine J_nil3 ?_
        refine E_then ?_
        refine R_cond rfl (fun hh => ?_) (fun hh => ?_)
        simp only [decide_eq_true_eq, decide_eq_false_iff_not, Bool.and_eq_true, Bool.or_eq_true, Bool.not_eq_true', Bool.not_eq_false', beq_iff_eq, bne_iff_ne, beq_eq_false_iff_ne, bne_eq_false_iff_eq, ne_eq, ge_iff_le, gt_iff_lt, Int.not_le, Int.not_lt, Bool.and_eq_false_iff, Bool.or_eq_false_iff, Decidable.not_not] at hh
        refine R_region ?_
        refine J_loadA rfl rfl rfl rfl ?_
        refine J_storeA rfl rfl rfl rfl rfl rfl ?_
        refine J_assign rfl rfl rfl ?_
        refine J_nil1 ?_
        refine E_block_normal ?_
        refine E_then ?_
        refine R_region ?_
        refine J_ari64 rfl rfl rfl (by omega) rfl rfl ?_
        refine J_moveg rfl rfl rfl ?_
        refine J_nil1 ?_
        rotate_left
        simp only [decide_eq_true_eq, decide_eq_false_iff_not, Bool.and_eq_true, Bool.or_eq_true, Bool.not_eq_true', Bool.not_eq_false', beq_iff_eq, bne_iff_ne, beq_eq_false_iff_ne, bne_eq_false_iff_eq, ne_eq, ge_iff_le, gt_iff_lt, Int.not_le, Int.not_lt, Bool.and_eq_false_iff, Bool.or_eq_false_iff, Decidable.not_not] at hh
        refine R_skip ?_
        refine E_block_normal ?_
        refine E_then ?_
        refine R_region ?_
        refine J_ari64 rfl rfl rfl (by omega) rfl rfl ?_
        refine J_moveg rfl rfl rfl ?_
        refine J_nil1 ?_
        rotate_left
        simp only [decide_eq_true_eq, decide_eq_false_iff_not, Bool.and_eq_true, Bool.or_eq_true, Bool.not_eq_true', Bool.not_eq_false', beq_iff_eq, bne_iff_ne, beq_eq_false_iff_ne, bne_eq_false_iff_eq, ne_eq, ge_iff_le, gt_iff_lt, Int.not_le, Int.not_lt, Bool.and_eq_false_iff, Bool.or_eq_false_iff, Decidable.not_not] at hh
        refine J_guard_not rfl rfl rfl rfl rfl rfl ?_
        refine J_guard_not rfl rfl rfl rfl rfl rfl ?_
        refine J_guard_not rfl rfl rfl rfl rfl rfl ?_
        refine J_guard_not rfl rfl rfl rfl rfl rfl ?_
        refine J_guard_not rfl rfl rfl rfl rfl rfl ?_
        refine J_guard rfl rfl rfl ?_
        refine J_pick_false rfl rfl rfl rfl ?_
        refine J_guard rfl rfl rfl ?_
        refine J_pick_false rfl rfl rfl rfl ?_
        refine J_pick_true rfl rfl rfl rfl ?_
        refine J_nil3 ?_
        refine E_then ?_
        refine R_cond_false rfl ?_
        refine R_skip ?_
        refine E_block_normal ?_
        refine E_then ?_
        refine R_region ?_
        refine J_ari64 rfl rfl rfl (by omega) rfl rfl ?_
        refine J_moveg rfl rfl rfl ?_
        refine J_nil1 ?_
        rotate_left
        · exact E_thenI fun a' w he hs => ⟨⟨(2, true, g, q, a), by omega, by simp [nst, newer, hs1, ht, hh]⟩, by simp, he.sub (by exact sub_cons rfl (sub_cons rfl (sub_cons rfl (sub_cons rfl (sub_cons rfl (sub_cons rfl sub_nil)))))), hs.gives (by exact Gives.cons (Take.next Take.here) (Gives.cons (Take.next Take.here) (Gives.cons (Take.next Take.here) (Gives.drop Gives.refl))))⟩
        · exact E_thenI fun a' w he hs => ⟨⟨(2, true, g0, q0, a0), by omega, by simp [nst, newer, hs1, ht, Int.not_lt.2 hh]⟩, by simp, he.sub (by exact sub_cons rfl (sub_cons rfl (sub_cons rfl (sub_cons rfl (sub_cons rfl (sub_cons rfl sub_nil)))))), hs.gives (by exact Gives.cons (Take.next Take.here) (Gives.cons (Take.next Take.here) (Gives.cons (Take.next Take.here) (Gives.drop Gives.refl))))⟩
        · exact E_thenI fun a' w he hs => ⟨⟨(2, true, g0, q0, a0), by omega, by simp [nst, newer, hs1, ht, hh.1]⟩, by simp, he.sub (by exact sub_cons rfl (sub_cons rfl (sub_cons rfl (sub_cons rfl (sub_cons rfl (sub_cons rfl sub_nil)))))), hs.gives (by exact Gives.cons (Take.next Take.here) (Gives.cons (Take.next Take.here) (Gives.cons (Take.next Take.here) (Gives.drop Gives.refl))))⟩
      · obtain ⟨rfl, rfl, rfl, rfl⟩ : fo = false ∧ g0 = 0 ∧ q0 = 0 ∧ a0 = 0 := by simpa [nst, hs1, he1] using hst
        refine J_move rfl rfl rfl ?_
        refine J_extract rfl rfl rfl rfl ?_
        refine J_extract rfl rfl rfl rfl ?_
        refine J_alloc rfl rfl ?_; intro
        refine J_storeA rfl rfl rfl rfl rfl rfl ?_
        refine J_assign rfl rfl rfl ?_
        refine J_nil3 ?_
        refine E_then ?_
        refine R_seq ?_
        refine R_region ?_
        refine J_move rfl rfl rfl ?_
        refine J_cmp rfl rfl rfl rfl rfl ?_
        refine J_move rfl rfl rfl ?_
        refine J_guard rfl rfl rfl ?_
        refine J_move rfl rfl rfl ?_
        refine J_guard rfl rfl rfl ?_
        refine J_un_not rfl rfl rfl ?_
        refine J_guard rfl rfl rfl ?_
        refine J_move rfl rfl rfl ?_
        refine J_guard_not rfl rfl rfl rfl rfl rfl ?_
        refine J_guard_not rfl rfl rfl rfl rfl rfl ?_
        refine J_guard_not rfl rfl rfl rfl rfl rfl ?_
        refine J_guard_not rfl rfl rfl rfl rfl rfl ?_
        refine J_guard_notU rfl rfl rfl rfl rfl ?_
        refine J_guard_notU rfl rfl rfl rfl rfl ?_
        refine J_guard_notU rfl rfl rfl rfl rfl ?_
        refine J_guard_notU rfl rfl rfl rfl rfl ?_
        refine J_guard_notU rfl rfl rfl rfl rfl ?_
        refine J_guard_not rfl rfl rfl rfl rfl rfl ?_
        refine J_guard rfl rfl rfl ?_
        refine J_pick_true rfl rfl rfl rfl ?_
        refine J_pick_true rfl rfl rfl rfl ?_
        refine J_nil3 ?_
        refine E_then ?_
        refine R_cond_true rfl ?_
        refine R_region ?_
        refine J_loadA rfl rfl rfl rfl ?_
        refine J_storeA rfl rfl rfl rfl rfl rfl ?_
        refine J_assign rfl rfl rfl ?_
        refine J_nil1 ?_
        refine E_block_normal ?_
        refine E_then ?_
        refine R_region ?_
        refine J_ari64 rfl rfl rfl (by omega) rfl rfl ?_
        refine J_moveg rfl rfl rfl ?_
        refine J_nil1 ?_
        exact E_thenI fun a' w he hs => ⟨⟨(2, true, g, q, a), by omega, by simp [nst, newer, hs1, ht, he1]⟩, by simp, he.sub (by exact sub_cons rfl (sub_cons rfl (sub_cons rfl (sub_cons rfl (sub_cons rfl (sub_cons rfl sub_nil)))))), hs.gives (by exact Gives.cons (Take.next Take.here) (Gives.cons (Take.next Take.here) (Gives.cons (Take.next Take.here) (Gives.drop Gives.refl))))⟩
    · by_cases he1 : e1 = 0
      · subst he1
        obtain ⟨rfl, rfl, rfl, rfl⟩ : fo = true ∧ g0 = g1 ∧ q0 = q1 ∧ a0 = a1 := by simpa [nst, hs1] using hst
        refine J_move rfl rfl rfl ?_
        refine J_extract rfl rfl rfl rfl ?_
        refine J_extract rfl rfl rfl rfl ?_
        refine J_alloc rfl rfl ?_; intro
        refine J_storeA rfl rfl rfl rfl rfl rfl ?_
        refine J_assign rfl rfl rfl ?_
        refine J_nil3 ?_
        refine E_then ?_
        refine R_seq ?_
        refine R_region ?_
        refine J_move rfl rfl rfl ?_
        refine J_cmp rfl rfl rfl rfl rfl ?_
        refine J_move rfl rfl rfl ?_
        refine J_guard_split rfl rfl (fun hh => ?_) (fun hh => ?_)
        simp only [decide_eq_true_eq, decide_eq_false_iff_not, Bool.and_eq_true, Bool.or_eq_true, Bool.not_eq_true', Bool.not_eq_false', beq_iff_eq, bne_iff_ne, beq_eq_false_iff_ne, bne_eq_false_iff_eq, ne_eq, ge_iff_le, gt_iff_lt, Int.not_le, Int.not_lt, Bool.and_eq_false_iff, Bool.or_eq_false_iff, Decidable.not_not] at hh
        exfalso; omega
        simp only [decide_eq_true_eq, decide_eq_false_iff_not, Bool.and_eq_true, Bool.or_eq_true, Bool.not_eq_true', Bool.not_eq_false', beq_iff_eq, bne_iff_ne, beq_eq_false_iff_ne, bne_eq_false_iff_eq, ne_eq, ge_iff_le, gt_iff_lt, Int.not_le, Int.not_lt, Bool.and_eq_false_iff, Bool.or_eq_false_iff, Decidable.not_not] at hh
        refine J_guard_not rfl rfl rfl rfl rfl rfl ?_
        refine J_guard_not rfl rfl rfl rfl rfl rfl ?_
        refine J_guard_not rfl rfl rfl rfl rfl rfl ?_
        refine J_guard_notU rfl rfl rfl rfl rfl ?_
        refine J_guard_notU rfl rfl rfl rfl rfl ?_
        refine J_guard_notU rfl rfl rfl rfl rfl ?_
        refine J_guard_notU rfl rfl rfl rfl rfl ?_
        refine J_guard_notU rfl rfl rfl rfl rfl ?_
        refine J_guard_notU rfl rfl rfl rfl rfl ?_
        refine J_guard_notU rfl rfl rfl rfl rfl ?_
        refine J_guard_notU rfl rfl rfl rfl rfl ?_
        refine J_guard_notU rfl rfl rfl rfl rfl ?_
        refine J_guard_notU rfl rfl rfl rfl rfl ?_
        refine J_guard_not rfl rfl rfl rfl rfl rfl ?_
        refine J_pick_false rfl rfl rfl rfl ?_
        refine J_nil3 ?_
        refine E_then ?_
        refine R_cond_false rfl ?_
        refine R_skip ?_
        refine E_block_normal ?_
        refine E_then ?_
        refine R_region ?_
        refine J_ari64 rfl rfl rfl (by omega) rfl rfl ?_
        refine J_moveg rfl rfl rfl ?_
        refine J_nil1 ?_
        exact E_thenI fun a' w he hs => ⟨⟨(2, true, g0, q0, a0), by omega, by simp [nst, newer, hs1, ht, he0]⟩, by simp, he.sub (by exact sub_cons rfl (sub_cons rfl (sub_cons rfl (sub_cons rfl (sub_cons rfl (sub_cons rfl sub_nil)))))), hs.gives (by exact Gives.cons (Take.next Take.here) (Gives.cons (Take.next Take.here) (Gives.cons (Take.next Take.here) (Gives.drop Gives.refl))))⟩
      · obtain ⟨rfl, rfl, rfl, rfl⟩ : fo = false ∧ g0 = 0 ∧ q0 = 0 ∧ a0 = 0 := by simpa [nst, hs1, he1] using hst
        refine J_move rfl rfl rfl ?_
        refine J_extract rfl rfl rfl rfl ?_
        refine J_extract rfl rfl rfl rfl ?_
        refine J_alloc rfl rfl ?_; intro
        refine J_storeA rfl rfl rfl rfl rfl rfl ?_
        refine J_assign rfl rfl rfl ?_
        refine J_nil3 ?_
        refine E_then ?_
        refine R_seq ?_
        refine R_region ?_
        refine J_move rfl rfl rfl ?_
        refine J_cmp rfl rfl rfl rfl rfl ?_
        refine J_move rfl rfl rfl ?_
        refine J_guard_split rfl rfl (fun hh => ?_) (fun hh => ?_)
        simp only [decide_eq_true_eq, decide_eq_false_iff_not, Bool.and_eq_true, Bool.or_eq_true, Bool.not_eq_true', Bool.not_eq_false', beq_iff_eq, bne_iff_ne, beq_eq_false_iff_ne, bne_eq_false_iff_eq, ne_eq, ge_iff_le, gt_iff_lt, Int.not_le, Int.not_lt, Bool.and_eq_false_iff, Bool.or_eq_false_iff, Decidable.not_not] at hh
        exfalso; omega
        simp only [decide_eq_true_eq, decide_eq_false_iff_not, Bool.and_eq_true, Bool.or_eq_true, Bool.not_eq_true', Bool.not_eq_false', beq_iff_eq, bne_iff_ne, beq_eq_false_iff_ne, bne_eq_false_iff_eq, ne_eq, ge_iff_le, gt_iff_lt, Int.not_le, Int.not_lt, Bool.and_eq_false_iff, Bool.or_eq_false_iff, Decidable.not_not] at hh
        refine J_guard_not rfl rfl rfl rfl rfl rfl ?_
        refine J_guard_not rfl rfl rfl rfl rfl rfl ?_
        refine J_guard_not rfl rfl rfl rfl rfl rfl ?_
        refine J_guard_notU rfl rfl rfl rfl rfl ?_
        refine J_guard_notU rfl rfl rfl rfl rfl ?_
        refine J_guard_notU rfl rfl rfl rfl rfl ?_
        refine J_guard_notU rfl rfl rfl rfl rfl ?_
        refine J_guard_notU rfl rfl rfl rfl rfl ?_
        refine J_guard_notU rfl rfl rfl rfl rfl ?_
        refine J_guard_notU rfl rfl rfl rfl rfl ?_
        refine J_guard_notU rfl rfl rfl rfl rfl ?_
        refine J_guard_notU rfl rfl rfl rfl rfl ?_
        refine J_guard_notU rfl rfl rfl rfl rfl ?_
        refine J_guard_not rfl rfl rfl rfl rfl rfl ?_
        refine J_pick_false rfl rfl rfl rfl ?_
        refine J_nil3 ?_
        refine E_then ?_
        refine R_cond_false rfl ?_
        refine R_skip ?_
        refine E_block_normal ?_
        refine E_then ?_
        refine R_region ?_
        refine J_ari64 rfl rfl rfl (by omega) rfl rfl ?_
        refine J_moveg rfl rfl rfl ?_
        refine J_nil1 ?_
        exact E_thenI fun a' w he hs => ⟨⟨(2, false, 0, 0, 0), by omega, by simp [nst, newer, hs1, ht, he1, he0]⟩, by simp, he.sub (by exact sub_cons rfl (sub_cons rfl (sub_cons rfl (sub_cons rfl (sub_cons rfl (sub_cons rfl sub_nil)))))), hs.gives (by exact Gives.cons (Take.next Take.here) (Gives.cons (Take.next Take.here) (Gives.cons (Take.next Take.here) (Gives.drop Gives.refl))))⟩
  · rcases hn : newer s t with ⟨⟨g, q, a⟩, e⟩
    have hn8 : e = 0 ∨ (e = 8 ∧ g = 0 ∧ q = 0 ∧ a = 0) := by
      unfold newer at hn
      split at hn
      · split at hn <;> (injection hn with _ h2; exact .inl h2.symm)
      · split at hn
        · injection hn with _ h2; exact .inl h2.symm
        · injection hn with h1 h2
          injection h1 with h3 h4
          injection h4 with h5 h6
          exact .inr ⟨h2.symm, h3.symm, h5.symm, h6.symm⟩
    obtain ⟨rfl, rfl, rfl, rfl⟩ : fo = decide (e = 0) ∧ g0 = g ∧ q0 = q ∧ a0 = a := by simpa [nst, hn] using hst
    rcases hn8 with rfl | ⟨rfl, rfl, rfl, rfl⟩
    · simp only [decide_true]
      refine R_seq ?_
      refine R_region ?_
      refine J_cmp rfl rfl rfl rfl rfl ?_
      refine J_nil1 ?_
      refine E_then ?_
      refine R_seq ?_
      refine R_cond_false rfl ?_
      refine R_exit ?_
      refine E_then_exit ?_
      refine E_then_exit ?_
      refine E_block_hit ?_
      refine E_then ?_
      refine R_seq ?_
      refine R_seq ?_
      refine R_region ?_
      refine J_move rfl rfl rfl ?_
      refine J_un_not rfl rfl rfl ?_
      refine J_nil2 ?_
      refine E_then ?_
      refine R_cond_false rfl ?_
      refine R_skip ?_
      refine E_then ?_
      refine R_seq ?_
      refine R_region ?_
      refine J_loadA rfl rfl rfl rfl ?_
      refine J_storeA rfl rfl rfl rfl rfl rfl ?_
      refine J_assign rfl rfl rfl ?_
      refine J_nil1 ?_
      refine E_then ?_
      refine R_ret ?_
      apply E_retP Tryz.results181
      · exact Res_cellA rfl rfl (Res.tmp rfl (Res.nil))
      · exact Gives.drop (Gives.drop (Gives.drop Gives.refl))
      rfl
    · have e8 : decide ((8 : Int) = 0) = false := rfl
      simp only [e8]
      refine R_seq ?_
      refine R_region ?_
      refine J_cmp rfl rfl rfl rfl rfl ?_
      refine J_nil1 ?_
      refine E_then ?_
      refine R_seq ?_
      refine R_cond_false rfl ?_
      refine R_exit ?_
      refine E_then_exit ?_
      refine E_then_exit ?_
      refine E_block_hit ?_
      refine E_then ?_
      refine R_seq ?_
      refine R_seq ?_
      refine R_region ?_
      refine J_move rfl rfl rfl ?_
      refine J_un_not rfl rfl rfl ?_
      refine J_nil2 ?_
      refine E_then ?_
      refine R_cond_true rfl ?_
      refine R_seq ?_
      refine R_region ?_
      refine J_loadA rfl rfl rfl rfl ?_
      refine J_storeA rfl rfl rfl rfl rfl rfl ?_
      refine J_assign rfl rfl rfl ?_
      refine J_nil1 ?_
      refine E_then ?_
      refine R_ret ?_
      refine E_then_ret ?_
      apply E_retP Tryz.results181
      · exact Res_cellA rfl rfl (Res.tmp rfl (Res.nil))
      · exact Gives.drop (Gives.drop (Gives.drop Gives.refl))
      rfl
end Go.Proofs.Sol

/- A log over a disk: all that stays, brought home. -/
namespace Go.Proofs.Sol
open Go Go.Proofs
set_option maxRecDepth 100000
set_option maxHeartbeats 4000000
set_option linter.unusedVariables false
set_option linter.unusedSimpArgs false
attribute [local irreducible] R J JW E D Fn Y clf mpI own Sat Exit.then Exit.inBlock bodyPost bodyPostM Code.wpIn wpL
def homeV (V : List Bytes) (K : List (Int × Bytes)) (i : Nat) : List Bytes := ((told K).take i).foldl (fun V p => V.set p.1.toNat p.2) V
theorem homeV_length (V : List Bytes) (K : List (Int × Bytes)) (i : Nat) : (homeV V K i).length = V.length := by
  unfold homeV
  generalize (told K).take i = l
  induction l generalizing V with
  | nil => rfl
  | cons p l ih => rw [List.foldl_cons, ih]; simp
theorem homeV_succ {V : List Bytes} {K : List (Int × Bytes)} {i : Nat} {p : Int × Bytes} (h : (told K)[i]? = some p) : homeV V K (i + 1) = (homeV V K i).set p.1.toNat p.2 := by
  unfold homeV
  obtain ⟨hlt, he⟩ := List.getElem?_eq_some_iff.1 h
  rw [List.take_succ_eq_append_getElem hlt, he]
  simp
abbrev setV (V : List Bytes) (K : List (Int × Bytes)) : List Bytes := homeV V K (told K).length
/-- A log, settled. -/
def Wl.settled (W : Wl) (g q a : Int) : Wl := { W with gen := g, at_ := a, seq := q, used := 0, com := false, K := [], V := (setV W.V W.K).set (W.fr + g % 2).toNat (headB g q a), k := W.k + (told W.K).length + 4 }
theorem wal_settle (b : Nat) (W : Wl) (ok : WlOk W) (g q a : Int) (hg : headMay g q a = true) (hkm : W.K.length < 1000000) (hk : W.k + W.K.length < 90000000) (F : List HP) :
    Fn Tryz.prog 95 [.pointer (some ⟨b, 0, none⟩), headA g q a] (wal b W :: F) (Pst .nilIface (wal b (W.settled g q a) :: F)) := by
  have hfr := ok.fr
  have hn := ok.n
  have hmany := ok.many
  have htl := told_length W.K
  refine Fn.open_ (fun w h => open_wal h) ?_
  rintro p
  dsimp only [walL, List.cons_append, List.nil_append]
  refine Fn_enterM Tryz.func95 rfl Tryz.ntmps95 rfl ?_
  refine R_seq ?_
  refine R_region ?_
  refine J_box rfl rfl rfl rfl ?_; intro
  refine J_boxA rfl rfl rfl ?_; intro
  refine J_alloc rfl rfl ?_; intro
  refine J_nil ?_
  refine E_then ?_
  refine R_seq ?_
  refine R_seq ?_
  refine R_region ?_
  refine J_load rfl rfl rfl rfl ?_
  refine J_nilCheck rfl rfl rfl ?_
  refine J_fieldAddr0 rfl rfl rfl ?_
  refine J_load rfl rfl rfl rfl ?_
  rename_i c2 c3 c4
  refine J_callr rfl (diskv_Flush W.d W.V W.k (by omega) _) (by exact Gives.last (Take.next (Take.next (Take.next (Take.next (Take.next (Take.next (Take.next Take.here)))))))) rfl rfl ?_
  refine J_assign rfl rfl rfl ?_
  refine J_nil3 ?_
  refine E_then ?_
  refine R_seq ?_
  refine R_region ?_
  refine J_move rfl rfl rfl ?_
  refine J_cmp rfl rfl rfl rfl rfl ?_
  refine J_nil2 ?_
  refine E_then ?_
  refine R_cond_false rfl ?_
  refine R_skip ?_
  refine E_then ?_
  refine R_seq ?_
  refine R_seq ?_
  refine R_region ?_
  refine J_load rfl rfl rfl rfl ?_
  refine J_nilCheck rfl rfl rfl ?_
  refine J_fieldAddr0 rfl rfl rfl ?_
  refine J_load rfl rfl rfl rfl ?_
  refine J.open_ (α := Nat × Nat) (M := fun x => shL p.2.2 W.K W.Lo x ++ (dvk W.d W.V (W.k + 1) :: cl c4 156 [.nilIface] :: cl c3 159 [.int .i64 g, .int .i64 q, .int .i64 a] :: cl c2 26 [.pointer (some ⟨b, 0, none⟩)] :: walH b W p :: reg p.1 W.d W.fr 2 :: reg p.2.1 W.d (W.fr + 2) (W.many - 2) :: F)) (fun w s => open_shd (s.gives (by exact Gives.last (Take.next (Take.next (Take.next (Take.next (Take.next (Take.next (Take.next Take.here)))))))))) ?_
  rintro ⟨bk, bl⟩
  dsimp only [shL, List.cons_append, List.nil_append]
  refine J_callm rfl (shadow_Kept p.2.2 bk bl _) Gives.refl rfl rfl ?_
  rintro v w ⟨t, rfl, s0⟩
  refine JW.of s0 ?_
  refine J_nil3 ?_
  refine E_then ?_
  refine R_block ?_
  refine R_rangeFunc (f := 208) (ps := [25, 26]) (fun i => [cl c2 26 [.pointer (some ⟨b, 0, none⟩)], walH b W p, dvk W.d (homeV W.V W.K i) (W.k + 1 + i)]) [fun _ => False] (fun vs => [(6, vs.getD 0 undef), (7, vs.getD 1 undef), (2, .pointer (some ⟨c2, 0, none⟩))])
    (shH p.2.2 bk bl :: mpI bl W.Lo :: cl c4 156 [.nilIface] :: cl c3 159 [.int .i64 g, .int .i64 q, .int .i64 a] :: reg p.1 W.d W.fr 2 :: reg p.2.1 W.d (W.fr + 2) (W.many - 2) :: F) rfl (each_tells t bk W.K hkm)
    (Gives.trans (M := cl t 216 [.map (some bk)] :: mpI bk W.K :: cl c2 26 [.pointer (some ⟨b, 0, none⟩)] :: walH b W p :: dvk W.d W.V (W.k + 1) :: shH p.2.2 bk bl :: mpI bl W.Lo :: cl c4 156 [.nilIface] :: cl c3 159 [.int .i64 g, .int .i64 q, .int .i64 a] :: reg p.1 W.d W.fr 2 :: reg p.2.1 W.d (W.fr + 2) (W.many - 2) :: F) (by exact Gives.cons Take.here (Gives.cons (Take.next Take.here) (Gives.cons (Take.next (Take.next (Take.next (Take.next (Take.next Take.here))))) (Gives.cons (Take.next (Take.next (Take.next (Take.next (Take.next Take.here))))) (Gives.last (Take.next (Take.next Take.here))))))) ⟨fun _ s => s⟩) (toldV_two W.K) rfl ?_ ?_ ?_ ?_
  · intro l c i vs hi F'
    obtain ⟨x, hx, rfl⟩ := toldV_get hi
    dsimp only [List.cons_append, List.nil_append]
    refine R_seq ?_
    refine R_region ?_
    refine J_assign rfl rfl rfl ?_
    refine J_nil ?_
    refine E_then ?_
    refine R_region ?_
    refine J_assign rfl rfl rfl ?_
    refine J_nil ?_
    exact E_thenI fun a w he hs => ⟨he.sub (by exact sub_cons rfl (sub_cons rfl (sub_cons rfl sub_nil))), hs⟩
  · intro l c i vs hi hc F'
    obtain ⟨x, hx, rfl⟩ := toldV_get hi
    obtain ⟨hxl, hxe⟩ := List.getElem?_eq_some_iff.1 hx
    have hxm := ok.kH x (told_mem (List.mem_of_getElem? hx))
    have hxh := hxm.1
    simp only [Wl.home, homeB, Bool.and_eq_true, decide_eq_true_eq] at hxh
    have hhl := homeV_length W.V W.K i
    have hE : wrE (homeV W.V W.K i) x.1 x.2 = 0 := wrE_in (by omega) hxm.2
    have hW : wrV (homeV W.V W.K i) x.1 x.2 = homeV W.V W.K (i + 1) := by rw [wrV_in (by omega) hxm.2, homeV_succ hx]
    dsimp only [List.cons_append, List.nil_append]
    refine R_block ?_
    refine R_seq ?_
    refine R_region ?_
    refine J_load rfl rfl rfl rfl ?_
    refine J_nilCheck rfl rfl rfl ?_
    refine J_fieldAddr0 rfl rfl rfl ?_
    refine J_load rfl rfl rfl rfl ?_
    refine J_move rfl rfl rfl ?_
    refine J_move rfl rfl rfl ?_
    refine J_callr rfl (diskv_Write W.d (homeV W.V W.K i) (W.k + 1 + i) x.1 x.2 (by omega) _) (by exact Gives.last (Take.next (Take.next (Take.next Take.here)))) rfl rfl ?_
    rw [hE, hW]
    refine J_assign rfl rfl rfl ?_
    refine J_nil3 ?_
    refine E_then ?_
    refine R_seq ?_
    refine R_region ?_
    refine J_move rfl rfl rfl ?_
    refine J_cmp rfl rfl rfl rfl rfl ?_
    refine J_nil2 ?_
    refine E_then ?_
    refine R_cond_false rfl ?_
    refine R_skip ?_
    refine E_block_normal ?_
    refine E_roundN hc (by with_reducible exact Take.next Take.here) ?_
    exact Gives.trans (M := cl c2 26 [.pointer (some ⟨b, 0, none⟩)] :: walH b W p :: dvk W.d (homeV W.V W.K (i + 1)) (W.k + 1 + i + 1) :: F') (by exact Gives.cons (Take.next Take.here) (Gives.last (Take.next Take.here))) ⟨fun _ s => s⟩
  · intro r
    have hlv : (toldV W.K).length = (told W.K).length := by simp [toldV]
    rw [hlv]
    have hhl : (setV W.V W.K).length = W.V.length := homeV_length W.V W.K (told W.K).length
    dsimp only [List.cons_append, List.nil_append]
    refine E_block_normal ?_
    refine E_then ?_
    refine R_seq ?_
    refine R_seq ?_
    refine R_region ?_
    refine J_load rfl rfl rfl rfl ?_
    refine J_nilCheck rfl rfl rfl ?_
    refine J_fieldAddr0 rfl rfl rfl ?_
    refine J_load rfl rfl rfl rfl ?_
    refine J_callr rfl (diskv_Flush W.d (setV W.V W.K) (W.k + 1 + (told W.K).length) (by omega) _) (by exact Gives.last (Take.next (Take.next (Take.next (Take.next (Take.next Take.here)))))) rfl rfl ?_
    refine J_assign rfl rfl rfl ?_
    refine J_nil3 ?_
    refine E_then ?_
    refine R_seq ?_
    refine R_region ?_
    refine J_move rfl rfl rfl ?_
    refine J_cmp rfl rfl rfl rfl rfl ?_
    refine J_nil2 ?_
    refine E_then ?_
    refine R_cond_false rfl ?_
    refine R_skip ?_
    refine E_then ?_
    refine R_seq ?_
    refine R_seq ?_
    refine R_region ?_
    refine J_load rfl rfl rfl rfl ?_
    refine J_loadA rfl rfl rfl rfl ?_
    refine J.open_ (α := Unit) (M := fun _ => wal b { W with V := setV W.V W.K, k := W.k + 1 + (told W.K).length + 1 } :: pt r (.deferred (some [])) :: cl c4 156 [.nilIface] :: cl c3 159 [.int .i64 g, .int .i64 q, .int .i64 a] :: cl c2 26 [.pointer (some ⟨b, 0, none⟩)] :: F)
      (fun w s => ⟨(), shut_wal (p := p) (by
        have s2 : Sat w (shH p.2.2 bk bl :: mpI bk W.K :: mpI bl W.Lo :: walH b W p :: reg p.1 W.d W.fr 2 :: reg p.2.1 W.d (W.fr + 2) (W.many - 2) :: dvk W.d (setV W.V W.K) (W.k + 1 + (told W.K).length + 1) :: pt r (.deferred (some [])) :: cl c4 156 [.nilIface] :: cl c3 159 [.int .i64 g, .int .i64 q, .int .i64 a] :: cl c2 26 [.pointer (some ⟨b, 0, none⟩)] :: F) := s.gives (by exact Gives.cons (Take.next (Take.next (Take.next (Take.next (Take.next (Take.next Take.here)))))) (Gives.cons (Take.next (Take.next (Take.next Take.here))) (Gives.cons (Take.next (Take.next (Take.next (Take.next (Take.next Take.here))))) (Gives.cons (Take.next (Take.next (Take.next (Take.next Take.here)))) (Gives.cons (Take.next (Take.next (Take.next (Take.next (Take.next (Take.next Take.here)))))) (Gives.cons (Take.next (Take.next (Take.next (Take.next (Take.next (Take.next Take.here)))))) (Gives.cons Take.here (Gives.cons Take.here (Gives.cons (Take.next (Take.next Take.here)) (Gives.cons (Take.next (Take.next Take.here)) (Gives.cons (Take.next Take.here) (Gives.drop Gives.refl))))))))))))
        have s3 := s2.gives gives_shd
        have s4 : Sat w (walH b W p :: reg p.1 W.d W.fr 2 :: reg p.2.1 W.d (W.fr + 2) (W.many - 2) :: shd p.2.2 W.K W.Lo :: dvk W.d (setV W.V W.K) (W.k + 1 + (told W.K).length + 1) :: pt r (.deferred (some [])) :: cl c4 156 [.nilIface] :: cl c3 159 [.int .i64 g, .int .i64 q, .int .i64 a] :: cl c2 26 [.pointer (some ⟨b, 0, none⟩)] :: F) := s3.gives (by exact Gives.cons (Take.next Take.here) (Gives.cons (Take.next Take.here) (Gives.last (Take.next Take.here))))
        exact s4)⟩) ?_
    rintro ⟨⟩
    refine J_callr rfl (wal_head b { W with V := setV W.V W.K, k := W.k + 1 + (told W.K).length + 1 } g q a hg (by dsimp only; omega) (by dsimp only; omega) _) (by exact Gives.refl) rfl rfl ?_
    refine J.open_ (fun w s => open_wal s) ?_
    rintro p'
    dsimp only [walL, List.cons_append, List.nil_append]
    refine J_assign rfl rfl rfl ?_
    refine J_nil3 ?_
    refine E_then ?_
    refine R_seq ?_
    refine R_region ?_
    refine J_move rfl rfl rfl ?_
    refine J_ifc_nil rfl rfl rfl rfl ?_
    refine J_nil2 ?_
    refine E_then ?_
    refine R_cond_false rfl ?_
    refine R_skip ?_
    refine E_then ?_
    refine R_seq ?_
    refine R_np ?_
    refine R_draw ([cl c3 159 [.int .i64 g, .int .i64 q, .int .i64 a], cl c2 26 [.pointer (some ⟨b, 0, none⟩)]]) [21] (by kernel_rfl) ?_
    (refine D_look (i := 0) rfl (by kernel_rfl) (by exact NP_noP) (by exact Gives.cons (Take.next (Take.next (Take.next (Take.next (Take.next (Take.next (Take.next Take.here))))))) (Gives.cons (Take.next (Take.next (Take.next (Take.next (Take.next (Take.next (Take.next Take.here))))))) Gives.nil)) (by exact Y_load rfl rfl) rfl rfl ?_)
    (refine D_look (i := 1) rfl (by kernel_rfl) (by exact NP_noP) (by exact Gives.cons (Take.next (Take.next (Take.next (Take.next (Take.next (Take.next (Take.next Take.here))))))) (Gives.cons (Take.next (Take.next (Take.next (Take.next (Take.next (Take.next (Take.next Take.here))))))) Gives.nil)) (by exact Y_load rfl rfl) rfl rfl ?_)
    (refine D_look (i := 2) rfl (by kernel_rfl) (by exact NP_noP) (by exact Gives.cons (Take.next (Take.next (Take.next (Take.next (Take.next (Take.next (Take.next Take.here))))))) (Gives.cons (Take.next (Take.next (Take.next (Take.next (Take.next (Take.next (Take.next Take.here))))))) Gives.nil)) (by exact Y_load rfl rfl) rfl rfl ?_)
    (refine D_look (i := 3) rfl (by kernel_rfl) (by exact NP_noP) (by exact Gives.cons (Take.next (Take.next (Take.next (Take.next (Take.next (Take.next (Take.next Take.here))))))) (Gives.cons (Take.next (Take.next (Take.next (Take.next (Take.next (Take.next (Take.next Take.here))))))) Gives.nil)) (by exact Y_load rfl rfl) rfl rfl ?_)
    (refine D_lookP (i := 4) rfl (by kernel_rfl) (by exact NP_noP) (by exact Y_fieldAddr0 rfl) rfl rfl ?_)
    (refine D_look (i := 5) rfl (by kernel_rfl) (by exact NP_noP) (by exact Gives.cons (Take.next (Take.next (Take.next (Take.next (Take.next (Take.next (Take.next Take.here))))))) (Gives.cons (Take.next (Take.next (Take.next (Take.next (Take.next (Take.next (Take.next Take.here))))))) Gives.nil)) (by exact Y_load rfl rfl) rfl rfl ?_)
    (refine D_lookP (i := 6) rfl (by kernel_rfl) (by exact NP_noP) (by exact Y_fieldAddr0 rfl) rfl rfl ?_)
    (refine D_look (i := 7) rfl (by kernel_rfl) (by exact NP_noP) (by exact Gives.cons (Take.next (Take.next (Take.next (Take.next (Take.next (Take.next (Take.next Take.here))))))) (Gives.cons (Take.next (Take.next (Take.next (Take.next (Take.next (Take.next (Take.next Take.here))))))) Gives.nil)) (by exact Y_load rfl rfl) rfl rfl ?_)
    (refine D_lookP (i := 8) rfl (by kernel_rfl) (by exact NP_noP) (by exact Y_fieldAddr0 rfl) rfl rfl ?_)
    (refine D_look (i := 9) rfl (by kernel_rfl) (by exact NP_noP) (by exact Gives.cons (Take.next (Take.next (Take.next (Take.next (Take.next (Take.next (Take.next Take.here))))))) (Gives.cons (Take.next (Take.next (Take.next (Take.next (Take.next (Take.next (Take.next Take.here))))))) Gives.nil)) (by exact Y_load rfl rfl) rfl rfl ?_)
    (refine D_lookP (i := 10) rfl (by kernel_rfl) (by exact NP_noP) (by exact Y_nilCheck rfl) rfl rfl ?_)
    (refine D_lookP (i := 11) rfl (by kernel_rfl) (by exact NP_noP) (by exact Y_fieldAddr0 rfl) rfl rfl ?_)
    refine D_try1 (i := 12) (by kernel_rfl) rfl ?_
    refine J_store rfl rfl rfl rfl ?_
    refine D_next (by exact Gives.cons (Take.next (Take.next (Take.next (Take.next (Take.next (Take.next (Take.next Take.here))))))) (Gives.cons (Take.next (Take.next (Take.next (Take.next (Take.next (Take.next (Take.next Take.here))))))) Gives.nil)) ?_
    (refine D_lookP (i := 13) rfl (by kernel_rfl) (by exact NP_noP) (by exact Y_nilCheck rfl) rfl rfl ?_)
    (refine D_lookP (i := 14) rfl (by kernel_rfl) (by exact NP_noP) (by exact Y_fieldAddr0 rfl) rfl rfl ?_)
    refine D_try1 (i := 15) (by kernel_rfl) rfl ?_
    refine J_store rfl rfl rfl rfl ?_
    refine D_next (by exact Gives.cons (Take.next (Take.next (Take.next (Take.next (Take.next (Take.next (Take.next Take.here))))))) (Gives.cons (Take.next (Take.next (Take.next (Take.next (Take.next (Take.next (Take.next Take.here))))))) Gives.nil)) ?_
    (refine D_lookP (i := 16) rfl (by kernel_rfl) (by exact NP_noP) (by exact Y_nilCheck rfl) rfl rfl ?_)
    (refine D_lookP (i := 17) rfl (by kernel_rfl) (by exact NP_noP) (by exact Y_fieldAddr0 rfl) rfl rfl ?_)
    refine D_try1 (i := 18) (by kernel_rfl) rfl ?_
    refine J_store rfl rfl rfl rfl ?_
    refine D_next (by exact Gives.cons (Take.next (Take.next (Take.next (Take.next (Take.next (Take.next (Take.next Take.here))))))) (Gives.cons (Take.next (Take.next (Take.next (Take.next (Take.next (Take.next (Take.next Take.here))))))) Gives.nil)) ?_
    (refine D_lookP (i := 19) rfl (by kernel_rfl) (by exact NP_noP) (by exact Y_nilCheck rfl) rfl rfl ?_)
    (refine D_lookP (i := 20) rfl (by kernel_rfl) (by exact NP_noP) (by exact Y_fieldAddr0 rfl) rfl rfl ?_)
    refine D_try1 (i := 21) (by kernel_rfl) rfl ?_
    refine J_store rfl rfl rfl rfl ?_
    refine D_last (by kernel_rfl) ?_
    (first | refine D_end1 (by kernel_rfl) ?_ | refine D_end (by kernel_rfl) ?_)
    refine E_noP ?_
    refine E_then ?_
    refine R_seq ?_
    refine R_region ?_
    refine J_load rfl rfl rfl rfl ?_
    refine J_nilCheck rfl rfl rfl ?_
    refine J_fieldAddr0 rfl rfl rfl ?_
    refine J_store rfl rfl rfl rfl ?_
    refine J_nil3 ?_
    refine E_then ?_
    refine R_seq ?_
    refine R_region ?_
    refine J_load rfl rfl rfl rfl ?_
    refine J_nilCheck rfl rfl rfl ?_
    refine J_fieldAddr0 rfl rfl rfl ?_
    refine J_load rfl rfl rfl rfl ?_
    refine J_callr rfl (shadow_Clear p'.2.2 W.K W.Lo _) (by exact Gives.last (Take.next (Take.next (Take.next Take.here)))) rfl rfl ?_
    refine J_nil3 ?_
    refine E_then ?_
    refine R_seq ?_
    refine R_region ?_
    refine J_store rfl rfl rfl rfl ?_
    refine J_nil ?_
    refine E_then ?_
    refine R_ret ?_
    dsimp only
    refine E.gives (M := pt r (.deferred (some [])) :: cl c4 156 [.nilIface] :: cl b 153 [.pointer (some ⟨W.d, 0, none⟩), .pointer (some ⟨p'.1, 0, none⟩), .pointer (some ⟨p'.2.1, 0, none⟩), .int .i64 W.fr, .int .i64 W.many, .int .i64 g, .int .i64 a, .int .i64 q, .int .i64 0, .bool W.act, .bool false, .pointer (some ⟨p'.2.2, 0, none⟩)] :: reg p'.1 W.d W.fr 2 :: reg p'.2.1 W.d (W.fr + 2) (W.many - 2) :: shd p'.2.2 [] W.Lo :: dvk W.d ((setV W.V W.K).set (W.fr + g % 2).toNat (headB g q a)) (W.k + 1 + (told W.K).length + 1 + 2) :: F) (by exact Gives.cons (Take.next (Take.next (Take.next (Take.next (Take.next Take.here))))) (Gives.cons (Take.next (Take.next (Take.next (Take.next (Take.next Take.here))))) (Gives.cons (Take.next Take.here) (Gives.cons (Take.next Take.here) (Gives.cons (Take.next Take.here) (Gives.cons Take.here (Gives.cons Take.here (Gives.drop (Gives.drop Gives.refl))))))))) ?_
    refine E_retM (R := cl c4 156 [.nilIface] :: cl b 153 [.pointer (some ⟨W.d, 0, none⟩), .pointer (some ⟨p'.1, 0, none⟩), .pointer (some ⟨p'.2.1, 0, none⟩), .int .i64 W.fr, .int .i64 W.many, .int .i64 g, .int .i64 a, .int .i64 q, .int .i64 0, .bool W.act, .bool false, .pointer (some ⟨p'.2.2, 0, none⟩)] :: reg p'.1 W.d W.fr 2 :: reg p'.2.1 W.d (W.fr + 2) (W.many - 2) :: shd p'.2.2 [] W.Lo :: dvk W.d ((setV W.V W.K).set (W.fr + g % 2).toNat (headB g q a)) (W.k + 1 + (told W.K).length + 1 + 2) :: F) Tryz.results95 Take.here (by exact Res_cell1 rfl rfl (Res.nil)) ?_
    intro w s
    refine ⟨rfl, shut_wal (p := p') ?_⟩
    have e : W.k + 1 + (told W.K).length + 1 + 2 = W.k + (told W.K).length + 4 := by omega
    rw [e] at s
    exact s.drop.drop
  · intro r
    exact E_no
end Go.Proofs.Sol

/- A log without a record at a place. -/
namespace Go.Proofs.Sol
open Go Go.Proofs
set_option maxRecDepth 100000
set_option maxHeartbeats 4000000
set_option linter.unusedVariables false
set_option linter.unusedSimpArgs false
attribute [local irreducible] R J JW E D Fn Y clf mpI own Sat Exit.then Exit.inBlock bodyPost bodyPostM Code.wpIn wpL
abbrev scn (c r : Nat) (a q u : Int) (fn : Value) (fin : Bool) : HP := cl c 290 [.pointer (some ⟨r, 0, none⟩), .int .i64 a, .int .i64 q, .int .i64 u, fn, .bool fin]
/-- Sectors of a log, round. -/
def ring (V : List Bytes) (f m a : Int) : Nat → Bytes
  | 0 => []
  | j + 1 => ring V f m a j ++ V.getD (f + (a + j) % m).toNat []
theorem ring_length {V : List Bytes} (hV : ∀ s ∈ V, s.length = 64) (f m a : Int) (hm : 0 < m) (hf : 0 ≤ f ∧ f + m ≤ V.length) (n : Nat) : (ring V f m a n).length = 64 * n := by
  induction n with
  | zero => rfl
  | succ n ih =>
    have h1 : 0 ≤ (a + n) % m := Int.emod_nonneg _ (by omega)
    have h2 : (a + n) % m < m := Int.emod_lt_of_pos _ hm
    have h3 : (f + (a + (n : Int)) % m).toNat < V.length := by omega
    simp only [ring, List.length_append, ih]
    rw [List.getD_eq_getElem?_getD, List.getElem?_eq_getElem h3]
    have := hV _ (List.getElem_mem h3)
    simp only [Option.getD_some]
    omega
theorem cat_one {V : List Bytes} {a : Int} (h : 0 ≤ a ∧ a < V.length) : cat V a 1 = V.getD a.toNat [] := by
  have := cat_succ (V := V) (a := a) (n := 0) h.1 (by omega)
  rw [this]
  simp [cat]
theorem scan_read (c r d : Nat) (a q u : Int) (fn : Value) (fin : Bool) (V : List Bytes) (k : Nat) (f m i : Int) (n : Nat) (hi : 0 ≤ i ∧ i ≤ 10000) (hn : n ≤ 1000) (hm : 0 < m) (hf : 0 ≤ f ∧ f + m ≤ V.length) (hk : k + n < 1000000000) (F : List HP) :
    Fn Tryz.prog 263 [.pointer (some ⟨c, 0, none⟩), .int .i64 i, .int .i64 (n : Int)] (scn c r a q u fn fin :: dvk d V k :: reg r d f m :: F)
      (Pst (.tuple #[.string (S (ring V f m i n)), .int .i64 0]) (scn c r a q u fn fin :: dvk d V (k + n) :: reg r d f m :: F)) := by
  refine Fn.know (fun w h => dvk_know h.drop) ?_
  rintro ⟨hV, hV6⟩
  refine Fn_enter Tryz.func263 rfl Tryz.ntmps263 rfl ?_
  refine R_seq ?_
  refine R_region ?_
  refine J_assign rfl rfl rfl ?_
  refine J_assign rfl rfl rfl ?_
  refine J_nil ?_
  refine E_then ?_
  refine R_seq ?_
  refine R_region ?_
  refine J_assign rfl rfl rfl ?_
  refine J_nil ?_
  refine E_then ?_
  refine R_seq ?_
  refine R_seq ?_
  refine R_region ?_
  refine J_move rfl rfl rfl ?_
  refine J_move rfl rfl rfl ?_
  refine J_nil2 ?_
  refine E_then ?_
  refine R_block ?_
  refine R_loop (X := {j : Nat // j ≤ n}) (fun j => [(13, .int .i64 (j.1 : Int)), (12, .int .i64 (n : Int)), (0, .pointer (some ⟨c, 0, none⟩)), (1, .int .i64 i), (8, .string (S (ring V f m i j.1)))])
    (fun j => scn c r a q u fn fin :: dvk d V (k + j.1) :: reg r d f m :: F) (fun j => n - j.1) ⟨0, by omega⟩ (by exact sub_cons rfl (sub_cons rfl (sub_cons rfl (sub_cons rfl (sub_cons rfl sub_nil))))) Gives.refl ?_
  rintro ⟨j, hj⟩
  dsimp only
  have lr := ring_length hV6 f m i hm hf j
  refine R_seq ?_
  refine R_region ?_
  refine J_cmp rfl rfl rfl rfl rfl ?_
  refine J_nil1 ?_
  refine E_then ?_
  refine R_seq ?_
  refine R_cond rfl (fun hh => ?_) (fun hh => ?_)
  simp only [decide_eq_true_eq, decide_eq_false_iff_not, Bool.and_eq_true, Bool.or_eq_true, Bool.not_eq_true', Bool.not_eq_false', beq_iff_eq, bne_iff_ne, beq_eq_false_iff_ne, bne_eq_false_iff_eq, ne_eq, ge_iff_le, gt_iff_lt, Int.not_le, Int.not_lt, Bool.and_eq_false_iff, Bool.or_eq_false_iff, Decidable.not_not] at hh
  refine R_skip ?_
  refine E_then ?_
  refine R_seq ?_
  refine R_block ?_
  refine R_seq ?_
  refine R_region ?_
  refine J_move rfl rfl rfl ?_
  refine J_assign rfl rfl rfl ?_
  refine J_nil1 ?_
  refine E_then ?_
  refine R_seq ?_
  rotate_left
  simp only [decide_eq_true_eq, decide_eq_false_iff_not, Bool.and_eq_true, Bool.or_eq_true, Bool.not_eq_true', Bool.not_eq_false', beq_iff_eq, bne_iff_ne, beq_eq_false_iff_ne, bne_eq_false_iff_eq, ne_eq, ge_iff_le, gt_iff_lt, Int.not_le, Int.not_lt, Bool.and_eq_false_iff, Bool.or_eq_false_iff, Decidable.not_not] at hh
  refine R_exit ?_
  refine E_then_exit ?_
  refine E_then_exit ?_
  refine E_block_hit ?_
  refine E_then ?_
  refine R_seq ?_
  refine R_region ?_
  refine J_move rfl rfl rfl ?_
  refine J_assign rfl rfl rfl ?_
  refine J_assign rfl rfl rfl ?_
  refine J_nil1 ?_
  refine E_then ?_
  refine R_ret ?_
  rotate_left
  · have hlt : j < n := by omega
    have h1 : 0 ≤ (i + j) % m := Int.emod_nonneg _ (by omega)
    have h2 : (i + j) % m < m := Int.emod_lt_of_pos _ hm
    have hc := cat_one (V := V) (a := f + (i + j) % m) (by omega)
    have lg : (V.getD (f + (i + (j : Int)) % m).toNat []).length = 64 := by
      have h3 : (f + (i + (j : Int)) % m).toNat < V.length := by omega
      rw [List.getD_eq_getElem?_getD, List.getElem?_eq_getElem h3]
      exact hV6 _ (List.getElem_mem h3)
    refine R_draw ([scn c r a q u fn fin, reg r d f m]) [12, 16, 17] (by kernel_rfl) ?_
    (refine D_lookP (i := 0) rfl (by kernel_rfl) (by exact NP_then (NP_block (NP_then (NP_then (NP_block (NP_then NP_body)))))) (by exact Y_move rfl) rfl rfl ?_)
    (refine D_lookP (i := 1) rfl (by kernel_rfl) (by exact NP_then (NP_block (NP_then (NP_then (NP_block (NP_then NP_body)))))) (by exact Y_nilCheck rfl) rfl rfl ?_)
    (refine D_lookP (i := 2) rfl (by kernel_rfl) (by exact NP_then (NP_block (NP_then (NP_then (NP_block (NP_then NP_body)))))) (by exact Y_fieldAddr0 rfl) rfl rfl ?_)
    (refine D_look (i := 3) rfl (by kernel_rfl) (by exact NP_then (NP_block (NP_then (NP_then (NP_block (NP_then NP_body)))))) (by exact Gives.cons Take.here (Gives.cons (Take.next Take.here) Gives.nil)) (by exact Y_load rfl rfl) rfl rfl ?_)
    (refine D_lookP (i := 4) rfl (by kernel_rfl) (by exact NP_then (NP_block (NP_then (NP_then (NP_block (NP_then NP_body)))))) (by exact Y_move rfl) rfl rfl ?_)
    (refine D_lookP (i := 5) rfl (by kernel_rfl) (by exact NP_then (NP_block (NP_then (NP_then (NP_block (NP_then NP_body)))))) (by exact Y_nilCheck rfl) rfl rfl ?_)
    (refine D_lookP (i := 6) rfl (by kernel_rfl) (by exact NP_then (NP_block (NP_then (NP_then (NP_block (NP_then NP_body)))))) (by exact Y_fieldAddr0 rfl) rfl rfl ?_)
    (refine D_look (i := 7) rfl (by kernel_rfl) (by exact NP_then (NP_block (NP_then (NP_then (NP_block (NP_then NP_body)))))) (by exact Gives.cons Take.here (Gives.cons (Take.next Take.here) Gives.nil)) (by exact Y_load rfl rfl) rfl rfl ?_)
    (refine D_lookP (i := 8) rfl (by kernel_rfl) (by exact NP_then (NP_block (NP_then (NP_then (NP_block (NP_then NP_body)))))) (by exact Y_move rfl) rfl rfl ?_)
    (refine D_lookP (i := 9) rfl (by kernel_rfl) (by exact NP_then (NP_block (NP_then (NP_then (NP_block (NP_then NP_body)))))) (by exact Y_move rfl) rfl rfl ?_)
    (refine D_lookP (i := 10) rfl (by kernel_rfl) (by exact NP_then (NP_block (NP_then (NP_then (NP_block (NP_then NP_body)))))) (by exact Y_ari64 rfl rfl rfl (by omega)) rfl rfl ?_)
    refine D_try1 (i := 11) (by kernel_rfl) rfl ?_
    refine J_callr rfl (logscan_wrap r d f m (i + j) hm (by omega) _) (by exact Gives.last (Take.next (Take.next Take.here))) rfl rfl ?_
    refine D_next (by exact Gives.cons (Take.next Take.here) (Gives.cons Take.here Gives.nil)) ?_
    refine D_try1 (i := 12) (by kernel_rfl) rfl ?_
    refine J_callr rfl (region_Read r d V (k + j) f m ((i + j) % m) 1 (by omega) hf (by omega) _) (by exact Gives.last (Take.next (Take.next Take.here))) rfl rfl ?_
    rw [hc]
    refine D_last (by kernel_rfl) ?_
    (refine D_lookP (i := 13) rfl (by kernel_rfl) (by exact NP_then (NP_block (NP_then (NP_then (NP_block (NP_then NP_body)))))) (by exact Y_move rfl) rfl rfl ?_)
    (refine D_lookP (i := 14) rfl (by kernel_rfl) (by exact NP_then (NP_block (NP_then (NP_then (NP_block (NP_then NP_body)))))) (by exact Y_extract rfl rfl) rfl rfl ?_)
    (refine D_lookP (i := 15) rfl (by kernel_rfl) (by exact NP_then (NP_block (NP_then (NP_then (NP_block (NP_then NP_body)))))) (by exact Y_extract rfl rfl) rfl rfl ?_)
    refine D_try1 (i := 16) (by kernel_rfl) rfl ?_
    refine J_assign rfl rfl rfl ?_
    refine D_last (by kernel_rfl) ?_
    refine D_try1 (i := 17) (by kernel_rfl) rfl ?_
    refine J_assign rfl rfl rfl ?_
    refine D_last (by kernel_rfl) ?_
    (first | refine D_end1 (by kernel_rfl) ?_ | refine D_end (by kernel_rfl) ?_)
    refine E_then ?_
    refine R_seq ?_
    refine R_seq ?_
    refine R_region ?_
    refine J_move rfl rfl rfl ?_
    refine J_cmp rfl rfl rfl rfl rfl ?_
    refine J_nil2 ?_
    refine E_then ?_
    refine R_cond_false rfl ?_
    refine R_skip ?_
    refine E_then ?_
    refine R_region ?_
    refine J_move rfl rfl rfl ?_
    refine J_move rfl rfl rfl ?_
    refine J_str_add rfl rfl (by omega) rfl rfl ?_
    refine J_assign rfl rfl rfl ?_
    refine J_nil3 ?_
    refine E_block_normal ?_
    refine E_then ?_
    refine R_region ?_
    refine J_ari64 rfl rfl rfl (by omega) rfl rfl ?_
    refine J_moveg rfl rfl rfl ?_
    refine J_nil1 ?_
    exact E_thenI fun a' w he hs => ⟨⟨j + 1, by omega⟩, by simp; omega, he.sub (by exact sub_cons rfl (sub_cons rfl (sub_cons rfl (sub_cons rfl (sub_cons rfl sub_nil))))), by
      have hs2 : Sat w (scn c r a q u fn fin :: dvk d V (k + j + 1) :: reg r d f m :: F) := hs.gives (by exact Gives.last (Take.next (Take.next Take.here)))
      exact hs2⟩
  · have e : j = n := by omega
    subst e
    apply E_retP Tryz.results263
    · exact Res.tmp rfl (Res.tmp rfl (Res.nil))
    · exact Gives.refl
    rfl
/-- No record stands there: the scan ends. -/
theorem scan_next0 (c r d : Nat) (a q u : Int) (fn : Value) (V : List Bytes) (k : Nat) (f m : Int) (ha : 0 ≤ a ∧ a ≤ 10000) (hm : 0 < m) (hf : 0 ≤ f ∧ f + m ≤ V.length) (hk : k < 100000000) (hs : (recSize (ring V f m a 1) q).2 ≠ 0) (F : List HP) :
    Fn Tryz.prog 244 [.pointer (some ⟨c, 0, none⟩)] (scn c r a q u fn false :: dvk d V k :: reg r d f m :: F)
      (Pst (.int .i64 0) (scn c r a q u fn true :: dvk d V (k + 1) :: reg r d f m :: F)) := by
  refine Fn_enter Tryz.func244 rfl Tryz.ntmps244 rfl ?_
  refine R_seq ?_
  refine R_region ?_
  refine J_assign rfl rfl rfl ?_
  refine J_nil ?_
  refine E_then ?_
  refine R_seq ?_
  refine R_region ?_
  refine J_move rfl rfl rfl ?_
  refine J_move rfl rfl rfl ?_
  refine J_nilCheck rfl rfl rfl ?_
  refine J_fieldAddr0 rfl rfl rfl ?_
  refine J_load rfl rfl rfl rfl ?_
  refine J_callr rfl (scan_read c r d a q u fn false V k f m a 1 ha (by omega) hm hf (by omega) _) (by exact Gives.refl) rfl rfl ?_
  refine J_move rfl rfl rfl ?_
  refine J_extract rfl rfl rfl rfl ?_
  refine J_extract rfl rfl rfl rfl ?_
  refine J_assign rfl rfl rfl ?_
  refine J_assign rfl rfl rfl ?_
  refine J_nil3 ?_
  refine E_then ?_
  refine R_seq ?_
  refine R_seq ?_
  refine R_region ?_
  refine J_move rfl rfl rfl ?_
  refine J_cmp rfl rfl rfl rfl rfl ?_
  refine J_nil2 ?_
  refine E_then ?_
  refine R_cond_false rfl ?_
  refine R_skip ?_
  refine E_then ?_
  refine R_seq ?_
  refine R_region ?_
  refine J_move rfl rfl rfl ?_
  refine J_move rfl rfl rfl ?_
  refine J_nilCheck rfl rfl rfl ?_
  refine J_fieldAddr0 rfl rfl rfl ?_
  refine J_load rfl rfl rfl rfl ?_
  refine J_callr rfl (logrec_Size _ q _) (by exact Gives.refl) rfl rfl ?_
  generalize (recSize (ring V f m a 1) q).2 = x at hs ⊢
  generalize (recSize (ring V f m a 1) q).1 = y
  refine J_move rfl rfl rfl ?_
  refine J_extract rfl rfl rfl rfl ?_
  refine J_extract rfl rfl rfl rfl ?_
  refine J_assign rfl rfl rfl ?_
  refine J_assign rfl rfl rfl ?_
  refine J_nil3 ?_
  refine E_then ?_
  refine R_seq ?_
  refine R_seq ?_
  refine R_draw ([scn c r a q u fn false, reg r d f m]) [] (by kernel_rfl) ?_
  (refine D_lookP (i := 0) rfl (by kernel_rfl) (by exact NP_then (NP_then NP_body)) (by exact Y_move rfl) rfl rfl ?_)
  (refine D_lookP (i := 1) rfl (by kernel_rfl) (by exact NP_then (NP_then NP_body)) (by exact Y_cmpT rfl rfl rfl (by first | rfl | (simp only [decide_eq_true_eq, ge_iff_le, gt_iff_lt, beq_iff_eq, bne_iff_ne, ne_eq]; first | done | omega))) rfl rfl ?_)
  (refine D_lookP (i := 2) rfl (by kernel_rfl) (by exact NP_then (NP_then NP_body)) (by exact Y_move rfl) rfl rfl ?_)
  (first | refine D_lookGP (i := 3) rfl (by kernel_rfl) (by skip) rfl rfl rfl (by skip) rfl rfl ?_ | refine D_skipP (i := 3) rfl (by kernel_rfl) (by exact NP_then (NP_then NP_body)) rfl rfl rfl rfl rfl rfl ?_ | refine D_skipUP (i := 3) rfl (by kernel_rfl) (by skip) rfl rfl rfl rfl rfl ?_)
  (first | refine D_lookGP (i := 4) rfl (by kernel_rfl) (by skip) rfl rfl rfl (by skip) rfl rfl ?_ | refine D_skipP (i := 4) rfl (by kernel_rfl) (by exact NP_then (NP_then NP_body)) rfl rfl rfl rfl rfl rfl ?_ | refine D_skipUP (i := 4) rfl (by kernel_rfl) (by skip) rfl rfl rfl rfl rfl ?_)
  (first | refine D_lookGP (i := 5) rfl (by kernel_rfl) (by skip) rfl rfl rfl (by skip) rfl rfl ?_ | refine D_skipP (i := 5) rfl (by kernel_rfl) (by exact NP_then (NP_then NP_body)) rfl rfl rfl rfl rfl rfl ?_ | refine D_skipUP (i := 5) rfl (by kernel_rfl) (by skip) rfl rfl rfl rfl rfl ?_)
  (first | refine D_lookGP (i := 6) rfl (by kernel_rfl) (by skip) rfl rfl rfl (by skip) rfl rfl ?_ | refine D_skipP (i := 6) rfl (by kernel_rfl) (by exact NP_then (NP_then NP_body)) rfl rfl rfl rfl rfl rfl ?_ | refine D_skipUP (i := 6) rfl (by kernel_rfl) (by skip) rfl rfl rfl rfl rfl ?_)
  (first | refine D_lookG (i := 7) rfl (by kernel_rfl) (by skip) (by skip) rfl rfl rfl (by skip) rfl rfl ?_ | refine D_skipP (i := 7) rfl (by kernel_rfl) (by exact NP_then (NP_then NP_body)) rfl rfl rfl rfl rfl rfl ?_ | refine D_skipUP (i := 7) rfl (by kernel_rfl) (by skip) rfl rfl rfl rfl rfl ?_)
  (first | refine D_lookGP (i := 9) rfl (by kernel_rfl) (by skip) rfl rfl rfl (by skip) rfl rfl ?_ | refine D_skipP (i := 9) rfl (by kernel_rfl) (by exact NP_then (NP_then NP_body)) rfl rfl rfl rfl rfl rfl ?_ | refine D_skipUP (i := 9) rfl (by kernel_rfl) (by skip) rfl rfl rfl rfl rfl ?_)
  (first | refine D_lookGP (i := 10) rfl (by kernel_rfl) (by skip) rfl rfl rfl (by skip) rfl rfl ?_ | refine D_skipP (i := 10) rfl (by kernel_rfl) (by exact NP_then (NP_then NP_body)) rfl rfl rfl rfl rfl rfl ?_ | refine D_skipUP (i := 10) rfl (by kernel_rfl) (by skip) rfl rfl rfl rfl rfl ?_)
  (first | refine D_lookGP (i := 11) rfl (by kernel_rfl) (by skip) rfl rfl rfl (by skip) rfl rfl ?_ | refine D_skipP (i := 11) rfl (by kernel_rfl) (by exact NP_then (NP_then NP_body)) rfl rfl rfl rfl rfl rfl ?_ | refine D_skipUP (i := 11) rfl (by kernel_rfl) (by skip) rfl rfl rfl rfl rfl ?_)
  (first | refine D_lookG (i := 12) rfl (by kernel_rfl) (by skip) (by skip) rfl rfl rfl (by skip) rfl rfl ?_ | refine D_skipP (i := 12) rfl (by kernel_rfl) (by exact NP_then (NP_then NP_body)) rfl rfl rfl rfl rfl rfl ?_ | refine D_skipUP (i := 12) rfl (by kernel_rfl) (by skip) rfl rfl rfl rfl rfl ?_)
  refine D_try1 (i := 8) (by kernel_rfl) rfl ?_
  refine J_guard_not rfl rfl rfl rfl rfl rfl ?_
  refine D_next (by exact Gives.cons Take.here (Gives.cons (Take.next Take.here) Gives.nil)) ?_
  (first | refine D_lookGP (i := 13) rfl (by kernel_rfl) (by skip) rfl rfl rfl (by skip) rfl rfl ?_ | refine D_skipP (i := 13) rfl (by kernel_rfl) (by exact NP_then (NP_then NP_body)) rfl rfl rfl rfl rfl rfl ?_ | refine D_skipUP (i := 13) rfl (by kernel_rfl) (by skip) rfl rfl rfl rfl rfl ?_)
  (first | refine D_lookGP (i := 14) rfl (by kernel_rfl) (by skip) rfl rfl rfl (by skip) rfl rfl ?_ | refine D_skipP (i := 14) rfl (by kernel_rfl) (by exact NP_then (NP_then NP_body)) rfl rfl rfl rfl rfl rfl ?_ | refine D_skipUP (i := 14) rfl (by kernel_rfl) (by skip) rfl rfl rfl rfl rfl ?_)
  (refine D_lookP (i := 15) rfl (by kernel_rfl) (by exact NP_then (NP_then NP_body)) (by exact Y_pick_true rfl rfl) rfl rfl ?_)
  (first | refine D_end1 (by kernel_rfl) ?_ | refine D_end (by kernel_rfl) ?_)
  refine E_then ?_
  refine R_cond_true rfl ?_
  refine R_seq ?_
  refine R_region ?_
  refine J_move rfl rfl rfl ?_
  refine J_nilCheck rfl rfl rfl ?_
  refine J_fieldAddr0 rfl rfl rfl ?_
  refine J_store rfl rfl rfl rfl ?_
  refine J_nil3 ?_
  refine E_then ?_
  refine R_seq ?_
  refine R_region ?_
  refine J_assign rfl rfl rfl ?_
  refine J_nil ?_
  refine E_then ?_
  refine R_ret ?_
  refine E_then_ret ?_
  apply E_retP Tryz.results244
  · exact Res.tmp rfl (Res.nil)
  · exact Gives.refl
  rfl
theorem scan_run0 (c r d : Nat) (a q u : Int) (fn : Value) (V : List Bytes) (k : Nat) (f m : Int) (ha : 0 ≤ a ∧ a < m) (hm : 0 < m ∧ m ≤ 1000) (hf : 0 ≤ f ∧ f + m ≤ V.length) (hV : V.length ≤ 1000) (hk : k < 100000000) (hs : (recSize (ring V f m a 1) q).2 ≠ 0) (F : List HP) :
    Fn Tryz.prog 221 [.pointer (some ⟨c, 0, none⟩)] (scn c r a q u fn false :: dvk d V k :: reg r d f m :: F)
      (Pst (.int .i64 0) (scn c r a q u fn true :: dvk d V (k + 1) :: reg r d f m :: F)) := by
  refine Fn_enter Tryz.func221 rfl Tryz.ntmps221 rfl ?_
  refine R_seq ?_
  refine R_region ?_
  refine J_assign rfl rfl rfl ?_
  refine J_nil ?_
  refine E_then ?_
  refine R_seq ?_
  refine R_seq ?_
  refine R_draw ([scn c r a q u fn false, reg r d f m]) [8, 9] (by kernel_rfl) ?_
  (refine D_lookP (i := 0) rfl (by kernel_rfl) (by exact NP_then (NP_then NP_body)) (by exact Y_move rfl) rfl rfl ?_)
  (refine D_lookP (i := 1) rfl (by kernel_rfl) (by exact NP_then (NP_then NP_body)) (by exact Y_nilCheck rfl) rfl rfl ?_)
  (refine D_lookP (i := 2) rfl (by kernel_rfl) (by exact NP_then (NP_then NP_body)) (by exact Y_fieldAddr0 rfl) rfl rfl ?_)
  (refine D_look (i := 3) rfl (by kernel_rfl) (by exact NP_then (NP_then NP_body)) (by exact Gives.cons Take.here (Gives.cons (Take.next Take.here) Gives.nil)) (by exact Y_load rfl rfl) rfl rfl ?_)
  (refine D_lookP (i := 4) rfl (by kernel_rfl) (by exact NP_then (NP_then NP_body)) (by exact Y_move rfl) rfl rfl ?_)
  (refine D_lookP (i := 5) rfl (by kernel_rfl) (by exact NP_then (NP_then NP_body)) (by exact Y_nilCheck rfl) rfl rfl ?_)
  (refine D_lookP (i := 6) rfl (by kernel_rfl) (by exact NP_then (NP_then NP_body)) (by exact Y_fieldAddr0 rfl) rfl rfl ?_)
  (refine D_look (i := 7) rfl (by kernel_rfl) (by exact NP_then (NP_then NP_body)) (by exact Gives.cons Take.here (Gives.cons (Take.next Take.here) Gives.nil)) (by exact Y_load rfl rfl) rfl rfl ?_)
  refine D_try1 (i := 8) (by kernel_rfl) rfl ?_
  refine J_callr rfl (logscan_there r d f m a ha (by omega) _) (by exact Gives.last (Take.next (Take.next Take.here))) rfl rfl ?_
  refine D_last (by kernel_rfl) ?_
  refine D_try1 (i := 9) (by kernel_rfl) rfl ?_
  refine J_assign rfl rfl rfl ?_
  refine D_last (by kernel_rfl) ?_
  (first | refine D_end1 (by kernel_rfl) ?_ | refine D_end (by kernel_rfl) ?_)
  refine E_then ?_
  refine R_seq ?_
  refine R_region ?_
  refine J_move rfl rfl rfl ?_
  refine J_cmp rfl rfl rfl rfl rfl ?_
  refine J_nil2 ?_
  refine E_then ?_
  refine R_cond_false rfl ?_
  refine R_skip ?_
  refine E_then ?_
  refine R_seq ?_
  refine R_block ?_
  refine R_loop (X := {j : Nat // j ≤ 1}) (fun j => [(0, .pointer (some ⟨c, 0, none⟩))])
    (fun j => scn c r a q u fn (if j.1 = 0 then false else true) :: dvk d V (k + j.1) :: reg r d f m :: F) (fun j => 1 - j.1) ⟨0, by omega⟩ (by exact sub_cons rfl sub_nil) (by exact Gives.cons (Take.next Take.here) (Gives.last (Take.next Take.here))) ?_
  rintro ⟨j, hj⟩
  dsimp only
  rcases Nat.lt_or_ge j 1 with h0 | h0
  · have hj0 : j = 0 := by omega
    subst hj0
    simp only [if_true, Nat.add_zero]
    refine R_seq ?_
    refine R_seq ?_
    refine R_region ?_
    refine J_move rfl rfl rfl ?_
    refine J_nilCheck rfl rfl rfl ?_
    refine J_fieldAddr0 rfl rfl rfl ?_
    refine J_load rfl rfl rfl rfl ?_
    refine J_un_not rfl rfl rfl ?_
    refine J_nil3 ?_
    refine E_then ?_
    refine R_cond_true rfl ?_
    refine R_skip ?_
    refine E_then ?_
    refine R_block ?_
    refine R_seq ?_
    refine R_region ?_
    refine J_move rfl rfl rfl ?_
    refine J_callr rfl (scan_next0 c r d a q u fn V k f m (by omega) hm.1 hf hk hs _) (by exact Gives.refl) rfl rfl ?_
    refine J_assign rfl rfl rfl ?_
    refine J_nil2 ?_
    refine E_then ?_
    refine R_seq ?_
    refine R_region ?_
    refine J_move rfl rfl rfl ?_
    refine J_cmp rfl rfl rfl rfl rfl ?_
    refine J_nil2 ?_
    refine E_then ?_
    refine R_cond_false rfl ?_
    refine R_skip ?_
    refine E_block_normal ?_
    exact E_thenI fun a w he hs => ⟨⟨1, by omega⟩, by simp, he.sub (by exact sub_cons rfl sub_nil), hs⟩
  · have hj0 : j = 1 := by omega
    subst hj0
    simp only [Nat.one_ne_zero, if_false]
    refine R_seq ?_
    refine R_seq ?_
    refine R_region ?_
    refine J_move rfl rfl rfl ?_
    refine J_nilCheck rfl rfl rfl ?_
    refine J_fieldAddr0 rfl rfl rfl ?_
    refine J_load rfl rfl rfl rfl ?_
    refine J_un_not rfl rfl rfl ?_
    refine J_nil3 ?_
    refine E_then ?_
    refine R_cond_false rfl ?_
    refine R_exit ?_
    refine E_then_exit ?_
    refine E_then_exit ?_
    refine E_block_hit ?_
    refine E_then ?_
    refine R_seq ?_
    refine R_region ?_
    refine J_assign rfl rfl rfl ?_
    refine J_nil ?_
    refine E_then ?_
    refine R_ret ?_
    apply E_retP Tryz.results221
    · exact Res.tmp rfl (Res.nil)
    · exact Gives.refl
    rfl
theorem logscan_Each0 (r d : Nat) (a q : Int) (f' : Nat) (cs : List Value) (V : List Bytes) (k : Nat) (f m : Int) (ha : 0 ≤ a ∧ a < m) (hm : 0 < m ∧ m ≤ 1000) (hf : 0 ≤ f ∧ f + m ≤ V.length) (hV : V.length ≤ 1000) (hk : k < 100000000) (hs : (recSize (ring V f m a 1) q).2 ≠ 0) (F : List HP) :
    Fn Tryz.prog 182 [.pointer (some ⟨r, 0, none⟩), .int .i64 a, .int .i64 q, .func (.func f') #[] cs.toArray] (dvk d V k :: reg r d f m :: F)
      (Pst (.int .i64 0) (dvk d V (k + 1) :: reg r d f m :: F)) := by
  refine Fn_enter Tryz.func182 rfl Tryz.ntmps182 rfl ?_
  refine R_seq ?_
  refine R_region ?_
  refine J_assign rfl rfl rfl ?_
  refine J_nil ?_
  refine E_then ?_
  refine R_seq ?_
  refine R_region ?_
  refine J_move rfl rfl rfl ?_
  refine J_move rfl rfl rfl ?_
  refine J_move rfl rfl rfl ?_
  refine J_move rfl rfl rfl ?_
  refine J_build rfl rfl rfl rfl ?_
  refine J_boxA rfl rfl rfl ?_; intro
  refine J_assign rfl rfl rfl ?_
  refine J_nil3 ?_
  refine E_then ?_
  refine R_seq ?_
  refine R_region ?_
  refine J_move rfl rfl rfl ?_
  rename_i c
  refine J_callr rfl (scan_run0 c r d a q 0 (.func (.func f') #[] cs.toArray) V k f m ha hm hf hV hk hs _) (by exact Gives.refl) rfl rfl ?_
  refine J_assign rfl rfl rfl ?_
  refine J_nil2 ?_
  refine E_then ?_
  refine R_ret ?_
  apply E_retP Tryz.results182
  · exact Res.tmp rfl (Res.nil)
  · exact Gives.cons (Take.next Take.here) (Gives.cons (Take.next Take.here) (Gives.drop Gives.refl))
  rfl
end Go.Proofs.Sol

/- A log over a disk: begun, gone through, opened. -/
namespace Go.Proofs.Sol
open Go Go.Proofs
set_option maxRecDepth 100000
set_option maxHeartbeats 4000000
set_option linter.unusedVariables false
set_option linter.unusedSimpArgs false
attribute [local irreducible] R J JW E D Fn Y clf mpI own Sat Exit.then Exit.inBlock bodyPost bodyPostM Code.wpIn wpL
theorem wal_begun (b : Nat) (W : Wl) (h : Int × Int × Int) (hV : W.V.length ≤ 1000) (hf : 0 ≤ W.fr ∧ W.fr + W.many ≤ W.V.length) (hm : 24 ≤ W.many ∧ W.many ≤ 200) (hk : W.k < 90000000)
    (hn : newer ((cat W.V W.fr 2).take 64) ((cat W.V W.fr 2).drop 64) = (h, 0)) (hh : 0 ≤ h.2.2 ∧ h.2.2 < W.many - 2 ∧ h.1 < 140737488355328 ∧ h.2.1 < 140737488355328) (hl : (cat W.V W.fr 2).length = 128) (F : List HP) :
    Fn Tryz.prog 110 [.pointer (some ⟨b, 0, none⟩)] (wal b W :: F) (Pst .nilIface (wal b { W with gen := h.1, at_ := h.2.2, seq := h.2.1, k := W.k + 2 } :: F)) := by
  obtain ⟨g, q, a⟩ := h
  dsimp only at hh ⊢
  refine Fn.open_ (fun w h => open_wal h) ?_
  rintro p
  dsimp only [walL, List.cons_append, List.nil_append]
  refine Fn_enter Tryz.func110 rfl Tryz.ntmps110 rfl ?_
  refine R_seq ?_
  refine R_region ?_
  refine J_assign rfl rfl rfl ?_
  refine J_nil ?_
  refine E_then ?_
  refine R_seq ?_
  refine R_region ?_
  refine J_move rfl rfl rfl ?_
  refine J_nilCheck rfl rfl rfl ?_
  refine J_fieldAddr0 rfl rfl rfl ?_
  refine J_load rfl rfl rfl rfl ?_
  have e0 : W.fr + 0 = W.fr := by omega
  have hr := region_Read p.1 W.d W.V W.k W.fr 2 0 2 (by omega) (by omega) (by omega)
  rw [e0] at hr
  refine J_callr rfl (hr _) (by exact Gives.cons (Take.next (Take.next (Take.next (Take.next Take.here)))) (Gives.last (Take.next Take.here))) rfl rfl ?_
  refine J_move rfl rfl rfl ?_
  refine J_extract rfl rfl rfl rfl ?_
  refine J_extract rfl rfl rfl rfl ?_
  refine J_assign rfl rfl rfl ?_
  refine J_assign rfl rfl rfl ?_
  refine J_nil3 ?_
  refine E_then ?_
  refine R_seq ?_
  refine R_seq ?_
  refine R_region ?_
  refine J_move rfl rfl rfl ?_
  refine J_cmp rfl rfl rfl rfl rfl ?_
  refine J_nil2 ?_
  refine E_then ?_
  refine R_cond_false rfl ?_
  refine R_skip ?_
  refine E_then ?_
  refine R_seq ?_
  have e1 : (cat W.V W.fr 2).take (Int.toNat 64) = (cat W.V W.fr 2).take 64 := rfl
  have e2 : (cat W.V W.fr 2).drop (Int.toNat 64) = (cat W.V W.fr 2).drop 64 := rfl
  refine R_cutT (X := Nat) (fun x => [(5, .pointer (some ⟨x, 0, none⟩)), (4, .int .i64 0), (0, .pointer (some ⟨b, 0, none⟩)), (2, .nilIface)]) (fun x => cl x 159 [.int .i64 g, .int .i64 q, .int .i64 a] :: dvk W.d W.V (W.k + 2) :: reg p.1 W.d W.fr 2 :: walH b W p :: reg p.2.1 W.d (W.fr + 2) (W.many - 2) :: shd p.2.2 W.K W.Lo :: F) ?_ ?_
  · skip
    refine R_draw (F) [4, 9, 10] (by kernel_rfl) ?_
    (refine D_lookP (i := 0) rfl (by kernel_rfl) (by exact NP_then NP_body) (by exact Y_move rfl) rfl rfl ?_)
    (refine D_look (i := 1) rfl (by kernel_rfl) (by exact NP_then NP_body) (by exact Gives.drop (Gives.drop (Gives.drop (Gives.drop (Gives.drop Gives.refl))))) (by exact Y_slice_hi rfl rfl (by omega) (by omega)) rfl rfl ?_)
    (refine D_lookP (i := 2) rfl (by kernel_rfl) (by exact NP_then NP_body) (by exact Y_move rfl) rfl rfl ?_)
    (refine D_look (i := 3) rfl (by kernel_rfl) (by exact NP_then NP_body) (by exact Gives.drop (Gives.drop (Gives.drop (Gives.drop (Gives.drop Gives.refl))))) (by exact Y_slice_lo rfl rfl (by omega) (by omega)) rfl rfl ?_)
    refine D_try2 (i := 4) (j := 8) (by kernel_rfl) rfl rfl ?_ ?_
    · refine J_callr rfl (loghead_Newer _ _ _) (by exact Gives.refl) rfl rfl ?_
      rw [e1, e2, hn]
      refine D_last (by kernel_rfl) ?_
      (refine D_lookP (i := 5) rfl (by kernel_rfl) (by exact NP_then NP_body) (by exact Y_move rfl) rfl rfl ?_)
      (refine D_lookP (i := 6) rfl (by kernel_rfl) (by exact NP_then NP_body) (by exact Y_extract rfl rfl) rfl rfl ?_)
      (refine D_lookP (i := 7) rfl (by kernel_rfl) (by exact NP_then NP_body) (by exact Y_extract rfl rfl) rfl rfl ?_)
      refine D_try1 (i := 8) (by kernel_rfl) rfl ?_
      (refine J_alloc rfl rfl ?_; intro)
      refine D_next (by exact Gives.drop (Gives.drop (Gives.drop (Gives.drop (Gives.drop (Gives.drop Gives.refl)))))) ?_
      refine D_try1 (i := 9) (by kernel_rfl) rfl ?_
      refine J_storeA rfl rfl rfl rfl rfl rfl ?_
      refine D_last (by kernel_rfl) ?_
      refine D_try1 (i := 10) (by kernel_rfl) rfl ?_
      refine J_assign rfl rfl rfl ?_
      refine D_last (by kernel_rfl) ?_
      (first | refine D_end1 (by kernel_rfl) ?_ | refine D_end (by kernel_rfl) ?_)
      skip
      rename_i x
      exact E_cut x (by exact sub_cons rfl (sub_cons rfl (sub_cons rfl (sub_cons rfl sub_nil)))) (by exact Gives.refl)
    · skip
      (refine J_alloc rfl rfl ?_; intro)
      refine D_next (by exact Gives.drop (Gives.drop (Gives.drop (Gives.drop (Gives.drop (Gives.drop Gives.refl)))))) ?_
      refine D_try1 (i := 4) (by kernel_rfl) rfl ?_
      refine J_callr rfl (loghead_Newer _ _ _) (by exact Gives.refl) rfl rfl ?_
      rw [e1, e2, hn]
      refine D_last (by kernel_rfl) ?_
      (refine D_lookP (i := 5) rfl (by kernel_rfl) (by exact NP_then NP_body) (by exact Y_move rfl) rfl rfl ?_)
      (refine D_lookP (i := 6) rfl (by kernel_rfl) (by exact NP_then NP_body) (by exact Y_extract rfl rfl) rfl rfl ?_)
      (refine D_lookP (i := 7) rfl (by kernel_rfl) (by exact NP_then NP_body) (by exact Y_extract rfl rfl) rfl rfl ?_)
      refine D_try1 (i := 9) (by kernel_rfl) rfl ?_
      refine J_storeA rfl rfl rfl rfl rfl rfl ?_
      refine D_last (by kernel_rfl) ?_
      refine D_try1 (i := 10) (by kernel_rfl) rfl ?_
      refine J_assign rfl rfl rfl ?_
      refine D_last (by kernel_rfl) ?_
      (first | refine D_end1 (by kernel_rfl) ?_ | refine D_end (by kernel_rfl) ?_)
      skip
      rename_i x
      exact E_cut x (by exact sub_cons rfl (sub_cons rfl (sub_cons rfl (sub_cons rfl sub_nil)))) (by exact Gives.refl)
  · intro x
    refine R_seq ?_
    refine R_seq ?_
    refine R_draw ([cl x 159 [.int .i64 g, .int .i64 q, .int .i64 a], walH b W p]) [] (by kernel_rfl) ?_
    (refine D_lookP (i := 0) rfl (by kernel_rfl) (by exact NP_then (NP_then NP_body)) (by exact Y_move rfl) rfl rfl ?_)
    (refine D_lookP (i := 1) rfl (by kernel_rfl) (by exact NP_then (NP_then NP_body)) (by exact Y_cmpF rfl rfl rfl (by first | rfl | (simp only [decide_eq_false_iff_not, ge_iff_le, gt_iff_lt, beq_eq_false_iff_ne, bne_eq_false_iff_eq, ne_eq]; first | done | omega))) rfl rfl ?_)
    (refine D_lookP (i := 2) rfl (by kernel_rfl) (by exact NP_then (NP_then NP_body)) (by exact Y_move rfl) rfl rfl ?_)
    (first | refine D_lookGP (i := 3) rfl (by kernel_rfl) (by exact NP_then (NP_then NP_body)) rfl rfl rfl (by exact Y_fieldAddr0 rfl) rfl rfl ?_ | refine D_skipP (i := 3) rfl (by kernel_rfl) (by skip) rfl rfl rfl rfl rfl rfl ?_ | refine D_skipUP (i := 3) rfl (by kernel_rfl) (by skip) rfl rfl rfl rfl rfl ?_)
    (first | refine D_lookG (i := 4) rfl (by kernel_rfl) (by exact NP_then (NP_then NP_body)) (by exact Gives.cons Take.here (Gives.cons (Take.next (Take.next Take.here)) Gives.nil)) rfl rfl rfl (by exact Y_load rfl rfl) rfl rfl ?_ | refine D_skipP (i := 4) rfl (by kernel_rfl) (by skip) rfl rfl rfl rfl rfl rfl ?_ | refine D_skipUP (i := 4) rfl (by kernel_rfl) (by skip) rfl rfl rfl rfl rfl ?_)
    (first | refine D_lookGP (i := 5) rfl (by kernel_rfl) (by exact NP_then (NP_then NP_body)) rfl rfl rfl (by exact Y_move rfl) rfl rfl ?_ | refine D_skipP (i := 5) rfl (by kernel_rfl) (by skip) rfl rfl rfl rfl rfl rfl ?_ | refine D_skipUP (i := 5) rfl (by kernel_rfl) (by skip) rfl rfl rfl rfl rfl ?_)
    (first | refine D_lookGP (i := 6) rfl (by kernel_rfl) (by exact NP_then (NP_then NP_body)) rfl rfl rfl (by exact Y_nilCheck rfl) rfl rfl ?_ | refine D_skipP (i := 6) rfl (by kernel_rfl) (by skip) rfl rfl rfl rfl rfl rfl ?_ | refine D_skipUP (i := 6) rfl (by kernel_rfl) (by skip) rfl rfl rfl rfl rfl ?_)
    (first | refine D_lookGP (i := 7) rfl (by kernel_rfl) (by exact NP_then (NP_then NP_body)) rfl rfl rfl (by exact Y_fieldAddr0 rfl) rfl rfl ?_ | refine D_skipP (i := 7) rfl (by kernel_rfl) (by skip) rfl rfl rfl rfl rfl rfl ?_ | refine D_skipUP (i := 7) rfl (by kernel_rfl) (by skip) rfl rfl rfl rfl rfl ?_)
    (first | refine D_lookG (i := 8) rfl (by kernel_rfl) (by exact NP_then (NP_then NP_body)) (by exact Gives.cons Take.here (Gives.cons (Take.next (Take.next Take.here)) Gives.nil)) rfl rfl rfl (by exact Y_load rfl rfl) rfl rfl ?_ | refine D_skipP (i := 8) rfl (by kernel_rfl) (by skip) rfl rfl rfl rfl rfl rfl ?_ | refine D_skipUP (i := 8) rfl (by kernel_rfl) (by skip) rfl rfl rfl rfl rfl ?_)
    refine D_try1 (i := 9) (by kernel_rfl) rfl ?_
    refine J_guard rfl rfl rfl ?_
    refine J_callr rfl (region_Many p.2.1 W.d (W.fr + 2) (W.many - 2) _) (by exact Gives.last (Take.next (Take.next (Take.next (Take.next Take.here))))) rfl rfl ?_
    refine D_next (by exact Gives.cons (Take.next Take.here) (Gives.cons (Take.next (Take.next (Take.next Take.here))) Gives.nil)) ?_
    (first | refine D_lookGP (i := 10) rfl (by kernel_rfl) (by exact NP_then (NP_then NP_body)) rfl rfl rfl (by exact Y_cmpF rfl rfl rfl (by first | rfl | (simp only [decide_eq_false_iff_not, ge_iff_le, gt_iff_lt, beq_eq_false_iff_ne, bne_eq_false_iff_eq, ne_eq]; first | done | omega))) rfl rfl ?_ | refine D_skipP (i := 10) rfl (by kernel_rfl) (by skip) rfl rfl rfl rfl rfl rfl ?_ | refine D_skipUP (i := 10) rfl (by kernel_rfl) (by skip) rfl rfl rfl rfl rfl ?_)
    (refine D_lookP (i := 11) rfl (by kernel_rfl) (by exact NP_then (NP_then NP_body)) (by exact Y_pick_false rfl rfl) rfl rfl ?_)
    (refine D_lookP (i := 12) rfl (by kernel_rfl) (by exact NP_then (NP_then NP_body)) (by exact Y_move rfl) rfl rfl ?_)
    (first | refine D_lookGP (i := 13) rfl (by kernel_rfl) (by exact NP_then (NP_then NP_body)) rfl rfl rfl (by exact Y_fieldAddr0 rfl) rfl rfl ?_ | refine D_skipP (i := 13) rfl (by kernel_rfl) (by skip) rfl rfl rfl rfl rfl rfl ?_ | refine D_skipUP (i := 13) rfl (by kernel_rfl) (by skip) rfl rfl rfl rfl rfl ?_)
    (first | refine D_lookG (i := 14) rfl (by kernel_rfl) (by exact NP_then (NP_then NP_body)) (by exact Gives.cons (Take.next Take.here) (Gives.cons (Take.next (Take.next (Take.next Take.here))) Gives.nil)) rfl rfl rfl (by exact Y_load rfl rfl) rfl rfl ?_ | refine D_skipP (i := 14) rfl (by kernel_rfl) (by skip) rfl rfl rfl rfl rfl rfl ?_ | refine D_skipUP (i := 14) rfl (by kernel_rfl) (by skip) rfl rfl rfl rfl rfl ?_)
    (first | refine D_lookGP (i := 15) rfl (by kernel_rfl) (by exact NP_then (NP_then NP_body)) rfl rfl rfl (by exact Y_cmpF rfl rfl rfl (by first | rfl | (simp only [decide_eq_false_iff_not, ge_iff_le, gt_iff_lt, beq_eq_false_iff_ne, bne_eq_false_iff_eq, ne_eq]; first | done | omega))) rfl rfl ?_ | refine D_skipP (i := 15) rfl (by kernel_rfl) (by skip) rfl rfl rfl rfl rfl rfl ?_ | refine D_skipUP (i := 15) rfl (by kernel_rfl) (by skip) rfl rfl rfl rfl rfl ?_)
    (refine D_lookP (i := 16) rfl (by kernel_rfl) (by exact NP_then (NP_then NP_body)) (by exact Y_pick_false rfl rfl) rfl rfl ?_)
    (refine D_lookP (i := 17) rfl (by kernel_rfl) (by exact NP_then (NP_then NP_body)) (by exact Y_move rfl) rfl rfl ?_)
    (first | refine D_lookGP (i := 18) rfl (by kernel_rfl) (by exact NP_then (NP_then NP_body)) rfl rfl rfl (by exact Y_fieldAddr0 rfl) rfl rfl ?_ | refine D_skipP (i := 18) rfl (by kernel_rfl) (by skip) rfl rfl rfl rfl rfl rfl ?_ | refine D_skipUP (i := 18) rfl (by kernel_rfl) (by skip) rfl rfl rfl rfl rfl ?_)
    (first | refine D_lookG (i := 19) rfl (by kernel_rfl) (by exact NP_then (NP_then NP_body)) (by exact Gives.cons (Take.next Take.here) (Gives.cons (Take.next (Take.next (Take.next Take.here))) Gives.nil)) rfl rfl rfl (by exact Y_load rfl rfl) rfl rfl ?_ | refine D_skipP (i := 19) rfl (by kernel_rfl) (by skip) rfl rfl rfl rfl rfl rfl ?_ | refine D_skipUP (i := 19) rfl (by kernel_rfl) (by skip) rfl rfl rfl rfl rfl ?_)
    (first | refine D_lookGP (i := 20) rfl (by kernel_rfl) (by exact NP_then (NP_then NP_body)) rfl rfl rfl (by exact Y_cmpF rfl rfl rfl (by first | rfl | (simp only [decide_eq_false_iff_not, ge_iff_le, gt_iff_lt, beq_eq_false_iff_ne, bne_eq_false_iff_eq, ne_eq]; first | done | omega))) rfl rfl ?_ | refine D_skipP (i := 20) rfl (by kernel_rfl) (by skip) rfl rfl rfl rfl rfl rfl ?_ | refine D_skipUP (i := 20) rfl (by kernel_rfl) (by skip) rfl rfl rfl rfl rfl ?_)
    (refine D_lookP (i := 21) rfl (by kernel_rfl) (by exact NP_then (NP_then NP_body)) (by exact Y_pick_false rfl rfl) rfl rfl ?_)
    (first | refine D_end1 (by kernel_rfl) ?_ | refine D_end (by kernel_rfl) ?_)
    refine E_then ?_
    refine R_cond_false rfl ?_
    refine R_skip ?_
    refine E_then ?_
    refine R_seq ?_
    refine R_draw ([cl x 159 [.int .i64 g, .int .i64 q, .int .i64 a]]) [17] (by kernel_rfl) ?_
    (refine D_lookP (i := 0) rfl (by kernel_rfl) (by exact NP_then NP_body) (by exact Y_move rfl) rfl rfl ?_)
    (refine D_lookP (i := 1) rfl (by kernel_rfl) (by exact NP_then NP_body) (by exact Y_move rfl) rfl rfl ?_)
    (refine D_lookP (i := 2) rfl (by kernel_rfl) (by exact NP_then NP_body) (by exact Y_move rfl) rfl rfl ?_)
    (refine D_lookP (i := 3) rfl (by kernel_rfl) (by exact NP_then NP_body) (by exact Y_fieldAddr0 rfl) rfl rfl ?_)
    (refine D_look (i := 4) rfl (by kernel_rfl) (by exact NP_then NP_body) (by exact Gives.cons (Take.next Take.here) Gives.nil) (by exact Y_load rfl rfl) rfl rfl ?_)
    (refine D_lookP (i := 5) rfl (by kernel_rfl) (by exact NP_then NP_body) (by exact Y_fieldAddr0 rfl) rfl rfl ?_)
    (refine D_look (i := 6) rfl (by kernel_rfl) (by exact NP_then NP_body) (by exact Gives.cons (Take.next Take.here) Gives.nil) (by exact Y_load rfl rfl) rfl rfl ?_)
    (refine D_lookP (i := 7) rfl (by kernel_rfl) (by exact NP_then NP_body) (by exact Y_fieldAddr0 rfl) rfl rfl ?_)
    (refine D_look (i := 8) rfl (by kernel_rfl) (by exact NP_then NP_body) (by exact Gives.cons (Take.next Take.here) Gives.nil) (by exact Y_load rfl rfl) rfl rfl ?_)
    (refine D_lookP (i := 9) rfl (by kernel_rfl) (by exact NP_then NP_body) (by exact Y_nilCheck rfl) rfl rfl ?_)
    (refine D_lookP (i := 10) rfl (by kernel_rfl) (by exact NP_then NP_body) (by exact Y_fieldAddr0 rfl) rfl rfl ?_)
    refine D_try1 (i := 11) (by kernel_rfl) rfl ?_
    refine J_store rfl rfl rfl rfl ?_
    refine D_next (by exact Gives.cons (Take.next Take.here) Gives.nil) ?_
    (refine D_lookP (i := 12) rfl (by kernel_rfl) (by exact NP_then NP_body) (by exact Y_nilCheck rfl) rfl rfl ?_)
    (refine D_lookP (i := 13) rfl (by kernel_rfl) (by exact NP_then NP_body) (by exact Y_fieldAddr0 rfl) rfl rfl ?_)
    refine D_try1 (i := 14) (by kernel_rfl) rfl ?_
    refine J_store rfl rfl rfl rfl ?_
    refine D_next (by exact Gives.cons (Take.next Take.here) Gives.nil) ?_
    (refine D_lookP (i := 15) rfl (by kernel_rfl) (by exact NP_then NP_body) (by exact Y_nilCheck rfl) rfl rfl ?_)
    (refine D_lookP (i := 16) rfl (by kernel_rfl) (by exact NP_then NP_body) (by exact Y_fieldAddr0 rfl) rfl rfl ?_)
    refine D_try1 (i := 17) (by kernel_rfl) rfl ?_
    refine J_store rfl rfl rfl rfl ?_
    refine D_last (by kernel_rfl) ?_
    (first | refine D_end1 (by kernel_rfl) ?_ | refine D_end (by kernel_rfl) ?_)
    refine E_then ?_
    refine R_seq ?_
    refine R_region ?_
    refine J_assign rfl rfl rfl ?_
    refine J_nil ?_
    refine E_then ?_
    refine R_ret ?_
    apply E_ret Tryz.results110
    · exact Res.tmp rfl (Res.nil)
    · intro w s
      refine ⟨rfl, shut_wal (p := p) ?_⟩
      have s2 : Sat w (walH b { W with gen := g, at_ := a, seq := q, k := W.k + 2 } p :: reg p.1 W.d W.fr 2 :: reg p.2.1 W.d (W.fr + 2) (W.many - 2) :: shd p.2.2 W.K W.Lo :: dvk W.d W.V (W.k + 2) :: F) := s.gives (by exact Gives.cons (Take.next (Take.next (Take.next (Take.next Take.here)))) (Gives.cons (Take.next (Take.next (Take.next Take.here))) (Gives.cons Take.here (Gives.cons (Take.next (Take.next Take.here)) (Gives.cons (Take.next Take.here) (Gives.drop Gives.refl))))))
      exact s2
theorem wal_replay0 (b : Nat) (W : Wl) (hV : W.V.length ≤ 1000) (hf : 0 ≤ W.fr ∧ W.fr + W.many ≤ W.V.length) (hm : 24 ≤ W.many ∧ W.many ≤ 200) (hk : W.k < 90000000) (ha : 0 ≤ W.at_ ∧ W.at_ < W.many - 2)
    (hs : (recSize (ring W.V (W.fr + 2) (W.many - 2) W.at_ 1) W.seq).2 ≠ 0) (hlo : W.Lo.length < 1000000) (F : List HP) :
    Fn Tryz.prog 111 [.pointer (some ⟨b, 0, none⟩)] (wal b W :: F) (Pst .nilIface (wal b { W with K := keep W.K W.Lo, Lo := [], k := W.k + 1 } :: F)) := by
  refine Fn.open_ (fun w h => open_wal h) ?_
  rintro p
  dsimp only [walL, List.cons_append, List.nil_append]
  refine Fn_enter Tryz.func111 rfl Tryz.ntmps111 rfl ?_
  refine R_seq ?_
  refine R_region ?_
  refine J_assign rfl rfl rfl ?_
  refine J_nil ?_
  refine E_then ?_
  refine R_seq ?_
  refine R_region ?_
  refine J_alloc rfl rfl ?_; intro
  refine J_nil ?_
  refine E_then ?_
  refine R_seq ?_
  rename_i c3
  refine R_draw ([walH b W p]) [13, 14] (by kernel_rfl) ?_
  (refine D_lookP (i := 0) rfl (by kernel_rfl) (by exact NP_then NP_body) (by exact Y_move rfl) rfl rfl ?_)
  (refine D_lookP (i := 1) rfl (by kernel_rfl) (by exact NP_then NP_body) (by exact Y_nilCheck rfl) rfl rfl ?_)
  (refine D_lookP (i := 2) rfl (by kernel_rfl) (by exact NP_then NP_body) (by exact Y_fieldAddr0 rfl) rfl rfl ?_)
  (refine D_look (i := 3) rfl (by kernel_rfl) (by exact NP_then NP_body) (by exact Gives.cons (Take.next Take.here) Gives.nil) (by exact Y_load rfl rfl) rfl rfl ?_)
  (refine D_lookP (i := 4) rfl (by kernel_rfl) (by exact NP_then NP_body) (by exact Y_move rfl) rfl rfl ?_)
  (refine D_lookP (i := 5) rfl (by kernel_rfl) (by exact NP_then NP_body) (by exact Y_nilCheck rfl) rfl rfl ?_)
  (refine D_lookP (i := 6) rfl (by kernel_rfl) (by exact NP_then NP_body) (by exact Y_fieldAddr0 rfl) rfl rfl ?_)
  (refine D_look (i := 7) rfl (by kernel_rfl) (by exact NP_then NP_body) (by exact Gives.cons (Take.next Take.here) Gives.nil) (by exact Y_load rfl rfl) rfl rfl ?_)
  (refine D_lookP (i := 8) rfl (by kernel_rfl) (by exact NP_then NP_body) (by exact Y_move rfl) rfl rfl ?_)
  (refine D_lookP (i := 9) rfl (by kernel_rfl) (by exact NP_then NP_body) (by exact Y_nilCheck rfl) rfl rfl ?_)
  (refine D_lookP (i := 10) rfl (by kernel_rfl) (by exact NP_then NP_body) (by exact Y_fieldAddr0 rfl) rfl rfl ?_)
  (refine D_look (i := 11) rfl (by kernel_rfl) (by exact NP_then NP_body) (by exact Gives.cons (Take.next Take.here) Gives.nil) (by exact Y_load rfl rfl) rfl rfl ?_)
  (refine D_lookP (i := 12) rfl (by kernel_rfl) (by exact NP_then NP_body) (by exact Y_makeFunc rfl rfl) rfl rfl ?_)
  refine D_try1 (i := 13) (by kernel_rfl) rfl ?_
  refine J_callr rfl (logscan_Each0 p.2.1 W.d W.at_ W.seq 183 [.pointer (some ⟨c3, 0, none⟩)] W.V W.k (W.fr + 2) (W.many - 2) ha (by omega) (by omega) hV (by omega) hs _) (by exact Gives.cons (Take.next (Take.next (Take.next (Take.next (Take.next Take.here))))) (Gives.last (Take.next (Take.next (Take.next Take.here))))) rfl rfl ?_
  refine D_last (by kernel_rfl) ?_
  refine D_try1 (i := 14) (by kernel_rfl) rfl ?_
  refine J_assign rfl rfl rfl ?_
  refine D_last (by kernel_rfl) ?_
  (first | refine D_end1 (by kernel_rfl) ?_ | refine D_end (by kernel_rfl) ?_)
  refine E_then ?_
  refine R_seq ?_
  refine R_seq ?_
  refine R_region ?_
  refine J_move rfl rfl rfl ?_
  refine J_cmp rfl rfl rfl rfl rfl ?_
  refine J_nil2 ?_
  refine E_then ?_
  refine R_cond_false rfl ?_
  refine R_skip ?_
  refine E_then ?_
  refine R_seq ?_
  refine R_seq ?_
  refine R_region ?_
  refine J_load rfl rfl rfl rfl ?_
  refine J_len_slice rfl rfl rfl ?_
  refine J_move rfl rfl rfl ?_
  refine J_nil3 ?_
  refine E_then ?_
  refine R_block ?_
  refine R_loop (X := Unit) (fun _ => [(29, .int .i64 0), (28, .int .i64 0), (0, .pointer (some ⟨b, 0, none⟩))]) (fun _ => walH b W p :: reg p.1 W.d W.fr 2 :: reg p.2.1 W.d (W.fr + 2) (W.many - 2) :: shd p.2.2 W.K W.Lo :: dvk W.d W.V (W.k + 1) :: F) (fun _ => 0) () (by exact sub_cons rfl (sub_cons rfl (sub_cons rfl sub_nil))) (by exact Gives.cons (Take.next (Take.next (Take.next Take.here))) (Gives.cons (Take.next (Take.next (Take.next Take.here))) (Gives.cons (Take.next Take.here) (Gives.cons (Take.next (Take.next Take.here)) (Gives.cons Take.here (Gives.drop Gives.refl)))))) ?_
  rintro ⟨⟩
  refine R_seq ?_
  refine R_region ?_
  refine J_cmp rfl rfl rfl rfl rfl ?_
  refine J_nil1 ?_
  refine E_then ?_
  refine R_seq ?_
  refine R_cond_false rfl ?_
  refine R_exit ?_
  refine E_then_exit ?_
  refine E_then_exit ?_
  refine E_block_hit ?_
  refine E_then ?_
  refine R_seq ?_
  refine R_region ?_
  refine J_move rfl rfl rfl ?_
  refine J_nilCheck rfl rfl rfl ?_
  refine J_fieldAddr0 rfl rfl rfl ?_
  refine J_load rfl rfl rfl rfl ?_
  refine J_callr rfl (shadow_Keep p.2.2 W.K W.Lo hlo _) (by exact Gives.last (Take.next (Take.next (Take.next Take.here)))) rfl rfl ?_
  refine J_nil3 ?_
  refine E_then ?_
  refine R_seq ?_
  refine R_region ?_
  refine J_assign rfl rfl rfl ?_
  refine J_nil ?_
  refine E_then ?_
  refine R_ret ?_
  apply E_ret Tryz.results111
  · exact Res.tmp rfl (Res.nil)
  · intro w s
    refine ⟨rfl, shut_wal (p := p) ?_⟩
    have s2 : Sat w (walH b W p :: reg p.1 W.d W.fr 2 :: reg p.2.1 W.d (W.fr + 2) (W.many - 2) :: shd p.2.2 (keep W.K W.Lo) [] :: dvk W.d W.V (W.k + 1) :: F) := s.gives (by exact Gives.cons (Take.next Take.here) (Gives.cons (Take.next Take.here) (Gives.last (Take.next Take.here))))
    exact s2
end Go.Proofs.Sol

/- A log over a disk, opened, where it has no record. -/
namespace Go.Proofs.Sol
open Go Go.Proofs
set_option maxRecDepth 100000
set_option maxHeartbeats 4000000
set_option linter.unusedVariables false
set_option linter.unusedSimpArgs false
attribute [local irreducible] R J JW E D Fn Y clf mpI own Sat Exit.then Exit.inBlock bodyPost bodyPostM Code.wpIn wpL
theorem wal_Open1 (c b : Nat) (W : Wl) (ok : WlOk W) (hK : W.K.length < 1000) (hk : W.k < 10000000) (F : List HP) :
    Fn Tryz.prog 112 [.pointer (some ⟨c, 0, none⟩)] (cl c 26 [.pointer (some ⟨b, 0, none⟩)] :: wal b W :: F) (Pst .nilIface (cl c 26 [.pointer (some ⟨b, 0, none⟩)] :: wal b (W.settled (W.gen + 1) (W.seq + W.many) 0) :: F)) := by
  have hg := ok.gen
  have hq := ok.seq
  have hm := ok.many
  refine Fn.open_ (fun w h => open_wal h.swap) ?_
  rintro p
  dsimp only [walL, List.cons_append, List.nil_append]
  refine Fn_enter Tryz.func112 rfl Tryz.ntmps112 rfl ?_
  refine R_seq ?_
  refine R_region ?_
  refine J_assign rfl rfl rfl ?_
  refine J_nil ?_
  refine E_then ?_
  refine R_seq ?_
  refine R_draw ([cl c 26 [.pointer (some ⟨b, 0, none⟩)], walH b W p]) [16, 17] (by kernel_rfl) ?_
  (refine D_look (i := 0) rfl (by kernel_rfl) (by exact NP_then NP_body) (by exact Gives.cons (Take.next (Take.next (Take.next (Take.next (Take.next Take.here))))) (Gives.cons Take.here Gives.nil)) (by exact Y_load rfl rfl) rfl rfl ?_)
  (refine D_look (i := 1) rfl (by kernel_rfl) (by exact NP_then NP_body) (by exact Gives.cons (Take.next (Take.next (Take.next (Take.next (Take.next Take.here))))) (Gives.cons Take.here Gives.nil)) (by exact Y_load rfl rfl) rfl rfl ?_)
  (refine D_lookP (i := 2) rfl (by kernel_rfl) (by exact NP_then NP_body) (by exact Y_nilCheck rfl) rfl rfl ?_)
  (refine D_lookP (i := 3) rfl (by kernel_rfl) (by exact NP_then NP_body) (by exact Y_fieldAddr0 rfl) rfl rfl ?_)
  (refine D_look (i := 4) rfl (by kernel_rfl) (by exact NP_then NP_body) (by exact Gives.cons (Take.next (Take.next (Take.next (Take.next (Take.next Take.here))))) (Gives.cons Take.here Gives.nil)) (by exact Y_load rfl rfl) rfl rfl ?_)
  (refine D_lookP (i := 5) rfl (by kernel_rfl) (by exact NP_then NP_body) (by exact Y_ari64 rfl rfl rfl (by omega)) rfl rfl ?_)
  (refine D_look (i := 6) rfl (by kernel_rfl) (by exact NP_then NP_body) (by exact Gives.cons (Take.next (Take.next (Take.next (Take.next (Take.next Take.here))))) (Gives.cons Take.here Gives.nil)) (by exact Y_load rfl rfl) rfl rfl ?_)
  (refine D_lookP (i := 7) rfl (by kernel_rfl) (by exact NP_then NP_body) (by exact Y_nilCheck rfl) rfl rfl ?_)
  (refine D_lookP (i := 8) rfl (by kernel_rfl) (by exact NP_then NP_body) (by exact Y_fieldAddr0 rfl) rfl rfl ?_)
  (refine D_look (i := 9) rfl (by kernel_rfl) (by exact NP_then NP_body) (by exact Gives.cons (Take.next (Take.next (Take.next (Take.next (Take.next Take.here))))) (Gives.cons Take.here Gives.nil)) (by exact Y_load rfl rfl) rfl rfl ?_)
  (refine D_look (i := 10) rfl (by kernel_rfl) (by exact NP_then NP_body) (by exact Gives.cons (Take.next (Take.next (Take.next (Take.next (Take.next Take.here))))) (Gives.cons Take.here Gives.nil)) (by exact Y_load rfl rfl) rfl rfl ?_)
  (refine D_lookP (i := 11) rfl (by kernel_rfl) (by exact NP_then NP_body) (by exact Y_nilCheck rfl) rfl rfl ?_)
  (refine D_lookP (i := 12) rfl (by kernel_rfl) (by exact NP_then NP_body) (by exact Y_fieldAddr0 rfl) rfl rfl ?_)
  (refine D_look (i := 13) rfl (by kernel_rfl) (by exact NP_then NP_body) (by exact Gives.cons (Take.next (Take.next (Take.next (Take.next (Take.next Take.here))))) (Gives.cons Take.here Gives.nil)) (by exact Y_load rfl rfl) rfl rfl ?_)
  (refine D_lookP (i := 14) rfl (by kernel_rfl) (by exact NP_then NP_body) (by exact Y_ari64 rfl rfl rfl (by omega)) rfl rfl ?_)
  (refine D_lookP (i := 15) rfl (by kernel_rfl) (by exact NP_then NP_body) (by exact Y_build rfl rfl) rfl rfl ?_)
  refine D_try1 (i := 16) (by kernel_rfl) rfl ?_
  refine J.open_ (α := Unit) (M := fun _ => wal b W :: cl c 26 [.pointer (some ⟨b, 0, none⟩)] :: F) (fun w s => ⟨(), shut_wal (p := p) (by exact s.gives (by exact Gives.cons Take.here (Gives.cons Take.here (Gives.cons Take.here (Gives.cons Take.here (Gives.cons Take.here (Gives.last Take.here)))))))⟩) ?_
  rintro ⟨⟩
  refine J_callr rfl (wal_settle b W ok (W.gen + 1) (W.seq + W.many) 0 (by simp [headMay]; omega) (by omega) (by omega) _) (by exact Gives.refl) rfl rfl ?_
  refine D_last (by kernel_rfl) ?_
  refine D_try1 (i := 17) (by kernel_rfl) rfl ?_
  refine J_assign rfl rfl rfl ?_
  refine D_last (by kernel_rfl) ?_
  (first | refine D_end1 (by kernel_rfl) ?_ | refine D_end (by kernel_rfl) ?_)
  refine E_then ?_
  refine R_ret ?_
  apply E_retP Tryz.results112
  · exact Res.tmp rfl (Res.nil)
  · exact Gives.last (Take.next Take.here)
  rfl
/-- A log, opened: it begins anew. -/
def Wl.anew (d : Nat) (fr many : Int) (V : List Bytes) (k : Nat) (h : Int × Int × Int) : Wl := (⟨d, fr, many, h.1, h.2.2, h.2.1, 0, false, false, [], [], V, k + 3⟩ : Wl).settled (h.1 + 1) (h.2.1 + many) 0
theorem wal_Open0 (d : Nat) (V : List Bytes) (k : Nat) (fr many : Int) (h : Int × Int × Int) (hmay : walMay V.length fr many = true) (hV : V.length ≤ 1000) (hk : k < 1000000)
    (hn : newer ((cat V fr 2).take 64) ((cat V fr 2).drop 64) = (h, 0)) (hh : 0 ≤ h.2.2 ∧ h.2.2 < many - 2 ∧ 0 ≤ h.1 ∧ h.1 < 100000000 ∧ 0 ≤ h.2.1 ∧ h.2.1 < 100000000) (hl : (cat V fr 2).length = 128)
    (hs : (recSize (ring V (fr + 2) (many - 2) h.2.2 1) h.2.1).2 ≠ 0) (F : List HP) :
    Fn Tryz.prog 29 [.pointer (some ⟨d, 0, none⟩), .int .i64 fr, .int .i64 many] (dvk d V k :: F) (fun v w => ∃ b, v = .tuple #[.pointer (some ⟨b, 0, none⟩), .int .i64 0] ∧ Sat w (wal b (Wl.anew d fr many V k h) :: F)) := by
  have hw := walMay_spec hmay
  refine Fn_enter Tryz.func29 rfl Tryz.ntmps29 rfl ?_
  refine R_seq ?_
  refine R_region ?_
  refine J_assign rfl rfl rfl ?_
  refine J_assign rfl rfl rfl ?_
  refine J_nil ?_
  refine E_then ?_
  refine R_seq ?_
  refine R_region ?_
  refine J_move rfl rfl rfl ?_
  refine J_move rfl rfl rfl ?_
  refine J_move rfl rfl rfl ?_
  refine J_callm rfl (wal_parted d V k fr many hmay hV F) Gives.refl rfl rfl ?_
  rintro v w ⟨b, rfl, s0⟩
  refine JW.of s0 ?_
  refine J_move rfl rfl rfl ?_
  refine J_extract rfl rfl rfl rfl ?_
  refine J_extract rfl rfl rfl rfl ?_
  refine J_alloc rfl rfl ?_; intro
  refine J_store rfl rfl rfl rfl ?_
  refine J_assign rfl rfl rfl ?_
  refine J_nil3 ?_
  refine E_then ?_
  refine R_seq ?_
  refine R_seq ?_
  refine R_region ?_
  refine J_move rfl rfl rfl ?_
  refine J_cmp rfl rfl rfl rfl rfl ?_
  refine J_nil2 ?_
  refine E_then ?_
  refine R_cond_false rfl ?_
  refine R_skip ?_
  refine E_then ?_
  refine R_seq ?_
  refine R_seq ?_
  refine R_region ?_
  refine J_load rfl rfl rfl rfl ?_
  refine J_makeFunc rfl rfl rfl rfl ?_
  refine J_load rfl rfl rfl rfl ?_
  refine J_makeFunc rfl rfl rfl rfl ?_
  refine J_makeFunc rfl rfl rfl rfl ?_
  refine J_buildSlice rfl rfl rfl rfl rfl rfl ?_; intro
  refine J_len_slice rfl rfl rfl ?_
  refine J_move rfl rfl rfl ?_
  refine J_nil3 ?_
  refine E_then ?_
  refine R_block ?_
  rename_i c8 b28
  refine R_loop (X := {x : Nat × Wl // x.1 ≤ 3 ∧ (x.1 = 0 → x.2 = Wl.none_ d fr many V k) ∧ (x.1 = 1 → x.2 = ⟨d, fr, many, h.1, h.2.2, h.2.1, 0, false, false, [], [], V, k + 2⟩) ∧ (x.1 = 2 → x.2 = ⟨d, fr, many, h.1, h.2.2, h.2.1, 0, false, false, [], [], V, k + 3⟩) ∧ (x.1 = 3 → x.2 = Wl.anew d fr many V k h)})
    (fun x => [(30, .int .i64 (x.1.1 : Int)), (29, .int .i64 3), (28, .slice (some ⟨b28, 0, none⟩) 3 3), (8, .pointer (some ⟨c8, 0, none⟩))])
    (fun x => cl b28 172 [.func (.func 110) #[.pointer (some ⟨b, 0, none⟩)] #[], .func (.func 111) #[.pointer (some ⟨b, 0, none⟩)] #[], .func (.func 112) #[] #[.pointer (some ⟨c8, 0, none⟩)]] :: cl c8 26 [.pointer (some ⟨b, 0, none⟩)] :: wal b x.1.2 :: F) (fun x => 3 - x.1.1)
    ⟨(0, Wl.none_ d fr many V k), by omega, fun _ => rfl, fun h => (by cases h), fun h => (by cases h), fun h => (by cases h)⟩ (by exact sub_cons rfl (sub_cons rfl (sub_cons rfl (sub_cons rfl sub_nil)))) ⟨fun _ s => s⟩ ?_
  rintro ⟨⟨j, W⟩, hj, h0, h1, h2, h3⟩
  dsimp only at hj h0 h1 h2 h3 ⊢
  have hj4 : j = 0 ∨ j = 1 ∨ j = 2 ∨ j = 3 := by omega
  rcases hj4 with rfl | rfl | rfl | rfl
  · obtain rfl := h0 rfl
    refine R_seq ?_
    refine R_region ?_
    refine J_cmp rfl rfl rfl rfl rfl ?_
    refine J_nil1 ?_
    refine E_then ?_
    refine R_seq ?_
    refine R_cond_true rfl ?_
    refine R_skip ?_
    refine E_then ?_
    refine R_seq ?_
    refine R_block ?_
    refine R_seq ?_
    refine R_region ?_
    refine J_indexAddr rfl rfl (by omega) (by omega) rfl rfl ?_
    refine J_load rfl rfl rfl rfl ?_
    refine J_assign rfl rfl rfl ?_
    refine J_nil2 ?_
    refine E_then ?_
    refine R_seq ?_
    refine R_region ?_
    refine J_move rfl rfl rfl ?_
    have hb := wal_begun b (Wl.none_ d fr many V k) h hV (by dsimp only [Wl.none_]; omega) (by dsimp only [Wl.none_]; omega) (by dsimp only [Wl.none_]; omega) hn (by dsimp only [Wl.none_]; omega) hl
    refine J_callvr (us := [.pointer (some ⟨b, 0, none⟩)]) (cs := []) rfl rfl rfl (hb _) (by exact Gives.last (Take.next (Take.next Take.here))) rfl rfl ?_
    refine J_assign rfl rfl rfl ?_
    refine J_nil2 ?_
    refine E_then ?_
    refine R_seq ?_
    refine R_region ?_
    refine J_move rfl rfl rfl ?_
    refine J_ifc_nil rfl rfl rfl rfl ?_
    refine J_nil2 ?_
    refine E_then ?_
    refine R_cond_false rfl ?_
    refine R_skip ?_
    refine E_block_normal ?_
    refine E_then ?_
    refine R_region ?_
    refine J_ari64 rfl rfl rfl (by omega) rfl rfl ?_
    refine J_moveg rfl rfl rfl ?_
    refine J_nil1 ?_
    exact E_thenI fun a w he hs => ⟨⟨(1, ⟨d, fr, many, h.1, h.2.2, h.2.1, 0, false, false, [], [], V, k + 2⟩), by omega, fun h => (by cases h), fun _ => rfl, fun h => (by cases h), fun h => (by cases h)⟩, by simp, he.sub (by exact sub_cons rfl (sub_cons rfl (sub_cons rfl (sub_cons rfl sub_nil)))), by
      have hs2 := hs.gives (M := cl b28 172 _ :: cl c8 26 _ :: _) (by exact Gives.cons (Take.next Take.here) (Gives.last (Take.next Take.here)))
      exact hs2⟩
  · obtain rfl := h1 rfl
    refine R_seq ?_
    refine R_region ?_
    refine J_cmp rfl rfl rfl rfl rfl ?_
    refine J_nil1 ?_
    refine E_then ?_
    refine R_seq ?_
    refine R_cond_true rfl ?_
    refine R_skip ?_
    refine E_then ?_
    refine R_seq ?_
    refine R_block ?_
    refine R_seq ?_
    refine R_region ?_
    refine J_indexAddr rfl rfl (by omega) (by omega) rfl rfl ?_
    refine J_load rfl rfl rfl rfl ?_
    refine J_assign rfl rfl rfl ?_
    refine J_nil2 ?_
    refine E_then ?_
    refine R_seq ?_
    refine R_region ?_
    refine J_move rfl rfl rfl ?_
    have hb := wal_replay0 b ⟨d, fr, many, h.1, h.2.2, h.2.1, 0, false, false, [], [], V, k + 2⟩ hV (by dsimp only; omega) (by dsimp only; omega) (by dsimp only; omega) (by dsimp only; omega) hs (by simp)
    simp only [keep_nil] at hb
    refine J_callvr (us := [.pointer (some ⟨b, 0, none⟩)]) (cs := []) rfl rfl rfl (hb _) (by exact Gives.last (Take.next (Take.next Take.here))) rfl rfl ?_
    refine J_assign rfl rfl rfl ?_
    refine J_nil2 ?_
    refine E_then ?_
    refine R_seq ?_
    refine R_region ?_
    refine J_move rfl rfl rfl ?_
    refine J_ifc_nil rfl rfl rfl rfl ?_
    refine J_nil2 ?_
    refine E_then ?_
    refine R_cond_false rfl ?_
    refine R_skip ?_
    refine E_block_normal ?_
    refine E_then ?_
    refine R_region ?_
    refine J_ari64 rfl rfl rfl (by omega) rfl rfl ?_
    refine J_moveg rfl rfl rfl ?_
    refine J_nil1 ?_
    exact E_thenI fun a w he hs => ⟨⟨(2, ⟨d, fr, many, h.1, h.2.2, h.2.1, 0, false, false, [], [], V, k + 3⟩), by omega, fun h => (by cases h), fun h => (by cases h), fun _ => rfl, fun h => (by cases h)⟩, by simp, he.sub (by exact sub_cons rfl (sub_cons rfl (sub_cons rfl (sub_cons rfl sub_nil)))), by
      have hs2 := hs.gives (M := cl b28 172 _ :: cl c8 26 _ :: _) (by exact Gives.cons (Take.next Take.here) (Gives.last (Take.next Take.here)))
      exact hs2⟩
  · obtain rfl := h2 rfl
    refine R_seq ?_
    refine R_region ?_
    refine J_cmp rfl rfl rfl rfl rfl ?_
    refine J_nil1 ?_
    refine E_then ?_
    refine R_seq ?_
    refine R_cond_true rfl ?_
    refine R_skip ?_
    refine E_then ?_
    refine R_seq ?_
    refine R_block ?_
    refine R_seq ?_
    refine R_region ?_
    refine J_indexAddr rfl rfl (by omega) (by omega) rfl rfl ?_
    refine J_load rfl rfl rfl rfl ?_
    refine J_assign rfl rfl rfl ?_
    refine J_nil2 ?_
    refine E_then ?_
    refine R_seq ?_
    refine R_region ?_
    refine J_move rfl rfl rfl ?_
    have hb := wal_Open1 c8 b ⟨d, fr, many, h.1, h.2.2, h.2.1, 0, false, false, [], [], V, k + 3⟩ (by
      refine ⟨?_, ?_, ?_, ?_, ?_, ?_, ?_, ?_, ?_, ?_, ?_, ?_⟩ <;> dsimp only <;> first | omega | simp) (by simp) (by dsimp only; omega)
    refine J_callvr (us := []) (cs := [.pointer (some ⟨c8, 0, none⟩)]) rfl rfl rfl (hb _) (by exact Gives.cons (Take.next Take.here) (Gives.last (Take.next Take.here))) rfl rfl ?_
    refine J_assign rfl rfl rfl ?_
    refine J_nil2 ?_
    refine E_then ?_
    refine R_seq ?_
    refine R_region ?_
    refine J_move rfl rfl rfl ?_
    refine J_ifc_nil rfl rfl rfl rfl ?_
    refine J_nil2 ?_
    refine E_then ?_
    refine R_cond_false rfl ?_
    refine R_skip ?_
    refine E_block_normal ?_
    refine E_then ?_
    refine R_region ?_
    refine J_ari64 rfl rfl rfl (by omega) rfl rfl ?_
    refine J_moveg rfl rfl rfl ?_
    refine J_nil1 ?_
    exact E_thenI fun a w he hs => ⟨⟨(3, Wl.anew d fr many V k h), by omega, fun h => (by cases h), fun h => (by cases h), fun h => (by cases h), fun _ => rfl⟩, by simp, he.sub (by exact sub_cons rfl (sub_cons rfl (sub_cons rfl (sub_cons rfl sub_nil)))), by
      have hs2 := hs.gives (M := cl b28 172 _ :: cl c8 26 _ :: _) (by exact Gives.last (Take.next (Take.next Take.here)))
      exact hs2⟩
  · obtain rfl := h3 rfl
    refine R_seq ?_
    refine R_region ?_
    refine J_cmp rfl rfl rfl rfl rfl ?_
    refine J_nil1 ?_
    refine E_then ?_
    refine R_seq ?_
    refine R_cond_false rfl ?_
    refine R_exit ?_
    refine E_then_exit ?_
    refine E_then_exit ?_
    refine E_block_hit ?_
    refine E_then ?_
    refine R_seq ?_
    refine R_region ?_
    refine J_load rfl rfl rfl rfl ?_
    refine J_assign rfl rfl rfl ?_
    refine J_assign rfl rfl rfl ?_
    refine J_nil1 ?_
    refine E_then ?_
    refine R_ret ?_
    apply E_ret Tryz.results29
    · exact Res.tmp rfl (Res.tmp rfl (Res.nil))
    · intro w s
      exact ⟨b, rfl, s.gives (by exact Gives.cons (Take.next (Take.next Take.here)) (Gives.drop (Gives.drop Gives.refl)))⟩
end Go.Proofs.Sol

/- strings.Builder: its text, taken again and again. -/
namespace Go.Proofs.Sol
open Go Go.Proofs
set_option maxRecDepth 100000
set_option maxHeartbeats 4000000
set_option linter.unusedVariables false
set_option linter.unusedSimpArgs false
attribute [local irreducible] R J JW E D Fn Y clf mpI own Sat Exit.then Exit.inBlock bodyPost bodyPostM Code.wpIn wpL
/-- What a builder's slice holds; the bytes may be held fast. -/
def rowz (v : Value) (s : List UInt8) : HP := fun h => (capOk v = true ∧ v = .slice none 0 0 ∧ s = []) ∨ ∃ b len cap sp m, v = .slice (some ⟨b, 0, none⟩) len cap ∧ cap ≠ 0 ∧ s.length = len ∧ m ≤ len ∧ clf b 5 (s.map byv ++ sp) 0 m h
abbrev bldz (b : Nat) (s : List UInt8) : HP := exi fun p : Bool × Value => stp [bldH b p.1 p.2, rowz p.2 s]
theorem open_bldz {w : World} {b : Nat} {s : List UInt8} {L : List HP} (h : Sat w (bldz b s :: L)) : ∃ p : Bool × Value, Sat w (bldH b p.1 p.2 :: rowz p.2 s :: L) := by
  obtain ⟨p, h⟩ := h.exi
  exact ⟨p, h.open_⟩
theorem shut_bldz {w : World} {b : Nat} {q : Bool} {v : Value} {s : List UInt8} {L : List HP} (h : Sat w (bldH b q v :: rowz v s :: L)) : Sat w (bldz b s :: L) :=
  (Sat.shut (M := [bldH b q v, rowz v s]) h).conv fun _ e => ⟨(q, v), e⟩
theorem bldz_of {w : World} {b : Nat} {s : List UInt8} {L : List HP} (h : Sat w (bldr b s :: L)) : Sat w (bldz b s :: L) := by
  obtain ⟨⟨⟨q, v⟩, hc⟩, h⟩ := open_bldr h
  dsimp only at hc h
  refine shut_bldz (q := q) (v := v) (h.swap.conv ?_).swap
  intro h e
  unfold own at e
  rcases e with ⟨rfl, h0⟩ | ⟨b2, len, cap, sp, rfl, h2, h3, h4⟩
  · exact .inl ⟨hc, rfl, by simpa using h0⟩
  · exact .inr ⟨b2, len, cap, sp, 0, rfl, by simpa [capOk] using hc, by simpa using h2, by omega, h4⟩
theorem Builder_StringZ (b : Nat) (s : List UInt8) (hl : s.length ≤ 100000000000000) (F : List HP) : Fn Tryz.prog 119 [.pointer (some ⟨b, 0, none⟩)] (bldz b s :: F) (Pst (.string (S s)) (bldz b s :: F)) := by
  refine Fn_at fun w h => ?_
  obtain ⟨⟨q, v⟩, h⟩ := open_bldz h
  dsimp only at h
  have hw := h.swap
  have hw2 : Sat w (exi (fun x : (PLift (v = .slice none 0 0 ∧ s = [] ∧ capOk v = true)) ⊕ (Nat × Nat × Nat × List Value × Nat) => match x with
      | .inl _ => stp []
      | .inr (b2, len, cap, sp, m) => fun h => v = .slice (some ⟨b2, 0, none⟩) len cap ∧ cap ≠ 0 ∧ s.length = len ∧ m ≤ len ∧ clf b2 5 (s.map byv ++ sp) 0 m h) :: bldH b q v :: F) := hw.conv fun h e => by
    rcases e with ⟨h1, h2, h3⟩ | ⟨b2, len, cap, sp, m, h1, h2, h3, h4, h5⟩
    · exact ⟨.inl ⟨h2, h3, h1⟩, trivial⟩
    · exact ⟨.inr (b2, len, cap, sp, m), h1, h2, h3, h4, h5⟩
  obtain ⟨x, hx⟩ := hw2.exi
  cases x with
  | inl y =>
    obtain ⟨rfl, rfl, hc⟩ := y.down
    refine ⟨_, hx.drop, ?_⟩
    refine Fn_enter Tryz.func119 rfl Tryz.ntmps119 rfl ?_
    refine R_seq ?_
    refine R_region ?_
    refine J_assign rfl rfl rfl ?_
    refine J_nil ?_
    refine E_then ?_
    refine R_seq ?_
    refine R_draw0 [10, 11] (by kernel_rfl) ?_
    (refine D_lookP (i := 0) rfl (by kernel_rfl) (by exact NP_then NP_body) (by exact Y_move rfl) rfl rfl ?_)
    (refine D_lookP (i := 1) rfl (by kernel_rfl) (by exact NP_then NP_body) (by exact Y_nilCheck rfl) rfl rfl ?_)
    (refine D_lookP (i := 2) rfl (by kernel_rfl) (by exact NP_then NP_body) (by exact Y_fieldAddr0 rfl) rfl rfl ?_)
    (refine D_look (i := 3) rfl (by kernel_rfl) (by exact NP_then NP_body) (by exact Gives.refl) (by exact Y_load rfl rfl) rfl rfl ?_)
    (refine D_look (i := 4) rfl (by kernel_rfl) (by exact NP_then NP_body) (by exact Gives.refl) (by exact Y_sliceData0 rfl) rfl rfl ?_)
    (refine D_lookP (i := 5) rfl (by kernel_rfl) (by exact NP_then NP_body) (by exact Y_move rfl) rfl rfl ?_)
    (refine D_lookP (i := 6) rfl (by kernel_rfl) (by exact NP_then NP_body) (by exact Y_nilCheck rfl) rfl rfl ?_)
    (refine D_lookP (i := 7) rfl (by kernel_rfl) (by exact NP_then NP_body) (by exact Y_fieldAddr0 rfl) rfl rfl ?_)
    (refine D_look (i := 8) rfl (by kernel_rfl) (by exact NP_then NP_body) (by exact Gives.refl) (by exact Y_load rfl rfl) rfl rfl ?_)
    (refine D_look (i := 9) rfl (by kernel_rfl) (by exact NP_then NP_body) (by exact Gives.refl) (by exact Y_len_slice rfl) rfl rfl ?_)
    refine D_try1 (i := 10) (by kernel_rfl) rfl ?_
    refine J_pure (Y_string0 rfl rfl) rfl rfl ?_
    refine D_last (by kernel_rfl) ?_
    refine D_try1 (i := 11) (by kernel_rfl) rfl ?_
    refine J_assign rfl rfl rfl ?_
    refine D_last (by kernel_rfl) ?_
    (first | refine D_end1 (by kernel_rfl) ?_ | refine D_end (by kernel_rfl) ?_)
    refine E_then ?_
    refine R_ret ?_
    apply E_ret Tryz.results119
    · exact Res.tmp rfl (Res.nil)
    · intro w s
      refine ⟨rfl, shut_bldz (q := q) (v := .slice none 0 0) (Sat.swap ?_)⟩
      unfold Sat at s ⊢
      exact ⟨fun _ => none, hp w, Split.empty _, .inl ⟨hc, rfl, rfl⟩, s⟩
  | inr y =>
    obtain ⟨b2, len, cap, sp, m⟩ := y
    unfold Sat at hx
    obtain ⟨h1, h2, hs, h3, h4⟩ := hx
    obtain ⟨rfl, hcap, hlen, hm, h5⟩ := h3
    subst hlen
    refine ⟨clf b2 5 (s.map byv ++ sp) 0 m :: bldH b q (.slice (some ⟨b2, 0, none⟩) s.length cap) :: F, by unfold Sat; exact ⟨h1, h2, hs, h5, h4⟩, ?_⟩
    refine Fn_enter Tryz.func119 rfl Tryz.ntmps119 rfl ?_
    refine R_seq ?_
    refine R_region ?_
    refine J_assign rfl rfl rfl ?_
    refine J_nil ?_
    refine E_then ?_
    refine R_seq ?_
    refine R_draw (bldH b q (.slice (some ⟨b2, 0, none⟩) s.length cap) :: F) [10, 11] (by kernel_rfl) ?_
    (refine D_lookP (i := 0) rfl (by kernel_rfl) (by exact NP_then NP_body) (by exact Y_move rfl) rfl rfl ?_)
    (refine D_lookP (i := 1) rfl (by kernel_rfl) (by exact NP_then NP_body) (by exact Y_nilCheck rfl) rfl rfl ?_)
    (refine D_lookP (i := 2) rfl (by kernel_rfl) (by exact NP_then NP_body) (by exact Y_fieldAddr0 rfl) rfl rfl ?_)
    (refine D_look (i := 3) rfl (by kernel_rfl) (by exact NP_then NP_body) (by exact Gives.cons (Take.next Take.here) (Gives.drop Gives.refl)) (by exact Y_load rfl rfl) rfl rfl ?_)
    (refine D_look (i := 4) rfl (by kernel_rfl) (by exact NP_then NP_body) (by exact Gives.cons (Take.next Take.here) (Gives.drop Gives.refl)) (by exact Y_sliceData rfl (by omega)) rfl rfl ?_)
    (refine D_lookP (i := 5) rfl (by kernel_rfl) (by exact NP_then NP_body) (by exact Y_move rfl) rfl rfl ?_)
    (refine D_lookP (i := 6) rfl (by kernel_rfl) (by exact NP_then NP_body) (by exact Y_nilCheck rfl) rfl rfl ?_)
    (refine D_lookP (i := 7) rfl (by kernel_rfl) (by exact NP_then NP_body) (by exact Y_fieldAddr0 rfl) rfl rfl ?_)
    (refine D_look (i := 8) rfl (by kernel_rfl) (by exact NP_then NP_body) (by exact Gives.cons (Take.next Take.here) (Gives.drop Gives.refl)) (by exact Y_load rfl rfl) rfl rfl ?_)
    (refine D_look (i := 9) rfl (by kernel_rfl) (by exact NP_then NP_body) (by exact Gives.cons (Take.next Take.here) (Gives.drop Gives.refl)) (by exact Y_len_slice rfl) rfl rfl ?_)
    refine D_try1 (i := 10) (by kernel_rfl) rfl ?_
    by_cases h0 : s = []
    · subst h0
      refine J_pure (Y_string0 rfl rfl) rfl rfl ?_
      refine D_last (by kernel_rfl) ?_
      refine D_try1 (i := 11) (by kernel_rfl) rfl ?_
      refine J_assign rfl rfl rfl ?_
      refine D_last (by kernel_rfl) ?_
      (first | refine D_end1 (by kernel_rfl) ?_ | refine D_end (by kernel_rfl) ?_)
      refine E_then ?_
      refine R_ret ?_
      apply E_ret Tryz.results119
      · exact Res.tmp rfl (Res.nil)
      · intro w s
        refine ⟨rfl, shut_bldz (q := q) (v := .slice (some ⟨b2, 0, none⟩) 0 cap) ?_⟩
        exact (s.conv fun h e => .inr ⟨b2, 0, cap, sp, m, rfl, hcap, rfl, hm, e⟩).swap
    · refine J_stringK (cs := s) (sp := sp) (m := m) rfl rfl h0 (by omega) (by with_reducible exact Take.here) hm rfl rfl ?_
      refine D_last (by kernel_rfl) ?_
      refine D_try1 (i := 11) (by kernel_rfl) rfl ?_
      refine J_assign rfl rfl rfl ?_
      refine D_last (by kernel_rfl) ?_
      (first | refine D_end1 (by kernel_rfl) ?_ | refine D_end (by kernel_rfl) ?_)
      refine E_then ?_
      refine R_ret ?_
      apply E_ret Tryz.results119
      · exact Res.tmp rfl (Res.nil)
      · intro w s'
        refine ⟨rfl, shut_bldz (q := q) (v := .slice (some ⟨b2, 0, none⟩) s.length cap) ?_⟩
        exact (s'.conv fun h e => .inr ⟨b2, s.length, cap, sp, s.length, rfl, hcap, rfl, Nat.le_refl _, e⟩).swap
end Go.Proofs.Sol
