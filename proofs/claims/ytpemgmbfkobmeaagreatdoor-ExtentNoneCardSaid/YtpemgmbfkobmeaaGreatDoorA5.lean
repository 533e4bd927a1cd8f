/- A log without a record at a place. -/
import Derived.Test.YtpemgmbfkobmeaaGreatDoorA4
import Derived.Test.YtpemgmbfkobmeaaGreatDoorA3
import Derived.Test.YtpemgmbfkobmeaaGreatDoorA2
namespace Go.Proofs.Sol
open Go Go.Proofs
set_option maxRecDepth 100000
set_option maxHeartbeats 4000000
set_option linter.unusedVariables false
set_option linter.unusedSimpArgs false
attribute [local irreducible] R J JW E D Fn Y clf mpI own Sat Exit.then Exit.inBlock bodyPost bodyPostM Code.wpIn wpL
abbrev scn (c r : Nat) (a q u : Int) (fn : Value) (fin : Bool) : HP := cl c 290 [.pointer (some ⟨r, 0, none⟩), .int .i64 a, .int .i64 q, .int .i64 u, fn, .bool fin]
/-- Sectors of a log, round. -/
def ring (V : List Bytes) (f m a : Int) : Nat → Bytes
  | 0 => []
  | j + 1 => ring V f m a j ++ V.getD (f + (a + j) % m).toNat []
theorem ring_length {V : List Bytes} (hV : ∀ s ∈ V, s.length = 64) (f m a : Int) (hm : 0 < m) (hf : 0 ≤ f ∧ f + m ≤ V.length) (n : Nat) : (ring V f m a n).length = 64 * n := by
  induction n with
  | zero => rfl
  | succ n ih =>
    have h1 : 0 ≤ (a + n) % m := Int.emod_nonneg _ (by omega)
    have h2 : (a + n) % m < m := Int.emod_lt_of_pos _ hm
    have h3 : (f + (a + (n : Int)) % m).toNat < V.length := by omega
    simp only [ring, List.length_append, ih]
    rw [List.getD_eq_getElem?_getD, List.getElem?_eq_getElem h3]
    have := hV _ (List.getElem_mem h3)
    simp only [Option.getD_some]
    omega
theorem cat_one {V : List Bytes} {a : Int} (h : 0 ≤ a ∧ a < V.length) : cat V a 1 = V.getD a.toNat [] := by
  have := cat_succ (V := V) (a := a) (n := 0) h.1 (by omega)
  rw [this]
  simp [cat]
theorem scan_read (c r d : Nat) (a q u : Int) (fn : Value) (fin : Bool) (V : List Bytes) (k : Nat) (f m i : Int) (n : Nat) (hi : 0 ≤ i ∧ i ≤ 10000) (hn : n ≤ 1000) (hm : 0 < m) (hf : 0 ≤ f ∧ f + m ≤ V.length) (hk : k + n < 1000000000) (F : List HP) :
    Fn Tryz.prog 263 [.pointer (some ⟨c, 0, none⟩), .int .i64 i, .int .i64 (n : Int)] (scn c r a q u fn fin :: dvk d V k :: reg r d f m :: F)
      (Pst (.tuple #[.string (S (ring V f m i n)), .int .i64 0]) (scn c r a q u fn fin :: dvk d V (k + n) :: reg r d f m :: F)) := by
  refine Fn.know (fun w h => dvk_know h.drop) ?_
  rintro ⟨hV, hV6⟩
  refine Fn_enter Tryz.func263 rfl Tryz.ntmps263 rfl ?_
  refine R_seq ?_
  refine R_region ?_
  refine J_assign rfl rfl rfl ?_
  refine J_assign rfl rfl rfl ?_
  refine J_nil ?_
  refine E_then ?_
  refine R_seq ?_
  refine R_region ?_
  refine J_assign rfl rfl rfl ?_
  refine J_nil ?_
  refine E_then ?_
  refine R_seq ?_
  refine R_seq ?_
  refine R_region ?_
  refine J_move rfl rfl rfl ?_
  refine J_move rfl rfl rfl ?_
  refine J_nil2 ?_
  refine E_then ?_
  refine R_block ?_
  refine R_loop (X := {j : Nat // j ≤ n}) (fun j => [(13, .int .i64 (j.1 : Int)), (12, .int .i64 (n : Int)), (0, .pointer (some ⟨c, 0, none⟩)), (1, .int .i64 i), (8, .string (S (ring V f m i j.1)))])
    (fun j => scn c r a q u fn fin :: dvk d V (k + j.1) :: reg r d f m :: F) (fun j => n - j.1) ⟨0, by omega⟩ (by exact sub_cons rfl (sub_cons rfl (sub_cons rfl (sub_cons rfl (sub_cons rfl sub_nil))))) Gives.refl ?_
  rintro ⟨j, hj⟩
  dsimp only
  have lr := ring_length hV6 f m i hm hf j
  refine R_seq ?_
  refine R_region ?_
  refine J_cmp rfl rfl rfl rfl rfl ?_
  refine J_nil1 ?_
  refine E_then ?_
  refine R_seq ?_
  refine R_cond rfl (fun hh => ?_) (fun hh => ?_)
  simp only [decide_eq_true_eq, decide_eq_false_iff_not, Bool.and_eq_true, Bool.or_eq_true, Bool.not_eq_true', Bool.not_eq_false', beq_iff_eq, bne_iff_ne, beq_eq_false_iff_ne, bne_eq_false_iff_eq, ne_eq, ge_iff_le, gt_iff_lt, Int.not_le, Int.not_lt, Bool.and_eq_false_iff, Bool.or_eq_false_iff, Decidable.not_not] at hh
  refine R_skip ?_
  refine E_then ?_
  refine R_seq ?_
  refine R_block ?_
  refine R_seq ?_
  refine R_region ?_
  refine J_move rfl rfl rfl ?_
  refine J_assign rfl rfl rfl ?_
  refine J_nil1 ?_
  refine E_then ?_
  refine R_seq ?_
  rotate_left
  simp only [decide_eq_true_eq, decide_eq_false_iff_not, Bool.and_eq_true, Bool.or_eq_true, Bool.not_eq_true', Bool.not_eq_false', beq_iff_eq, bne_iff_ne, beq_eq_false_iff_ne, bne_eq_false_iff_eq, ne_eq, ge_iff_le, gt_iff_lt, Int.not_le, Int.not_lt, Bool.and_eq_false_iff, Bool.or_eq_false_iff, Decidable.not_not] at hh
  refine R_exit ?_
  refine E_then_exit ?_
  refine E_then_exit ?_
  refine E_block_hit ?_
  refine E_then ?_
  refine R_seq ?_
  refine R_region ?_
  refine J_move rfl rfl rfl ?_
  refine J_assign rfl rfl rfl ?_
  refine J_assign rfl rfl rfl ?_
  refine J_nil1 ?_
  refine E_then ?_
  refine R_ret ?_
  rotate_left
  · have hlt : j < n := by omega
    have h1 : 0 ≤ (i + j) % m := Int.emod_nonneg _ (by omega)
    have h2 : (i + j) % m < m := Int.emod_lt_of_pos _ hm
    have hc := cat_one (V := V) (a := f + (i + j) % m) (by omega)
    have lg : (V.getD (f + (i + (j : Int)) % m).toNat []).length = 64 := by
      have h3 : (f + (i + (j : Int)) % m).toNat < V.length := by omega
      rw [List.getD_eq_getElem?_getD, List.getElem?_eq_getElem h3]
      exact hV6 _ (List.getElem_mem h3)
    refine R_draw ([scn c r a q u fn fin, reg r d f m]) [12, 16, 17] (by kernel_rfl) ?_
    (refine D_lookP (i := 0) rfl (by kernel_rfl) (by exact NP_then (NP_block (NP_then (NP_then (NP_block (NP_then NP_body)))))) (by exact Y_move rfl) rfl rfl ?_)
    (refine D_lookP (i := 1) rfl (by kernel_rfl) (by exact NP_then (NP_block (NP_then (NP_then (NP_block (NP_then NP_body)))))) (by exact Y_nilCheck rfl) rfl rfl ?_)
    (refine D_lookP (i := 2) rfl (by kernel_rfl) (by exact NP_then (NP_block (NP_then (NP_then (NP_block (NP_then NP_body)))))) (by exact Y_fieldAddr0 rfl) rfl rfl ?_)
    (refine D_look (i := 3) rfl (by kernel_rfl) (by exact NP_then (NP_block (NP_then (NP_then (NP_block (NP_then NP_body)))))) (by exact Gives.cons Take.here (Gives.cons (Take.next Take.here) Gives.nil)) (by exact Y_load rfl rfl) rfl rfl ?_)
    (refine D_lookP (i := 4) rfl (by kernel_rfl) (by exact NP_then (NP_block (NP_then (NP_then (NP_block (NP_then NP_body)))))) (by exact Y_move rfl) rfl rfl ?_)
    (refine D_lookP (i := 5) rfl (by kernel_rfl) (by exact NP_then (NP_block (NP_then (NP_then (NP_block (NP_then NP_body)))))) (by exact Y_nilCheck rfl) rfl rfl ?_)
    (refine D_lookP (i := 6) rfl (by kernel_rfl) (by exact NP_then (NP_block (NP_then (NP_then (NP_block (NP_then NP_body)))))) (by exact Y_fieldAddr0 rfl) rfl rfl ?_)
    (refine D_look (i := 7) rfl (by kernel_rfl) (by exact NP_then (NP_block (NP_then (NP_then (NP_block (NP_then NP_body)))))) (by exact Gives.cons Take.here (Gives.cons (Take.next Take.here) Gives.nil)) (by exact Y_load rfl rfl) rfl rfl ?_)
    (refine D_lookP (i := 8) rfl (by kernel_rfl) (by exact NP_then (NP_block (NP_then (NP_then (NP_block (NP_then NP_body)))))) (by exact Y_move rfl) rfl rfl ?_)
    (refine D_lookP (i := 9) rfl (by kernel_rfl) (by exact NP_then (NP_block (NP_then (NP_then (NP_block (NP_then NP_body)))))) (by exact Y_move rfl) rfl rfl ?_)
    (refine D_lookP (i := 10) rfl (by kernel_rfl) (by exact NP_then (NP_block (NP_then (NP_then (NP_block (NP_then NP_body)))))) (by exact Y_ari64 rfl rfl rfl (by omega)) rfl rfl ?_)
    refine D_try1 (i := 11) (by kernel_rfl) rfl ?_
    refine J_callr rfl (logscan_wrap r d f m (i + j) hm (by omega) _) (by exact Gives.last (Take.next (Take.next Take.here))) rfl rfl ?_
    refine D_next (by exact Gives.cons (Take.next Take.here) (Gives.cons Take.here Gives.nil)) ?_
    refine D_try1 (i := 12) (by kernel_rfl) rfl ?_
    refine J_callr rfl (region_Read r d V (k + j) f m ((i + j) % m) 1 (by omega) hf (by omega) _) (by exact Gives.last (Take.next (Take.next Take.here))) rfl rfl ?_
    rw [hc]
    refine D_last (by kernel_rfl) ?_
    (refine D_lookP (i := 13) rfl (by kernel_rfl) (by exact NP_then (NP_block (NP_then (NP_then (NP_block (NP_then NP_body)))))) (by exact Y_move rfl) rfl rfl ?_)
    (refine D_lookP (i := 14) rfl (by kernel_rfl) (by exact NP_then (NP_block (NP_then (NP_then (NP_block (NP_then NP_body)))))) (by exact Y_extract rfl rfl) rfl rfl ?_)
    (refine D_lookP (i := 15) rfl (by kernel_rfl) (by exact NP_then (NP_block (NP_then (NP_then (NP_block (NP_then NP_body)))))) (by exact Y_extract rfl rfl) rfl rfl ?_)
    refine D_try1 (i := 16) (by kernel_rfl) rfl ?_
    refine J_assign rfl rfl rfl ?_
    refine D_last (by kernel_rfl) ?_
    refine D_try1 (i := 17) (by kernel_rfl) rfl ?_
    refine J_assign rfl rfl rfl ?_
    refine D_last (by kernel_rfl) ?_
    (first | refine D_end1 (by kernel_rfl) ?_ | refine D_end (by kernel_rfl) ?_)
    refine E_then ?_
    refine R_seq ?_
    refine R_seq ?_
    refine R_region ?_
    refine J_move rfl rfl rfl ?_
    refine J_cmp rfl rfl rfl rfl rfl ?_
    refine J_nil2 ?_
    refine E_then ?_
    refine R_cond_false rfl ?_
    refine R_skip ?_
    refine E_then ?_
    refine R_region ?_
    refine J_move rfl rfl rfl ?_
    refine J_move rfl rfl rfl ?_
    refine J_str_add rfl rfl (by omega) rfl rfl ?_
    refine J_assign rfl rfl rfl ?_
    refine J_nil3 ?_
    refine E_block_normal ?_
    refine E_then ?_
    refine R_region ?_
    refine J_ari64 rfl rfl rfl (by omega) rfl rfl ?_
    refine J_moveg rfl rfl rfl ?_
    refine J_nil1 ?_
    exact E_thenI fun a' w he hs => ⟨⟨j + 1, by omega⟩, by simp; omega, he.sub (by exact sub_cons rfl (sub_cons rfl (sub_cons rfl (sub_cons rfl (sub_cons rfl sub_nil))))), by
      have hs2 : Sat w (scn c r a q u fn fin :: dvk d V (k + j + 1) :: reg r d f m :: F) := hs.gives (by exact Gives.last (Take.next (Take.next Take.here)))
      exact hs2⟩
  · have e : j = n := by omega
    subst e
    apply E_retP Tryz.results263
    · exact Res.tmp rfl (Res.tmp rfl (Res.nil))
    · exact Gives.refl
    rfl
/-- No record stands there: the scan ends. -/
theorem scan_next0 (c r d : Nat) (a q u : Int) (fn : Value) (V : List Bytes) (k : Nat) (f m : Int) (ha : 0 ≤ a ∧ a ≤ 10000) (hm : 0 < m) (hf : 0 ≤ f ∧ f + m ≤ V.length) (hk : k < 100000000) (hs : (recSize (ring V f m a 1) q).2 ≠ 0) (F : List HP) :
    Fn Tryz.prog 244 [.pointer (some ⟨c, 0, none⟩)] (scn c r a q u fn false :: dvk d V k :: reg r d f m :: F)
      (Pst (.int .i64 0) (scn c r a q u fn true :: dvk d V (k + 1) :: reg r d f m :: F)) := by
  refine Fn_enter Tryz.func244 rfl Tryz.ntmps244 rfl ?_
  refine R_seq ?_
  refine R_region ?_
  refine J_assign rfl rfl rfl ?_
  refine J_nil ?_
  refine E_then ?_
  refine R_seq ?_
  refine R_region ?_
  refine J_move rfl rfl rfl ?_
  refine J_move rfl rfl rfl ?_
  refine J_nilCheck rfl rfl rfl ?_
  refine J_fieldAddr0 rfl rfl rfl ?_
  refine J_load rfl rfl rfl rfl ?_
  refine J_callr rfl (scan_read c r d a q u fn false V k f m a 1 ha (by omega) hm hf (by omega) _) (by exact Gives.refl) rfl rfl ?_
  refine J_move rfl rfl rfl ?_
  refine J_extract rfl rfl rfl rfl ?_
  refine J_extract rfl rfl rfl rfl ?_
  refine J_assign rfl rfl rfl ?_
  refine J_assign rfl rfl rfl ?_
  refine J_nil3 ?_
  refine E_then ?_
  refine R_seq ?_
  refine R_seq ?_
  refine R_region ?_
  refine J_move rfl rfl rfl ?_
  refine J_cmp rfl rfl rfl rfl rfl ?_
  refine J_nil2 ?_
  refine E_then ?_
  refine R_cond_false rfl ?_
  refine R_skip ?_
  refine E_then ?_
  refine R_seq ?_
  refine R_region ?_
  refine J_move rfl rfl rfl ?_
  refine J_move rfl rfl rfl ?_
  refine J_nilCheck rfl rfl rfl ?_
  refine J_fieldAddr0 rfl rfl rfl ?_
  refine J_load rfl rfl rfl rfl ?_
  refine J_callr rfl (logrec_Size _ q _) (by exact Gives.refl) rfl rfl ?_
  generalize (recSize (ring V f m a 1) q).2 = x at hs ⊢
  generalize (recSize (ring V f m a 1) q).1 = y
  refine J_move rfl rfl rfl ?_
  refine J_extract rfl rfl rfl rfl ?_
  refine J_extract rfl rfl rfl rfl ?_
  refine J_assign rfl rfl rfl ?_
  refine J_assign rfl rfl rfl ?_
  refine J_nil3 ?_
  refine E_then ?_
  refine R_seq ?_
  refine R_seq ?_
  refine R_draw ([scn c r a q u fn false, reg r d f m]) [] (by kernel_rfl) ?_
  (refine D_lookP (i := 0) rfl (by kernel_rfl) (by exact NP_then (NP_then NP_body)) (by exact Y_move rfl) rfl rfl ?_)
  (refine D_lookP (i := 1) rfl (by kernel_rfl) (by exact NP_then (NP_then NP_body)) (by exact Y_cmpT rfl rfl rfl (by first | rfl | (simp only [decide_eq_true_eq, ge_iff_le, gt_iff_lt, beq_iff_eq, bne_iff_ne, ne_eq]; omega))) rfl rfl ?_)
  (refine D_lookP (i := 2) rfl (by kernel_rfl) (by exact NP_then (NP_then NP_body)) (by exact Y_move rfl) rfl rfl ?_)
  (first | refine D_lookGP (i := 3) rfl (by kernel_rfl) (by skip) rfl rfl rfl (by skip) rfl rfl ?_ | refine D_skipP (i := 3) rfl (by kernel_rfl) (by exact NP_then (NP_then NP_body)) rfl rfl rfl rfl rfl rfl ?_ | refine D_skipUP (i := 3) rfl (by kernel_rfl) (by skip) rfl rfl rfl rfl rfl ?_)
  (first | refine D_lookGP (i := 4) rfl (by kernel_rfl) (by skip) rfl rfl rfl (by skip) rfl rfl ?_ | refine D_skipP (i := 4) rfl (by kernel_rfl) (by exact NP_then (NP_then NP_body)) rfl rfl rfl rfl rfl rfl ?_ | refine D_skipUP (i := 4) rfl (by kernel_rfl) (by skip) rfl rfl rfl rfl rfl ?_)
  (first | refine D_lookGP (i := 5) rfl (by kernel_rfl) (by skip) rfl rfl rfl (by skip) rfl rfl ?_ | refine D_skipP (i := 5) rfl (by kernel_rfl) (by exact NP_then (NP_then NP_body)) rfl rfl rfl rfl rfl rfl ?_ | refine D_skipUP (i := 5) rfl (by kernel_rfl) (by skip) rfl rfl rfl rfl rfl ?_)
  (first | refine D_lookGP (i := 6) rfl (by kernel_rfl) (by skip) rfl rfl rfl (by skip) rfl rfl ?_ | refine D_skipP (i := 6) rfl (by kernel_rfl) (by exact NP_then (NP_then NP_body)) rfl rfl rfl rfl rfl rfl ?_ | refine D_skipUP (i := 6) rfl (by kernel_rfl) (by skip) rfl rfl rfl rfl rfl ?_)
  (first | refine D_lookG (i := 7) rfl (by kernel_rfl) (by skip) (by skip) rfl rfl rfl (by skip) rfl rfl ?_ | refine D_skipP (i := 7) rfl (by kernel_rfl) (by exact NP_then (NP_then NP_body)) rfl rfl rfl rfl rfl rfl ?_ | refine D_skipUP (i := 7) rfl (by kernel_rfl) (by skip) rfl rfl rfl rfl rfl ?_)
  (first | refine D_lookGP (i := 9) rfl (by kernel_rfl) (by skip) rfl rfl rfl (by skip) rfl rfl ?_ | refine D_skipP (i := 9) rfl (by kernel_rfl) (by exact NP_then (NP_then NP_body)) rfl rfl rfl rfl rfl rfl ?_ | refine D_skipUP (i := 9) rfl (by kernel_rfl) (by skip) rfl rfl rfl rfl rfl ?_)
  (first | refine D_lookGP (i := 10) rfl (by kernel_rfl) (by skip) rfl rfl rfl (by skip) rfl rfl ?_ | refine D_skipP (i := 10) rfl (by kernel_rfl) (by exact NP_then (NP_then NP_body)) rfl rfl rfl rfl rfl rfl ?_ | refine D_skipUP (i := 10) rfl (by kernel_rfl) (by skip) rfl rfl rfl rfl rfl ?_)
  (first | refine D_lookGP (i := 11) rfl (by kernel_rfl) (by skip) rfl rfl rfl (by skip) rfl rfl ?_ | refine D_skipP (i := 11) rfl (by kernel_rfl) (by exact NP_then (NP_then NP_body)) rfl rfl rfl rfl rfl rfl ?_ | refine D_skipUP (i := 11) rfl (by kernel_rfl) (by skip) rfl rfl rfl rfl rfl ?_)
  (first | refine D_lookG (i := 12) rfl (by kernel_rfl) (by skip) (by skip) rfl rfl rfl (by skip) rfl rfl ?_ | refine D_skipP (i := 12) rfl (by kernel_rfl) (by exact NP_then (NP_then NP_body)) rfl rfl rfl rfl rfl rfl ?_ | refine D_skipUP (i := 12) rfl (by kernel_rfl) (by skip) rfl rfl rfl rfl rfl ?_)
  refine D_try1 (i := 8) (by kernel_rfl) rfl ?_
  refine J_guard_not rfl rfl rfl rfl rfl rfl ?_
  refine D_next (by exact Gives.cons Take.here (Gives.cons (Take.next Take.here) Gives.nil)) ?_
  (first | refine D_lookGP (i := 13) rfl (by kernel_rfl) (by skip) rfl rfl rfl (by skip) rfl rfl ?_ | refine D_skipP (i := 13) rfl (by kernel_rfl) (by exact NP_then (NP_then NP_body)) rfl rfl rfl rfl rfl rfl ?_ | refine D_skipUP (i := 13) rfl (by kernel_rfl) (by skip) rfl rfl rfl rfl rfl ?_)
  (first | refine D_lookGP (i := 14) rfl (by kernel_rfl) (by skip) rfl rfl rfl (by skip) rfl rfl ?_ | refine D_skipP (i := 14) rfl (by kernel_rfl) (by exact NP_then (NP_then NP_body)) rfl rfl rfl rfl rfl rfl ?_ | refine D_skipUP (i := 14) rfl (by kernel_rfl) (by skip) rfl rfl rfl rfl rfl ?_)
  (refine D_lookP (i := 15) rfl (by kernel_rfl) (by exact NP_then (NP_then NP_body)) (by exact Y_pick_true rfl rfl) rfl rfl ?_)
  (first | refine D_end1 (by kernel_rfl) ?_ | refine D_end (by kernel_rfl) ?_)
  refine E_then ?_
  refine R_cond_true rfl ?_
  refine R_seq ?_
  refine R_region ?_
  refine J_move rfl rfl rfl ?_
  refine J_nilCheck rfl rfl rfl ?_
  refine J_fieldAddr0 rfl rfl rfl ?_
  refine J_store rfl rfl rfl rfl ?_
  refine J_nil3 ?_
  refine E_then ?_
  refine R_seq ?_
  refine R_region ?_
  refine J_assign rfl rfl rfl ?_
  refine J_nil ?_
  refine E_then ?_
  refine R_ret ?_
  refine E_then_ret ?_
  apply E_retP Tryz.results244
  · exact Res.tmp rfl (Res.nil)
  · exact Gives.refl
  rfl
theorem scan_run0 (c r d : Nat) (a q u : Int) (fn : Value) (V : List Bytes) (k : Nat) (f m : Int) (ha : 0 ≤ a ∧ a < m) (hm : 0 < m ∧ m ≤ 1000) (hf : 0 ≤ f ∧ f + m ≤ V.length) (hV : V.length ≤ 1000) (hk : k < 100000000) (hs : (recSize (ring V f m a 1) q).2 ≠ 0) (F : List HP) :
    Fn Tryz.prog 221 [.pointer (some ⟨c, 0, none⟩)] (scn c r a q u fn false :: dvk d V k :: reg r d f m :: F)
      (Pst (.int .i64 0) (scn c r a q u fn true :: dvk d V (k + 1) :: reg r d f m :: F)) := by
  refine Fn_enter Tryz.func221 rfl Tryz.ntmps221 rfl ?_
  refine R_seq ?_
  refine R_region ?_
  refine J_assign rfl rfl rfl ?_
  refine J_nil ?_
  refine E_then ?_
  refine R_seq ?_
  refine R_seq ?_
  refine R_draw ([scn c r a q u fn false, reg r d f m]) [8, 9] (by kernel_rfl) ?_
  (refine D_lookP (i := 0) rfl (by kernel_rfl) (by exact NP_then (NP_then NP_body)) (by exact Y_move rfl) rfl rfl ?_)
  (refine D_lookP (i := 1) rfl (by kernel_rfl) (by exact NP_then (NP_then NP_body)) (by exact Y_nilCheck rfl) rfl rfl ?_)
  (refine D_lookP (i := 2) rfl (by kernel_rfl) (by exact NP_then (NP_then NP_body)) (by exact Y_fieldAddr0 rfl) rfl rfl ?_)
  (refine D_look (i := 3) rfl (by kernel_rfl) (by exact NP_then (NP_then NP_body)) (by exact Gives.cons Take.here (Gives.cons (Take.next Take.here) Gives.nil)) (by exact Y_load rfl rfl) rfl rfl ?_)
  (refine D_lookP (i := 4) rfl (by kernel_rfl) (by exact NP_then (NP_then NP_body)) (by exact Y_move rfl) rfl rfl ?_)
  (refine D_lookP (i := 5) rfl (by kernel_rfl) (by exact NP_then (NP_then NP_body)) (by exact Y_nilCheck rfl) rfl rfl ?_)
  (refine D_lookP (i := 6) rfl (by kernel_rfl) (by exact NP_then (NP_then NP_body)) (by exact Y_fieldAddr0 rfl) rfl rfl ?_)
  (refine D_look (i := 7) rfl (by kernel_rfl) (by exact NP_then (NP_then NP_body)) (by exact Gives.cons Take.here (Gives.cons (Take.next Take.here) Gives.nil)) (by exact Y_load rfl rfl) rfl rfl ?_)
  refine D_try1 (i := 8) (by kernel_rfl) rfl ?_
  refine J_callr rfl (logscan_there r d f m a ha (by omega) _) (by exact Gives.last (Take.next (Take.next Take.here))) rfl rfl ?_
  refine D_last (by kernel_rfl) ?_
  refine D_try1 (i := 9) (by kernel_rfl) rfl ?_
  refine J_assign rfl rfl rfl ?_
  refine D_last (by kernel_rfl) ?_
  (first | refine D_end1 (by kernel_rfl) ?_ | refine D_end (by kernel_rfl) ?_)
  refine E_then ?_
  refine R_seq ?_
  refine R_region ?_
  refine J_move rfl rfl rfl ?_
  refine J_cmp rfl rfl rfl rfl rfl ?_
  refine J_nil2 ?_
  refine E_then ?_
  refine R_cond_false rfl ?_
  refine R_skip ?_
  refine E_then ?_
  refine R_seq ?_
  refine R_block ?_
  refine R_loop (X := {j : Nat // j ≤ 1}) (fun j => [(0, .pointer (some ⟨c, 0, none⟩))])
    (fun j => scn c r a q u fn (if j.1 = 0 then false else true) :: dvk d V (k + j.1) :: reg r d f m :: F) (fun j => 1 - j.1) ⟨0, by omega⟩ (by exact sub_cons rfl sub_nil) (by exact Gives.cons (Take.next Take.here) (Gives.last (Take.next Take.here))) ?_
  rintro ⟨j, hj⟩
  dsimp only
  rcases Nat.lt_or_ge j 1 with h0 | h0
  · have hj0 : j = 0 := by omega
    subst hj0
    simp only [if_true, Nat.add_zero]
    refine R_seq ?_
    refine R_seq ?_
    refine R_region ?_
    refine J_move rfl rfl rfl ?_
    refine J_nilCheck rfl rfl rfl ?_
    refine J_fieldAddr0 rfl rfl rfl ?_
    refine J_load rfl rfl rfl rfl ?_
    refine J_un_not rfl rfl rfl ?_
    refine J_nil3 ?_
    refine E_then ?_
    refine R_cond_true rfl ?_
    refine R_skip ?_
    refine E_then ?_
    refine R_block ?_
    refine R_seq ?_
    refine R_region ?_
    refine J_move rfl rfl rfl ?_
    refine J_callr rfl (scan_next0 c r d a q u fn V k f m (by omega) hm.1 hf hk hs _) (by exact Gives.refl) rfl rfl ?_
    refine J_assign rfl rfl rfl ?_
    refine J_nil2 ?_
    refine E_then ?_
    refine R_seq ?_
    refine R_region ?_
    refine J_move rfl rfl rfl ?_
    refine J_cmp rfl rfl rfl rfl rfl ?_
    refine J_nil2 ?_
    refine E_then ?_
    refine R_cond_false rfl ?_
    refine R_skip ?_
    refine E_block_normal ?_
    exact E_thenI fun a w he hs => ⟨⟨1, by omega⟩, by simp, he.sub (by exact sub_cons rfl sub_nil), hs⟩
  · have hj0 : j = 1 := by omega
    subst hj0
    simp only [Nat.one_ne_zero, if_false]
    refine R_seq ?_
    refine R_seq ?_
    refine R_region ?_
    refine J_move rfl rfl rfl ?_
    refine J_nilCheck rfl rfl rfl ?_
    refine J_fieldAddr0 rfl rfl rfl ?_
    refine J_load rfl rfl rfl rfl ?_
    refine J_un_not rfl rfl rfl ?_
    refine J_nil3 ?_
    refine E_then ?_
    refine R_cond_false rfl ?_
    refine R_exit ?_
    refine E_then_exit ?_
    refine E_then_exit ?_
    refine E_block_hit ?_
    refine E_then ?_
    refine R_seq ?_
    refine R_region ?_
    refine J_assign rfl rfl rfl ?_
    refine J_nil ?_
    refine E_then ?_
    refine R_ret ?_
    apply E_retP Tryz.results221
    · exact Res.tmp rfl (Res.nil)
    · exact Gives.refl
    rfl
theorem logscan_Each0 (r d : Nat) (a q : Int) (f' : Nat) (cs : List Value) (V : List Bytes) (k : Nat) (f m : Int) (ha : 0 ≤ a ∧ a < m) (hm : 0 < m ∧ m ≤ 1000) (hf : 0 ≤ f ∧ f + m ≤ V.length) (hV : V.length ≤ 1000) (hk : k < 100000000) (hs : (recSize (ring V f m a 1) q).2 ≠ 0) (F : List HP) :
    Fn Tryz.prog 182 [.pointer (some ⟨r, 0, none⟩), .int .i64 a, .int .i64 q, .func (.func f') #[] cs.toArray] (dvk d V k :: reg r d f m :: F)
      (Pst (.int .i64 0) (dvk d V (k + 1) :: reg r d f m :: F)) := by
  refine Fn_enter Tryz.func182 rfl Tryz.ntmps182 rfl ?_
  refine R_seq ?_
  refine R_region ?_
  refine J_assign rfl rfl rfl ?_
  refine J_nil ?_
  refine E_then ?_
  refine R_seq ?_
  refine R_region ?_
  refine J_move rfl rfl rfl ?_
  refine J_move rfl rfl rfl ?_
  refine J_move rfl rfl rfl ?_
  refine J_move rfl rfl rfl ?_
  refine J_build rfl rfl rfl rfl ?_
  refine J_boxA rfl rfl rfl ?_; intro
  refine J_assign rfl rfl rfl ?_
  refine J_nil3 ?_
  refine E_then ?_
  refine R_seq ?_
  refine R_region ?_
  refine J_move rfl rfl rfl ?_
  rename_i c
  refine J_callr rfl (scan_run0 c r d a q 0 (.func (.func f') #[] cs.toArray) V k f m ha hm hf hV hk hs _) (by exact Gives.refl) rfl rfl ?_
  refine J_assign rfl rfl rfl ?_
  refine J_nil2 ?_
  refine E_then ?_
  refine R_ret ?_
  apply E_retP Tryz.results182
  · exact Res.tmp rfl (Res.nil)
  · exact Gives.cons (Take.next Take.here) (Gives.cons (Take.next Take.here) (Gives.drop Gives.refl))
  rfl
end Go.Proofs.Sol

/- A log over a disk: begun, gone through, opened. -/
namespace Go.Proofs.Sol
open Go Go.Proofs
set_option maxRecDepth 100000
set_option maxHeartbeats 4000000
set_option linter.unusedVariables false
set_option linter.unusedSimpArgs false
attribute [local irreducible] R J JW E D Fn Y clf mpI own Sat Exit.then Exit.inBlock bodyPost bodyPostM Code.wpIn wpL
theorem wal_begun (b : Nat) (W : Wl) (h : Int × Int × Int) (hV : W.V.length ≤ 1000) (hf : 0 ≤ W.fr ∧ W.fr + W.many ≤ W.V.length) (hm : 24 ≤ W.many ∧ W.many ≤ 200) (hk : W.k < 90000000)
    (hn : newer ((cat W.V W.fr 2).take 64) ((cat W.V W.fr 2).drop 64) = (h, 0)) (hh : 0 ≤ h.2.2 ∧ h.2.2 < W.many - 2 ∧ h.1 < 140737488355328 ∧ h.2.1 < 140737488355328) (hl : (cat W.V W.fr 2).length = 128) (F : List HP) :
    Fn Tryz.prog 110 [.pointer (some ⟨b, 0, none⟩)] (wal b W :: F) (Pst .nilIface (wal b { W with gen := h.1, at_ := h.2.2, seq := h.2.1, k := W.k + 2 } :: F)) := by
  obtain ⟨g, q, a⟩ := h
  dsimp only at hh ⊢
  refine Fn.open_ (fun w h => open_wal h) ?_
  rintro p
  dsimp only [walL, List.cons_append, List.nil_append]
  refine Fn_enter Tryz.func110 rfl Tryz.ntmps110 rfl ?_
  refine R_seq ?_
  refine R_region ?_
  refine J_assign rfl rfl rfl ?_
  refine J_nil ?_
  refine E_then ?_
  refine R_seq ?_
  refine R_region ?_
  refine J_move rfl rfl rfl ?_
  refine J_nilCheck rfl rfl rfl ?_
  refine J_fieldAddr0 rfl rfl rfl ?_
  refine J_load rfl rfl rfl rfl ?_
  have e0 : W.fr + 0 = W.fr := by omega
  have hr := region_Read p.1 W.d W.V W.k W.fr 2 0 2 (by omega) (by omega) (by omega)
  rw [e0] at hr
  refine J_callr rfl (hr _) (by exact Gives.cons (Take.next (Take.next (Take.next (Take.next Take.here)))) (Gives.last (Take.next Take.here))) rfl rfl ?_
  refine J_move rfl rfl rfl ?_
  refine J_extract rfl rfl rfl rfl ?_
  refine J_extract rfl rfl rfl rfl ?_
  refine J_assign rfl rfl rfl ?_
  refine J_assign rfl rfl rfl ?_
  refine J_nil3 ?_
  refine E_then ?_
  refine R_seq ?_
  refine R_seq ?_
  refine R_region ?_
  refine J_move rfl rfl rfl ?_
  refine J_cmp rfl rfl rfl rfl rfl ?_
  refine J_nil2 ?_
  refine E_then ?_
  refine R_cond_false rfl ?_
  refine R_skip ?_
  refine E_then ?_
  refine R_seq ?_
  have e1 : (cat W.V W.fr 2).take (Int.toNat 64) = (cat W.V W.fr 2).take 64 := rfl
  have e2 : (cat W.V W.fr 2).drop (Int.toNat 64) = (cat W.V W.fr 2).drop 64 := rfl
  refine R_cutT (X := Nat) (fun x => [(5, .pointer (some ⟨x, 0, none⟩)), (4, .int .i64 0), (0, .pointer (some ⟨b, 0, none⟩)), (2, .nilIface)]) (fun x => cl x 159 [.int .i64 g, .int .i64 q, .int .i64 a] :: dvk W.d W.V (W.k + 2) :: reg p.1 W.d W.fr 2 :: walH b W p :: reg p.2.1 W.d (W.fr + 2) (W.many - 2) :: shd p.2.2 W.K W.Lo :: F) ?_ ?_
  · skip
    refine R_draw (F) [4, 9, 10] (by kernel_rfl) ?_
    (refine D_lookP (i := 0) rfl (by kernel_rfl) (by exact NP_then NP_body) (by exact Y_move rfl) rfl rfl ?_)
    (refine D_look (i := 1) rfl (by kernel_rfl) (by exact NP_then NP_body) (by exact Gives.drop (Gives.drop (Gives.drop (Gives.drop (Gives.drop Gives.refl))))) (by exact Y_slice_hi rfl rfl (by omega) (by omega)) rfl rfl ?_)
    (refine D_lookP (i := 2) rfl (by kernel_rfl) (by exact NP_then NP_body) (by exact Y_move rfl) rfl rfl ?_)
    (refine D_look (i := 3) rfl (by kernel_rfl) (by exact NP_then NP_body) (by exact Gives.drop (Gives.drop (Gives.drop (Gives.drop (Gives.drop Gives.refl))))) (by exact Y_slice_lo rfl rfl (by omega) (by omega)) rfl rfl ?_)
    refine D_try2 (i := 4) (j := 8) (by kernel_rfl) rfl rfl ?_ ?_
    · refine J_callr rfl (loghead_Newer _ _ _) (by exact Gives.refl) rfl rfl ?_
      rw [e1, e2, hn]
      refine D_last (by kernel_rfl) ?_
      (refine D_lookP (i := 5) rfl (by kernel_rfl) (by exact NP_then NP_body) (by exact Y_move rfl) rfl rfl ?_)
      (refine D_lookP (i := 6) rfl (by kernel_rfl) (by exact NP_then NP_body) (by exact Y_extract rfl rfl) rfl rfl ?_)
      (refine D_lookP (i := 7) rfl (by kernel_rfl) (by exact NP_then NP_body) (by exact Y_extract rfl rfl) rfl rfl ?_)
      refine D_try1 (i := 8) (by kernel_rfl) rfl ?_
      (refine J_alloc rfl rfl ?_; intro)
      refine D_next (by exact Gives.drop (Gives.drop (Gives.drop (Gives.drop (Gives.drop (Gives.drop Gives.refl)))))) ?_
      refine D_try1 (i := 9) (by kernel_rfl) rfl ?_
      refine J_storeA rfl rfl rfl rfl rfl rfl ?_
      refine D_last (by kernel_rfl) ?_
      refine D_try1 (i := 10) (by kernel_rfl) rfl ?_
      refine J_assign rfl rfl rfl ?_
      refine D_last (by kernel_rfl) ?_
      (first | refine D_end1 (by kernel_rfl) ?_ | refine D_end (by kernel_rfl) ?_)
      skip
      rename_i x
      exact E_cut x (by exact sub_cons rfl (sub_cons rfl (sub_cons rfl (sub_cons rfl sub_nil)))) (by exact Gives.refl)
    · skip
      (refine J_alloc rfl rfl ?_; intro)
      refine D_next (by exact Gives.drop (Gives.drop (Gives.drop (Gives.drop (Gives.drop (Gives.drop Gives.refl)))))) ?_
      refine D_try1 (i := 4) (by kernel_rfl) rfl ?_
      refine J_callr rfl (loghead_Newer _ _ _) (by exact Gives.refl) rfl rfl ?_
      rw [e1, e2, hn]
      refine D_last (by kernel_rfl) ?_
      (refine D_lookP (i := 5) rfl (by kernel_rfl) (by exact NP_then NP_body) (by exact Y_move rfl) rfl rfl ?_)
      (refine D_lookP (i := 6) rfl (by kernel_rfl) (by exact NP_then NP_body) (by exact Y_extract rfl rfl) rfl rfl ?_)
      (refine D_lookP (i := 7) rfl (by kernel_rfl) (by exact NP_then NP_body) (by exact Y_extract rfl rfl) rfl rfl ?_)
      refine D_try1 (i := 9) (by kernel_rfl) rfl ?_
      refine J_storeA rfl rfl rfl rfl rfl rfl ?_
      refine D_last (by kernel_rfl) ?_
      refine D_try1 (i := 10) (by kernel_rfl) rfl ?_
      refine J_assign rfl rfl rfl ?_
      refine D_last (by kernel_rfl) ?_
      (first | refine D_end1 (by kernel_rfl) ?_ | refine D_end (by kernel_rfl) ?_)
      skip
      rename_i x
      exact E_cut x (by exact sub_cons rfl (sub_cons rfl (sub_cons rfl (sub_cons rfl sub_nil)))) (by exact Gives.refl)
  · intro x
    refine R_seq ?_
    refine R_seq ?_
    refine R_draw ([cl x 159 [.int .i64 g, .int .i64 q, .int .i64 a], walH b W p]) [] (by kernel_rfl) ?_
    (refine D_lookP (i := 0) rfl (by kernel_rfl) (by exact NP_then (NP_then NP_body)) (by exact Y_move rfl) rfl rfl ?_)
    (refine D_lookP (i := 1) rfl (by kernel_rfl) (by exact NP_then (NP_then NP_body)) (by exact Y_cmpF rfl rfl rfl (by first | rfl | (simp only [decide_eq_false_iff_not, ge_iff_le, gt_iff_lt, beq_eq_false_iff_ne, bne_eq_false_iff_eq, ne_eq]; omega))) rfl rfl ?_)
    (refine D_lookP (i := 2) rfl (by kernel_rfl) (by exact NP_then (NP_then NP_body)) (by exact Y_move rfl) rfl rfl ?_)
    (first | refine D_lookGP (i := 3) rfl (by kernel_rfl) (by exact NP_then (NP_then NP_body)) rfl rfl rfl (by exact Y_fieldAddr0 rfl) rfl rfl ?_ | refine D_skipP (i := 3) rfl (by kernel_rfl) (by skip) rfl rfl rfl rfl rfl rfl ?_ | refine D_skipUP (i := 3) rfl (by kernel_rfl) (by skip) rfl rfl rfl rfl rfl ?_)
    (first | refine D_lookG (i := 4) rfl (by kernel_rfl) (by exact NP_then (NP_then NP_body)) (by exact Gives.cons Take.here (Gives.cons (Take.next (Take.next Take.here)) Gives.nil)) rfl rfl rfl (by exact Y_load rfl rfl) rfl rfl ?_ | refine D_skipP (i := 4) rfl (by kernel_rfl) (by skip) rfl rfl rfl rfl rfl rfl ?_ | refine D_skipUP (i := 4) rfl (by kernel_rfl) (by skip) rfl rfl rfl rfl rfl ?_)
    (first | refine D_lookGP (i := 5) rfl (by kernel_rfl) (by exact NP_then (NP_then NP_body)) rfl rfl rfl (by exact Y_move rfl) rfl rfl ?_ | refine D_skipP (i := 5) rfl (by kernel_rfl) (by skip) rfl rfl rfl rfl rfl rfl ?_ | refine D_skipUP (i := 5) rfl (by kernel_rfl) (by skip) rfl rfl rfl rfl rfl ?_)
    (first | refine D_lookGP (i := 6) rfl (by kernel_rfl) (by exact NP_then (NP_then NP_body)) rfl rfl rfl (by exact Y_nilCheck rfl) rfl rfl ?_ | refine D_skipP (i := 6) rfl (by kernel_rfl) (by skip) rfl rfl rfl rfl rfl rfl ?_ | refine D_skipUP (i := 6) rfl (by kernel_rfl) (by skip) rfl rfl rfl rfl rfl ?_)
    (first | refine D_lookGP (i := 7) rfl (by kernel_rfl) (by exact NP_then (NP_then NP_body)) rfl rfl rfl (by exact Y_fieldAddr0 rfl) rfl rfl ?_ | refine D_skipP (i := 7) rfl (by kernel_rfl) (by skip) rfl rfl rfl rfl rfl rfl ?_ | refine D_skipUP (i := 7) rfl (by kernel_rfl) (by skip) rfl rfl rfl rfl rfl ?_)
    (first | refine D_lookG (i := 8) rfl (by kernel_rfl) (by exact NP_then (NP_then NP_body)) (by exact Gives.cons Take.here (Gives.cons (Take.next (Take.next Take.here)) Gives.nil)) rfl rfl rfl (by exact Y_load rfl rfl) rfl rfl ?_ | refine D_skipP (i := 8) rfl (by kernel_rfl) (by skip) rfl rfl rfl rfl rfl rfl ?_ | refine D_skipUP (i := 8) rfl (by kernel_rfl) (by skip) rfl rfl rfl rfl rfl ?_)
    refine D_try1 (i := 9) (by kernel_rfl) rfl ?_
    refine J_guard rfl rfl rfl ?_
    refine J_callr rfl (region_Many p.2.1 W.d (W.fr + 2) (W.many - 2) _) (by exact Gives.last (Take.next (Take.next (Take.next (Take.next Take.here))))) rfl rfl ?_
    refine D_next (by exact Gives.cons (Take.next Take.here) (Gives.cons (Take.next (Take.next (Take.next Take.here))) Gives.nil)) ?_
    (first | refine D_lookGP (i := 10) rfl (by kernel_rfl) (by exact NP_then (NP_then NP_body)) rfl rfl rfl (by exact Y_cmpF rfl rfl rfl (by first | rfl | (simp only [decide_eq_false_iff_not, ge_iff_le, gt_iff_lt, beq_eq_false_iff_ne, bne_eq_false_iff_eq, ne_eq]; omega))) rfl rfl ?_ | refine D_skipP (i := 10) rfl (by kernel_rfl) (by skip) rfl rfl rfl rfl rfl rfl ?_ | refine D_skipUP (i := 10) rfl (by kernel_rfl) (by skip) rfl rfl rfl rfl rfl ?_)
    (refine D_lookP (i := 11) rfl (by kernel_rfl) (by exact NP_then (NP_then NP_body)) (by exact Y_pick_false rfl rfl) rfl rfl ?_)
    (refine D_lookP (i := 12) rfl (by kernel_rfl) (by exact NP_then (NP_then NP_body)) (by exact Y_move rfl) rfl rfl ?_)
    (first | refine D_lookGP (i := 13) rfl (by kernel_rfl) (by exact NP_then (NP_then NP_body)) rfl rfl rfl (by exact Y_fieldAddr0 rfl) rfl rfl ?_ | refine D_skipP (i := 13) rfl (by kernel_rfl) (by skip) rfl rfl rfl rfl rfl rfl ?_ | refine D_skipUP (i := 13) rfl (by kernel_rfl) (by skip) rfl rfl rfl rfl rfl ?_)
    (first | refine D_lookG (i := 14) rfl (by kernel_rfl) (by exact NP_then (NP_then NP_body)) (by exact Gives.cons (Take.next Take.here) (Gives.cons (Take.next (Take.next (Take.next Take.here))) Gives.nil)) rfl rfl rfl (by exact Y_load rfl rfl) rfl rfl ?_ | refine D_skipP (i := 14) rfl (by kernel_rfl) (by skip) rfl rfl rfl rfl rfl rfl ?_ | refine D_skipUP (i := 14) rfl (by kernel_rfl) (by skip) rfl rfl rfl rfl rfl ?_)
    (first | refine D_lookGP (i := 15) rfl (by kernel_rfl) (by exact NP_then (NP_then NP_body)) rfl rfl rfl (by exact Y_cmpF rfl rfl rfl (by first | rfl | (simp only [decide_eq_false_iff_not, ge_iff_le, gt_iff_lt, beq_eq_false_iff_ne, bne_eq_false_iff_eq, ne_eq]; omega))) rfl rfl ?_ | refine D_skipP (i := 15) rfl (by kernel_rfl) (by skip) rfl rfl rfl rfl rfl rfl ?_ | refine D_skipUP (i := 15) rfl (by kernel_rfl) (by skip) rfl rfl rfl rfl rfl ?_)
    (refine D_lookP (i := 16) rfl (by kernel_rfl) (by exact NP_then (NP_then NP_body)) (by exact Y_pick_false rfl rfl) rfl rfl ?_)
    (refine D_lookP (i := 17) rfl (by kernel_rfl) (by exact NP_then (NP_then NP_body)) (by exact Y_move rfl) rfl rfl ?_)
    (first | refine D_lookGP (i := 18) rfl (by kernel_rfl) (by exact NP_then (NP_then NP_body)) rfl rfl rfl (by exact Y_fieldAddr0 rfl) rfl rfl ?_ | refine D_skipP (i := 18) rfl (by kernel_rfl) (by skip) rfl rfl rfl rfl rfl rfl ?_ | refine D_skipUP (i := 18) rfl (by kernel_rfl) (by skip) rfl rfl rfl rfl rfl ?_)
    (first | refine D_lookG (i := 19) rfl (by kernel_rfl) (by exact NP_then (NP_then NP_body)) (by exact Gives.cons (Take.next Take.here) (Gives.cons (Take.next (Take.next (Take.next Take.here))) Gives.nil)) rfl rfl rfl (by exact Y_load rfl rfl) rfl rfl ?_ | refine D_skipP (i := 19) rfl (by kernel_rfl) (by skip) rfl rfl rfl rfl rfl rfl ?_ | refine D_skipUP (i := 19) rfl (by kernel_rfl) (by skip) rfl rfl rfl rfl rfl ?_)
    (first | refine D_lookGP (i := 20) rfl (by kernel_rfl) (by exact NP_then (NP_then NP_body)) rfl rfl rfl (by exact Y_cmpF rfl rfl rfl (by first | rfl | (simp only [decide_eq_false_iff_not, ge_iff_le, gt_iff_lt, beq_eq_false_iff_ne, bne_eq_false_iff_eq, ne_eq]; omega))) rfl rfl ?_ | refine D_skipP (i := 20) rfl (by kernel_rfl) (by skip) rfl rfl rfl rfl rfl rfl ?_ | refine D_skipUP (i := 20) rfl (by kernel_rfl) (by skip) rfl rfl rfl rfl rfl ?_)
    (refine D_lookP (i := 21) rfl (by kernel_rfl) (by exact NP_then (NP_then NP_body)) (by exact Y_pick_false rfl rfl) rfl rfl ?_)
    (first | refine D_end1 (by kernel_rfl) ?_ | refine D_end (by kernel_rfl) ?_)
    refine E_then ?_
    refine R_cond_false rfl ?_
    refine R_skip ?_
    refine E_then ?_
    refine R_seq ?_
    refine R_draw ([cl x 159 [.int .i64 g, .int .i64 q, .int .i64 a]]) [17] (by kernel_rfl) ?_
    (refine D_lookP (i := 0) rfl (by kernel_rfl) (by exact NP_then NP_body) (by exact Y_move rfl) rfl rfl ?_)
    (refine D_lookP (i := 1) rfl (by kernel_rfl) (by exact NP_then NP_body) (by exact Y_move rfl) rfl rfl ?_)
    (refine D_lookP (i := 2) rfl (by kernel_rfl) (by exact NP_then NP_body) (by exact Y_move rfl) rfl rfl ?_)
    (refine D_lookP (i := 3) rfl (by kernel_rfl) (by exact NP_then NP_body) (by exact Y_fieldAddr0 rfl) rfl rfl ?_)
    (refine D_look (i := 4) rfl (by kernel_rfl) (by exact NP_then NP_body) (by exact Gives.cons (Take.next Take.here) Gives.nil) (by exact Y_load rfl rfl) rfl rfl ?_)
    (refine D_lookP (i := 5) rfl (by kernel_rfl) (by exact NP_then NP_body) (by exact Y_fieldAddr0 rfl) rfl rfl ?_)
    (refine D_look (i := 6) rfl (by kernel_rfl) (by exact NP_then NP_body) (by exact Gives.cons (Take.next Take.here) Gives.nil) (by exact Y_load rfl rfl) rfl rfl ?_)
    (refine D_lookP (i := 7) rfl (by kernel_rfl) (by exact NP_then NP_body) (by exact Y_fieldAddr0 rfl) rfl rfl ?_)
    (refine D_look (i := 8) rfl (by kernel_rfl) (by exact NP_then NP_body) (by exact Gives.cons (Take.next Take.here) Gives.nil) (by exact Y_load rfl rfl) rfl rfl ?_)
    (refine D_lookP (i := 9) rfl (by kernel_rfl) (by exact NP_then NP_body) (by exact Y_nilCheck rfl) rfl rfl ?_)
    (refine D_lookP (i := 10) rfl (by kernel_rfl) (by exact NP_then NP_body) (by exact Y_fieldAddr0 rfl) rfl rfl ?_)
    refine D_try1 (i := 11) (by kernel_rfl) rfl ?_
    refine J_store rfl rfl rfl rfl ?_
    refine D_next (by exact Gives.cons (Take.next Take.here) Gives.nil) ?_
    (refine D_lookP (i := 12) rfl (by kernel_rfl) (by exact NP_then NP_body) (by exact Y_nilCheck rfl) rfl rfl ?_)
    (refine D_lookP (i := 13) rfl (by kernel_rfl) (by exact NP_then NP_body) (by exact Y_fieldAddr0 rfl) rfl rfl ?_)
    refine D_try1 (i := 14) (by kernel_rfl) rfl ?_
    refine J_store rfl rfl rfl rfl ?_
    refine D_next (by exact Gives.cons (Take.next Take.here) Gives.nil) ?_
    (refine D_lookP (i := 15) rfl (by kernel_rfl) (by exact NP_then NP_body) (by exact Y_nilCheck rfl) rfl rfl ?_)
    (refine D_lookP (i := 16) rfl (by kernel_rfl) (by exact NP_then NP_body) (by exact Y_fieldAddr0 rfl) rfl rfl ?_)
    refine D_try1 (i := 17) (by kernel_rfl) rfl ?_
    refine J_store rfl rfl rfl rfl ?_
    refine D_last (by kernel_rfl) ?_
    (first | refine D_end1 (by kernel_rfl) ?_ | refine D_end (by kernel_rfl) ?_)
    refine E_then ?_
    refine R_seq ?_
    refine R_region ?_
    refine J_assign rfl rfl rfl ?_
    refine J_nil ?_
    refine E_then ?_
    refine R_ret ?_
    apply E_ret Tryz.results110
    · exact Res.tmp rfl (Res.nil)
    · intro w s
      refine ⟨rfl, shut_wal (p := p) ?_⟩
      have s2 : Sat w (walH b { W with gen := g, at_ := a, seq := q, k := W.k + 2 } p :: reg p.1 W.d W.fr 2 :: reg p.2.1 W.d (W.fr + 2) (W.many - 2) :: shd p.2.2 W.K W.Lo :: dvk W.d W.V (W.k + 2) :: F) := s.gives (by exact Gives.cons (Take.next (Take.next (Take.next (Take.next Take.here)))) (Gives.cons (Take.next (Take.next (Take.next Take.here))) (Gives.cons Take.here (Gives.cons (Take.next (Take.next Take.here)) (Gives.cons (Take.next Take.here) (Gives.drop Gives.refl))))))
      exact s2
theorem wal_replay0 (b : Nat) (W : Wl) (hV : W.V.length ≤ 1000) (hf : 0 ≤ W.fr ∧ W.fr + W.many ≤ W.V.length) (hm : 24 ≤ W.many ∧ W.many ≤ 200) (hk : W.k < 90000000) (ha : 0 ≤ W.at_ ∧ W.at_ < W.many - 2)
    (hs : (recSize (ring W.V (W.fr + 2) (W.many - 2) W.at_ 1) W.seq).2 ≠ 0) (hlo : W.Lo.length < 1000000) (F : List HP) :
    Fn Tryz.prog 111 [.pointer (some ⟨b, 0, none⟩)] (wal b W :: F) (Pst .nilIface (wal b { W with K := keep W.K W.Lo, Lo := [], k := W.k + 1 } :: F)) := by
  refine Fn.open_ (fun w h => open_wal h) ?_
  rintro p
  dsimp only [walL, List.cons_append, List.nil_append]
  refine Fn_enter Tryz.func111 rfl Tryz.ntmps111 rfl ?_
  refine R_seq ?_
  refine R_region ?_
  refine J_assign rfl rfl rfl ?_
  refine J_nil ?_
  refine E_then ?_
  refine R_seq ?_
  refine R_region ?_
  refine J_alloc rfl rfl ?_; intro
  refine J_nil ?_
  refine E_then ?_
  refine R_seq ?_
  rename_i c3
  refine R_draw ([walH b W p]) [13, 14] (by kernel_rfl) ?_
  (refine D_lookP (i := 0) rfl (by kernel_rfl) (by exact NP_then NP_body) (by exact Y_move rfl) rfl rfl ?_)
  (refine D_lookP (i := 1) rfl (by kernel_rfl) (by exact NP_then NP_body) (by exact Y_nilCheck rfl) rfl rfl ?_)
  (refine D_lookP (i := 2) rfl (by kernel_rfl) (by exact NP_then NP_body) (by exact Y_fieldAddr0 rfl) rfl rfl ?_)
  (refine D_look (i := 3) rfl (by kernel_rfl) (by exact NP_then NP_body) (by exact Gives.cons (Take.next Take.here) Gives.nil) (by exact Y_load rfl rfl) rfl rfl ?_)
  (refine D_lookP (i := 4) rfl (by kernel_rfl) (by exact NP_then NP_body) (by exact Y_move rfl) rfl rfl ?_)
  (refine D_lookP (i := 5) rfl (by kernel_rfl) (by exact NP_then NP_body) (by exact Y_nilCheck rfl) rfl rfl ?_)
  (refine D_lookP (i := 6) rfl (by kernel_rfl) (by exact NP_then NP_body) (by exact Y_fieldAddr0 rfl) rfl rfl ?_)
  (refine D_look (i := 7) rfl (by kernel_rfl) (by exact NP_then NP_body) (by exact Gives.cons (Take.next Take.here) Gives.nil) (by exact Y_load rfl rfl) rfl rfl ?_)
  (refine D_lookP (i := 8) rfl (by kernel_rfl) (by exact NP_then NP_body) (by exact Y_move rfl) rfl rfl ?_)
  (refine D_lookP (i := 9) rfl (by kernel_rfl) (by exact NP_then NP_body) (by exact Y_nilCheck rfl) rfl rfl ?_)
  (refine D_lookP (i := 10) rfl (by kernel_rfl) (by exact NP_then NP_body) (by exact Y_fieldAddr0 rfl) rfl rfl ?_)
  (refine D_look (i := 11) rfl (by kernel_rfl) (by exact NP_then NP_body) (by exact Gives.cons (Take.next Take.here) Gives.nil) (by exact Y_load rfl rfl) rfl rfl ?_)
  (refine D_lookP (i := 12) rfl (by kernel_rfl) (by exact NP_then NP_body) (by exact Y_makeFunc rfl rfl) rfl rfl ?_)
  refine D_try1 (i := 13) (by kernel_rfl) rfl ?_
  refine J_callr rfl (logscan_Each0 p.2.1 W.d W.at_ W.seq 183 [.pointer (some ⟨c3, 0, none⟩)] W.V W.k (W.fr + 2) (W.many - 2) ha (by omega) (by omega) hV (by omega) hs _) (by exact Gives.cons (Take.next (Take.next (Take.next (Take.next (Take.next Take.here))))) (Gives.last (Take.next (Take.next (Take.next Take.here))))) rfl rfl ?_
  refine D_last (by kernel_rfl) ?_
  refine D_try1 (i := 14) (by kernel_rfl) rfl ?_
  refine J_assign rfl rfl rfl ?_
  refine D_last (by kernel_rfl) ?_
  (first | refine D_end1 (by kernel_rfl) ?_ | refine D_end (by kernel_rfl) ?_)
  refine E_then ?_
  refine R_seq ?_
  refine R_seq ?_
  refine R_region ?_
  refine J_move rfl rfl rfl ?_
  refine J_cmp rfl rfl rfl rfl rfl ?_
  refine J_nil2 ?_
  refine E_then ?_
  refine R_cond_false rfl ?_
  refine R_skip ?_
  refine E_then ?_
  refine R_seq ?_
  refine R_seq ?_
  refine R_region ?_
  refine J_load rfl rfl rfl rfl ?_
  refine J_len_slice rfl rfl rfl ?_
  refine J_move rfl rfl rfl ?_
  refine J_nil3 ?_
  refine E_then ?_
  refine R_block ?_
  refine R_loop (X := Unit) (fun _ => [(29, .int .i64 0), (28, .int .i64 0), (0, .pointer (some ⟨b, 0, none⟩))]) (fun _ => walH b W p :: reg p.1 W.d W.fr 2 :: reg p.2.1 W.d (W.fr + 2) (W.many - 2) :: shd p.2.2 W.K W.Lo :: dvk W.d W.V (W.k + 1) :: F) (fun _ => 0) () (by exact sub_cons rfl (sub_cons rfl (sub_cons rfl sub_nil))) (by exact Gives.cons (Take.next (Take.next (Take.next Take.here))) (Gives.cons (Take.next (Take.next (Take.next Take.here))) (Gives.cons (Take.next Take.here) (Gives.cons (Take.next (Take.next Take.here)) (Gives.cons Take.here (Gives.drop Gives.refl)))))) ?_
  rintro ⟨⟩
  refine R_seq ?_
  refine R_region ?_
  refine J_cmp rfl rfl rfl rfl rfl ?_
  refine J_nil1 ?_
  refine E_then ?_
  refine R_seq ?_
  refine R_cond_false rfl ?_
  refine R_exit ?_
  refine E_then_exit ?_
  refine E_then_exit ?_
  refine E_block_hit ?_
  refine E_then ?_
  refine R_seq ?_
  refine R_region ?_
  refine J_move rfl rfl rfl ?_
  refine J_nilCheck rfl rfl rfl ?_
  refine J_fieldAddr0 rfl rfl rfl ?_
  refine J_load rfl rfl rfl rfl ?_
  refine J_callr rfl (shadow_Keep p.2.2 W.K W.Lo hlo _) (by exact Gives.last (Take.next (Take.next (Take.next Take.here)))) rfl rfl ?_
  refine J_nil3 ?_
  refine E_then ?_
  refine R_seq ?_
  refine R_region ?_
  refine J_assign rfl rfl rfl ?_
  refine J_nil ?_
  refine E_then ?_
  refine R_ret ?_
  apply E_ret Tryz.results111
  · exact Res.tmp rfl (Res.nil)
  · intro w s
    refine ⟨rfl, shut_wal (p := p) ?_⟩
    have s2 : Sat w (walH b W p :: reg p.1 W.d W.fr 2 :: reg p.2.1 W.d (W.fr + 2) (W.many - 2) :: shd p.2.2 (keep W.K W.Lo) [] :: dvk W.d W.V (W.k + 1) :: F) := s.gives (by exact Gives.cons (Take.next Take.here) (Gives.cons (Take.next Take.here) (Gives.last (Take.next Take.here))))
    exact s2
end Go.Proofs.Sol

/- A log over a disk, opened, where it has no record. -/
namespace Go.Proofs.Sol
open Go Go.Proofs
set_option maxRecDepth 100000
set_option maxHeartbeats 4000000
set_option linter.unusedVariables false
set_option linter.unusedSimpArgs false
attribute [local irreducible] R J JW E D Fn Y clf mpI own Sat Exit.then Exit.inBlock bodyPost bodyPostM Code.wpIn wpL
theorem wal_Open1 (c b : Nat) (W : Wl) (ok : WlOk W) (hK : W.K.length < 1000) (hk : W.k < 10000000) (F : List HP) :
    Fn Tryz.prog 112 [.pointer (some ⟨c, 0, none⟩)] (cl c 26 [.pointer (some ⟨b, 0, none⟩)] :: wal b W :: F) (Pst .nilIface (cl c 26 [.pointer (some ⟨b, 0, none⟩)] :: wal b (W.settled (W.gen + 1) (W.seq + W.many) 0) :: F)) := by
  have hg := ok.gen
  have hq := ok.seq
  have hm := ok.many
  refine Fn.open_ (fun w h => open_wal h.swap) ?_
  rintro p
  dsimp only [walL, List.cons_append, List.nil_append]
  refine Fn_enter Tryz.func112 rfl Tryz.ntmps112 rfl ?_
  refine R_seq ?_
  refine R_region ?_
  refine J_assign rfl rfl rfl ?_
  refine J_nil ?_
  refine E_then ?_
  refine R_seq ?_
  refine R_draw ([cl c 26 [.pointer (some ⟨b, 0, none⟩)], walH b W p]) [16, 17] (by kernel_rfl) ?_
  (refine D_look (i := 0) rfl (by kernel_rfl) (by exact NP_then NP_body) (by exact Gives.cons (Take.next (Take.next (Take.next (Take.next (Take.next Take.here))))) (Gives.cons Take.here Gives.nil)) (by exact Y_load rfl rfl) rfl rfl ?_)
  (refine D_look (i := 1) rfl (by kernel_rfl) (by exact NP_then NP_body) (by exact Gives.cons (Take.next (Take.next (Take.next (Take.next (Take.next Take.here))))) (Gives.cons Take.here Gives.nil)) (by exact Y_load rfl rfl) rfl rfl ?_)
  (refine D_lookP (i := 2) rfl (by kernel_rfl) (by exact NP_then NP_body) (by exact Y_nilCheck rfl) rfl rfl ?_)
  (refine D_lookP (i := 3) rfl (by kernel_rfl) (by exact NP_then NP_body) (by exact Y_fieldAddr0 rfl) rfl rfl ?_)
  (refine D_look (i := 4) rfl (by kernel_rfl) (by exact NP_then NP_body) (by exact Gives.cons (Take.next (Take.next (Take.next (Take.next (Take.next Take.here))))) (Gives.cons Take.here Gives.nil)) (by exact Y_load rfl rfl) rfl rfl ?_)
  (refine D_lookP (i := 5) rfl (by kernel_rfl) (by exact NP_then NP_body) (by exact Y_ari64 rfl rfl rfl (by omega)) rfl rfl ?_)
  (refine D_look (i := 6) rfl (by kernel_rfl) (by exact NP_then NP_body) (by exact Gives.cons (Take.next (Take.next (Take.next (Take.next (Take.next Take.here))))) (Gives.cons Take.here Gives.nil)) (by exact Y_load rfl rfl) rfl rfl ?_)
  (refine D_lookP (i := 7) rfl (by kernel_rfl) (by exact NP_then NP_body) (by exact Y_nilCheck rfl) rfl rfl ?_)
  (refine D_lookP (i := 8) rfl (by kernel_rfl) (by exact NP_then NP_body) (by exact Y_fieldAddr0 rfl) rfl rfl ?_)
  (refine D_look (i := 9) rfl (by kernel_rfl) (by exact NP_then NP_body) (by exact Gives.cons (Take.next (Take.next (Take.next (Take.next (Take.next Take.here))))) (Gives.cons Take.here Gives.nil)) (by exact Y_load rfl rfl) rfl rfl ?_)
  (refine D_look (i := 10) rfl (by kernel_rfl) (by exact NP_then NP_body) (by exact Gives.cons (Take.next (Take.next (Take.next (Take.next (Take.next Take.here))))) (Gives.cons Take.here Gives.nil)) (by exact Y_load rfl rfl) rfl rfl ?_)
  (refine D_lookP (i := 11) rfl (by kernel_rfl) (by exact NP_then NP_body) (by exact Y_nilCheck rfl) rfl rfl ?_)
  (refine D_lookP (i := 12) rfl (by kernel_rfl) (by exact NP_then NP_body) (by exact Y_fieldAddr0 rfl) rfl rfl ?_)
  (refine D_look (i := 13) rfl (by kernel_rfl) (by exact NP_then NP_body) (by exact Gives.cons (Take.next (Take.next (Take.next (Take.next (Take.next Take.here))))) (Gives.cons Take.here Gives.nil)) (by exact Y_load rfl rfl) rfl rfl ?_)
  (refine D_lookP (i := 14) rfl (by kernel_rfl) (by exact NP_then NP_body) (by exact Y_ari64 rfl rfl rfl (by omega)) rfl rfl ?_)
  (refine D_lookP (i := 15) rfl (by kernel_rfl) (by exact NP_then NP_body) (by exact Y_build rfl rfl) rfl rfl ?_)
  refine D_try1 (i := 16) (by kernel_rfl) rfl ?_
  refine J.open_ (α := Unit) (M := fun _ => wal b W :: cl c 26 [.pointer (some ⟨b, 0, none⟩)] :: F) (fun w s => ⟨(), shut_wal (p := p) (by exact s.gives (by exact Gives.cons Take.here (Gives.cons Take.here (Gives.cons Take.here (Gives.cons Take.here (Gives.cons Take.here (Gives.last Take.here)))))))⟩) ?_
  rintro ⟨⟩
  refine J_callr rfl (wal_settle b W ok (W.gen + 1) (W.seq + W.many) 0 (by simp [headMay]; omega) (by omega) (by omega) _) (by exact Gives.refl) rfl rfl ?_
  refine D_last (by kernel_rfl) ?_
  refine D_try1 (i := 17) (by kernel_rfl) rfl ?_
  refine J_assign rfl rfl rfl ?_
  refine D_last (by kernel_rfl) ?_
  (first | refine D_end1 (by kernel_rfl) ?_ | refine D_end (by kernel_rfl) ?_)
  refine E_then ?_
  refine R_ret ?_
  apply E_retP Tryz.results112
  · exact Res.tmp rfl (Res.nil)
  · exact Gives.last (Take.next Take.here)
  rfl
/-- A log, opened: it begins anew. -/
def Wl.anew (d : Nat) (fr many : Int) (V : List Bytes) (k : Nat) (h : Int × Int × Int) : Wl := (⟨d, fr, many, h.1, h.2.2, h.2.1, 0, false, false, [], [], V, k + 3⟩ : Wl).settled (h.1 + 1) (h.2.1 + many) 0
theorem wal_Open0 (d : Nat) (V : List Bytes) (k : Nat) (fr many : Int) (h : Int × Int × Int) (hmay : walMay V.length fr many = true) (hV : V.length ≤ 1000) (hk : k < 1000000)
    (hn : newer ((cat V fr 2).take 64) ((cat V fr 2).drop 64) = (h, 0)) (hh : 0 ≤ h.2.2 ∧ h.2.2 < many - 2 ∧ 0 ≤ h.1 ∧ h.1 < 100000000 ∧ 0 ≤ h.2.1 ∧ h.2.1 < 100000000) (hl : (cat V fr 2).length = 128)
    (hs : (recSize (ring V (fr + 2) (many - 2) h.2.2 1) h.2.1).2 ≠ 0) (F : List HP) :
    Fn Tryz.prog 29 [.pointer (some ⟨d, 0, none⟩), .int .i64 fr, .int .i64 many] (dvk d V k :: F) (fun v w => ∃ b, v = .tuple #[.pointer (some ⟨b, 0, none⟩), .int .i64 0] ∧ Sat w (wal b (Wl.anew d fr many V k h) :: F)) := by
  have hw := walMay_spec hmay
  refine Fn_enter Tryz.func29 rfl Tryz.ntmps29 rfl ?_
  refine R_seq ?_
  refine R_region ?_
  refine J_assign rfl rfl rfl ?_
  refine J_assign rfl rfl rfl ?_
  refine J_nil ?_
  refine E_then ?_
  refine R_seq ?_
  refine R_region ?_
  refine J_move rfl rfl rfl ?_
  refine J_move rfl rfl rfl ?_
  refine J_move rfl rfl rfl ?_
  refine J_callm rfl (wal_parted d V k fr many hmay hV F) Gives.refl rfl rfl ?_
  rintro v w ⟨b, rfl, s0⟩
  refine JW.of s0 ?_
  refine J_move rfl rfl rfl ?_
  refine J_extract rfl rfl rfl rfl ?_
  refine J_extract rfl rfl rfl rfl ?_
  refine J_alloc rfl rfl ?_; intro
  refine J_store rfl rfl rfl rfl ?_
  refine J_assign rfl rfl rfl ?_
  refine J_nil3 ?_
  refine E_then ?_
  refine R_seq ?_
  refine R_seq ?_
  refine R_region ?_
  refine J_move rfl rfl rfl ?_
  refine J_cmp rfl rfl rfl rfl rfl ?_
  refine J_nil2 ?_
  refine E_then ?_
  refine R_cond_false rfl ?_
  refine R_skip ?_
  refine E_then ?_
  refine R_seq ?_
  refine R_seq ?_
  refine R_region ?_
  refine J_load rfl rfl rfl rfl ?_
  refine J_makeFunc rfl rfl rfl rfl ?_
  refine J_load rfl rfl rfl rfl ?_
  refine J_makeFunc rfl rfl rfl rfl ?_
  refine J_makeFunc rfl rfl rfl rfl ?_
  refine J_buildSlice rfl rfl rfl rfl rfl rfl ?_; intro
  refine J_len_slice rfl rfl rfl ?_
  refine J_move rfl rfl rfl ?_
  refine J_nil3 ?_
  refine E_then ?_
  refine R_block ?_
  rename_i c8 b28
  refine R_loop (X := {x : Nat × Wl // x.1 ≤ 3 ∧ (x.1 = 0 → x.2 = Wl.none_ d fr many V k) ∧ (x.1 = 1 → x.2 = ⟨d, fr, many, h.1, h.2.2, h.2.1, 0, false, false, [], [], V, k + 2⟩) ∧ (x.1 = 2 → x.2 = ⟨d, fr, many, h.1, h.2.2, h.2.1, 0, false, false, [], [], V, k + 3⟩) ∧ (x.1 = 3 → x.2 = Wl.anew d fr many V k h)})
    (fun x => [(30, .int .i64 (x.1.1 : Int)), (29, .int .i64 3), (28, .slice (some ⟨b28, 0, none⟩) 3 3), (8, .pointer (some ⟨c8, 0, none⟩))])
    (fun x => cl b28 172 [.func (.func 110) #[.pointer (some ⟨b, 0, none⟩)] #[], .func (.func 111) #[.pointer (some ⟨b, 0, none⟩)] #[], .func (.func 112) #[] #[.pointer (some ⟨c8, 0, none⟩)]] :: cl c8 26 [.pointer (some ⟨b, 0, none⟩)] :: wal b x.1.2 :: F) (fun x => 3 - x.1.1)
    ⟨(0, Wl.none_ d fr many V k), by omega, fun _ => rfl, fun h => (by cases h), fun h => (by cases h), fun h => (by cases h)⟩ (by exact sub_cons rfl (sub_cons rfl (sub_cons rfl (sub_cons rfl sub_nil)))) ⟨fun _ s => s⟩ ?_
  rintro ⟨⟨j, W⟩, hj, h0, h1, h2, h3⟩
  dsimp only at hj h0 h1 h2 h3 ⊢
  have hj4 : j = 0 ∨ j = 1 ∨ j = 2 ∨ j = 3 := by omega
  rcases hj4 with rfl | rfl | rfl | rfl
  · obtain rfl := h0 rfl
    refine R_seq ?_
    refine R_region ?_
    refine J_cmp rfl rfl rfl rfl rfl ?_
    refine J_nil1 ?_
    refine E_then ?_
    refine R_seq ?_
    refine R_cond_true rfl ?_
    refine R_skip ?_
    refine E_then ?_
    refine R_seq ?_
    refine R_block ?_
    refine R_seq ?_
    refine R_region ?_
    refine J_indexAddr rfl rfl (by omega) (by omega) rfl rfl ?_
    refine J_load rfl rfl rfl rfl ?_
    refine J_assign rfl rfl rfl ?_
    refine J_nil2 ?_
    refine E_then ?_
    refine R_seq ?_
    refine R_region ?_
    refine J_move rfl rfl rfl ?_
    have hb := wal_begun b (Wl.none_ d fr many V k) h hV (by dsimp only [Wl.none_]; omega) (by dsimp only [Wl.none_]; omega) (by dsimp only [Wl.none_]; omega) hn (by dsimp only [Wl.none_]; omega) hl
    refine J_callvr (us := [.pointer (some ⟨b, 0, none⟩)]) (cs := []) rfl rfl rfl (hb _) (by exact Gives.last (Take.next (Take.next Take.here))) rfl rfl ?_
    refine J_assign rfl rfl rfl ?_
    refine J_nil2 ?_
    refine E_then ?_
    refine R_seq ?_
    refine R_region ?_
    refine J_move rfl rfl rfl ?_
    refine J_ifc_nil rfl rfl rfl rfl ?_
    refine J_nil2 ?_
    refine E_then ?_
    refine R_cond_false rfl ?_
    refine R_skip ?_
    refine E_block_normal ?_
    refine E_then ?_
    refine R_region ?_
    refine J_ari64 rfl rfl rfl (by omega) rfl rfl ?_
    refine J_moveg rfl rfl rfl ?_
    refine J_nil1 ?_
    exact E_thenI fun a w he hs => ⟨⟨(1, ⟨d, fr, many, h.1, h.2.2, h.2.1, 0, false, false, [], [], V, k + 2⟩), by omega, fun h => (by cases h), fun _ => rfl, fun h => (by cases h), fun h => (by cases h)⟩, by simp, he.sub (by exact sub_cons rfl (sub_cons rfl (sub_cons rfl (sub_cons rfl sub_nil)))), by
      have hs2 := hs.gives (M := cl b28 172 _ :: cl c8 26 _ :: _) (by exact Gives.cons (Take.next Take.here) (Gives.last (Take.next Take.here)))
      exact hs2⟩
  · obtain rfl := h1 rfl
    refine R_seq ?_
    refine R_region ?_
    refine J_cmp rfl rfl rfl rfl rfl ?_
    refine J_nil1 ?_
    refine E_then ?_
    refine R_seq ?_
    refine R_cond_true rfl ?_
    refine R_skip ?_
    refine E_then ?_
    refine R_seq ?_
    refine R_block ?_
    refine R_seq ?_
    refine R_region ?_
    refine J_indexAddr rfl rfl (by omega) (by omega) rfl rfl ?_
    refine J_load rfl rfl rfl rfl ?_
    refine J_assign rfl rfl rfl ?_
    refine J_nil2 ?_
    refine E_then ?_
    refine R_seq ?_
    refine R_region ?_
    refine J_move rfl rfl rfl ?_
    have hb := wal_replay0 b ⟨d, fr, many, h.1, h.2.2, h.2.1, 0, false, false, [], [], V, k + 2⟩ hV (by dsimp only; omega) (by dsimp only; omega) (by dsimp only; omega) (by dsimp only; omega) hs (by simp)
    simp only [keep_nil] at hb
    refine J_callvr (us := [.pointer (some ⟨b, 0, none⟩)]) (cs := []) rfl rfl rfl (hb _) (by exact Gives.last (Take.next (Take.next Take.here))) rfl rfl ?_
    refine J_assign rfl rfl rfl ?_
    refine J_nil2 ?_
    refine E_then ?_
    refine R_seq ?_
    refine R_region ?_
    refine J_move rfl rfl rfl ?_
    refine J_ifc_nil rfl rfl rfl rfl ?_
    refine J_nil2 ?_
    refine E_then ?_
    refine R_cond_false rfl ?_
    refine R_skip ?_
    refine E_block_normal ?_
    refine E_then ?_
    refine R_region ?_
    refine J_ari64 rfl rfl rfl (by omega) rfl rfl ?_
    refine J_moveg rfl rfl rfl ?_
    refine J_nil1 ?_
    exact E_thenI fun a w he hs => ⟨⟨(2, ⟨d, fr, many, h.1, h.2.2, h.2.1, 0, false, false, [], [], V, k + 3⟩), by omega, fun h => (by cases h), fun h => (by cases h), fun _ => rfl, fun h => (by cases h)⟩, by simp, he.sub (by exact sub_cons rfl (sub_cons rfl (sub_cons rfl (sub_cons rfl sub_nil)))), by
      have hs2 := hs.gives (M := cl b28 172 _ :: cl c8 26 _ :: _) (by exact Gives.cons (Take.next Take.here) (Gives.last (Take.next Take.here)))
      exact hs2⟩
  · obtain rfl := h2 rfl
    refine R_seq ?_
    refine R_region ?_
    refine J_cmp rfl rfl rfl rfl rfl ?_
    refine J_nil1 ?_
    refine E_then ?_
    refine R_seq ?_
    refine R_cond_true rfl ?_
    refine R_skip ?_
    refine E_then ?_
    refine R_seq ?_
    refine R_block ?_
    refine R_seq ?_
    refine R_region ?_
    refine J_indexAddr rfl rfl (by omega) (by omega) rfl rfl ?_
    refine J_load rfl rfl rfl rfl ?_
    refine J_assign rfl rfl rfl ?_
    refine J_nil2 ?_
    refine E_then ?_
    refine R_seq ?_
    refine R_region ?_
    refine J_move rfl rfl rfl ?_
    have hb := wal_Open1 c8 b ⟨d, fr, many, h.1, h.2.2, h.2.1, 0, false, false, [], [], V, k + 3⟩ (by
      refine ⟨?_, ?_, ?_, ?_, ?_, ?_, ?_, ?_, ?_, ?_, ?_, ?_⟩ <;> dsimp only <;> first | omega | simp) (by simp) (by dsimp only; omega)
    refine J_callvr (us := []) (cs := [.pointer (some ⟨c8, 0, none⟩)]) rfl rfl rfl (hb _) (by exact Gives.cons (Take.next Take.here) (Gives.last (Take.next Take.here))) rfl rfl ?_
    refine J_assign rfl rfl rfl ?_
    refine J_nil2 ?_
    refine E_then ?_
    refine R_seq ?_
    refine R_region ?_
    refine J_move rfl rfl rfl ?_
    refine J_ifc_nil rfl rfl rfl rfl ?_
    refine J_nil2 ?_
    refine E_then ?_
    refine R_cond_false rfl ?_
    refine R_skip ?_
    refine E_block_normal ?_
    refine E_then ?_
    refine R_region ?_
    refine J_ari64 rfl rfl rfl (by omega) rfl rfl ?_
    refine J_moveg rfl rfl rfl ?_
    refine J_nil1 ?_
    exact E_thenI fun a w he hs => ⟨⟨(3, Wl.anew d fr many V k h), by omega, fun h => (by cases h), fun h => (by cases h), fun h => (by cases h), fun _ => rfl⟩, by simp, he.sub (by exact sub_cons rfl (sub_cons rfl (sub_cons rfl (sub_cons rfl sub_nil)))), by
      have hs2 := hs.gives (M := cl b28 172 _ :: cl c8 26 _ :: _) (by exact Gives.last (Take.next (Take.next Take.here)))
      exact hs2⟩
  · obtain rfl := h3 rfl
    refine R_seq ?_
    refine R_region ?_
    refine J_cmp rfl rfl rfl rfl rfl ?_
    refine J_nil1 ?_
    refine E_then ?_
    refine R_seq ?_
    refine R_cond_false rfl ?_
    refine R_exit ?_
    refine E_then_exit ?_
    refine E_then_exit ?_
    refine E_block_hit ?_
    refine E_then ?_
    refine R_seq ?_
    refine R_region ?_
    refine J_load rfl rfl rfl rfl ?_
    refine J_assign rfl rfl rfl ?_
    refine J_assign rfl rfl rfl ?_
    refine J_nil1 ?_
    refine E_then ?_
    refine R_ret ?_
    apply E_ret Tryz.results29
    · exact Res.tmp rfl (Res.tmp rfl (Res.nil))
    · intro w s
      exact ⟨b, rfl, s.gives (by exact Gives.cons (Take.next (Take.next Take.here)) (Gives.drop (Gives.drop Gives.refl)))⟩
end Go.Proofs.Sol

/- A log over a disk: staged, read, room. -/
namespace Go.Proofs.Sol
open Go Go.Proofs
set_option maxRecDepth 100000
set_option maxHeartbeats 4000000
set_option linter.unusedVariables false
set_option linter.unusedSimpArgs false
attribute [local irreducible] R J JW E D Fn Y clf mpI own Sat Exit.then Exit.inBlock bodyPost bodyPostM Code.wpIn wpL
theorem shut_walX {w : World} {b : Nat} {W : Wl} {p : Nat × Nat × Nat} {F : List HP} (h : Sat w (walH b W p :: reg p.1 W.d W.fr 2 :: reg p.2.1 W.d (W.fr + 2) (W.many - 2) :: shd p.2.2 W.K W.Lo :: dvk W.d W.V W.k :: F)) : Sat w (wal b W :: F) := shut_wal (p := p) h
theorem wal_Read (b : Nat) (W : Wl) (i : Int) (hk : W.k < 100000000) (F : List HP) : Fn Tryz.prog 30 [.pointer (some ⟨b, 0, none⟩), .int .i64 i] (wal b W :: F) (Pst (.tuple #[.string (S (W.rd i)), .int .i64 (W.rdE i)]) (wal b { W with k := W.k + 1 } :: F)) := by
  refine Fn.open_ (fun w h => open_wal h) ?_
  rintro p
  dsimp only [walL, List.cons_append, List.nil_append]
  refine Fn_enter Tryz.func30 rfl Tryz.ntmps30 rfl ?_
  refine R_seq ?_
  refine R_region ?_
  refine J_assign rfl rfl rfl ?_
  refine J_assign rfl rfl rfl ?_
  refine J_nil ?_
  refine E_then ?_
  refine R_seq ?_
  refine R_seq ?_
  refine R_region ?_
  refine J_move rfl rfl rfl ?_
  refine J_ptr_nil rfl rfl rfl rfl ?_
  refine J_nil2 ?_
  refine E_then ?_
  refine R_cond_false rfl ?_
  refine R_skip ?_
  refine E_then ?_
  refine R_seq ?_
  refine R_seq ?_
  refine R_region ?_
  refine J_move rfl rfl rfl ?_
  refine J_nilCheck rfl rfl rfl ?_
  refine J_fieldAddr0 rfl rfl rfl ?_
  refine J_load rfl rfl rfl rfl ?_
  refine J_move rfl rfl rfl ?_
  refine J_callr rfl (shadow_Get p.2.2 W.K W.Lo i _) (by exact Gives.last (Take.next (Take.next (Take.next Take.here)))) rfl rfl ?_
  unfold Wl.rd Wl.rdE
  cases hs : seen W.K W.Lo i with
  | some x =>
    simp only [lookR]
    refine J_move rfl rfl rfl ?_
    refine J_extract rfl rfl rfl rfl ?_
    refine J_extract rfl rfl rfl rfl ?_
    refine J_assign rfl rfl rfl ?_
    refine J_assign rfl rfl rfl ?_
    refine J_nil3 ?_
    refine E_then ?_
    refine R_seq ?_
    refine R_region ?_
    refine J_move rfl rfl rfl ?_
    refine J_nil1 ?_
    refine E_then ?_
    refine R_cond_true rfl ?_
    refine R_seq ?_
    refine R_region ?_
    refine J_move rfl rfl rfl ?_
    refine J_assign rfl rfl rfl ?_
    refine J_assign rfl rfl rfl ?_
    refine J_nil1 ?_
    refine E_then ?_
    refine R_ret ?_
    refine E_then_ret ?_
    apply E_ret Tryz.results30
    · exact Res.tmp rfl (Res.tmp rfl (Res.nil))
    · intro w s
      have s2 : Sat w (walH b W p :: reg p.1 W.d W.fr 2 :: reg p.2.1 W.d (W.fr + 2) (W.many - 2) :: shd p.2.2 W.K W.Lo :: dvk W.d W.V W.k :: F) := s.gives (by exact Gives.cons (Take.next Take.here) (Gives.cons (Take.next Take.here) (Gives.last (Take.next Take.here))))
      have s3 : Sat w (dvk W.d W.V (W.k + 1) :: walH b W p :: reg p.1 W.d W.fr 2 :: reg p.2.1 W.d (W.fr + 2) (W.many - 2) :: shd p.2.2 W.K W.Lo :: F) := dvk_le (Nat.le_succ _) (s2.gives (by exact Gives.last (Take.next (Take.next (Take.next (Take.next Take.here))))))
      have s4 : Sat w (walH b W p :: reg p.1 W.d W.fr 2 :: reg p.2.1 W.d (W.fr + 2) (W.many - 2) :: shd p.2.2 W.K W.Lo :: dvk W.d W.V (W.k + 1) :: F) := s3.gives (by exact Gives.cons (Take.next Take.here) (Gives.cons (Take.next Take.here) (Gives.cons (Take.next Take.here) (Gives.last (Take.next Take.here)))))
      exact ⟨rfl, shut_wal (p := p) s4⟩
  | none =>
    simp only [lookR]
    refine J_move rfl rfl rfl ?_
    refine J_extract rfl rfl rfl rfl ?_
    refine J_extract rfl rfl rfl rfl ?_
    refine J_assign rfl rfl rfl ?_
    refine J_assign rfl rfl rfl ?_
    refine J_nil3 ?_
    refine E_then ?_
    refine R_seq ?_
    refine R_region ?_
    refine J_move rfl rfl rfl ?_
    refine J_nil1 ?_
    refine E_then ?_
    refine R_cond_false rfl ?_
    refine R_skip ?_
    refine E_then ?_
    refine R_seq ?_
    refine R_region ?_
    refine J_move rfl rfl rfl ?_
    refine J_nilCheck rfl rfl rfl ?_
    refine J_fieldAddr0 rfl rfl rfl ?_
    refine J_load rfl rfl rfl rfl ?_
    refine J_move rfl rfl rfl ?_
    refine J_callr rfl (diskv_Read W.d W.V W.k i (by omega) _) (by exact Gives.last (Take.next (Take.next (Take.next (Take.next Take.here))))) rfl rfl ?_
    refine J_extract rfl rfl rfl rfl ?_
    refine J_extract rfl rfl rfl rfl ?_
    refine J_assign rfl rfl rfl ?_
    refine J_assign rfl rfl rfl ?_
    refine J_nil3 ?_
    refine E_then ?_
    refine R_ret ?_
    apply E_ret Tryz.results30
    · exact Res.tmp rfl (Res.tmp rfl (Res.nil))
    · intro w s
      have s4 : Sat w (walH b W p :: reg p.1 W.d W.fr 2 :: reg p.2.1 W.d (W.fr + 2) (W.many - 2) :: shd p.2.2 W.K W.Lo :: dvk W.d W.V (W.k + 1) :: F) := s.gives (by exact Gives.cons (Take.next (Take.next Take.here)) (Gives.cons (Take.next (Take.next Take.here)) (Gives.cons (Take.next (Take.next Take.here)) (Gives.last (Take.next Take.here)))))
      exact ⟨rfl, shut_wal (p := p) s4⟩
theorem wal_Read0 (i : Int) (F : List HP) : Fn Tryz.prog 30 [.pointer none, .int .i64 i] F (Pst (.tuple #[.string (S []), .int .i64 10]) F) := by
  refine Fn_enter Tryz.func30 rfl Tryz.ntmps30 rfl ?_
  refine R_seq ?_
  refine R_region ?_
  refine J_assign rfl rfl rfl ?_
  refine J_assign rfl rfl rfl ?_
  refine J_nil ?_
  refine E_then ?_
  refine R_seq ?_
  refine R_seq ?_
  refine R_region ?_
  refine J_move rfl rfl rfl ?_
  refine J_ptr_nil rfl rfl rfl rfl ?_
  refine J_nil2 ?_
  refine E_then ?_
  refine R_cond_true rfl ?_
  refine R_seq ?_
  refine R_region ?_
  refine J_assign rfl rfl rfl ?_
  refine J_assign rfl rfl rfl ?_
  refine J_nil ?_
  refine E_then ?_
  refine R_ret ?_
  refine E_then_ret ?_
  apply E_retP Tryz.results30
  · exact Res.tmp rfl (Res.tmp rfl (Res.nil))
  · exact Gives.refl
  rfl
theorem wal_Stage0 (i : Int) (s : Bytes) (F : List HP) : Fn Tryz.prog 24 [.pointer none, .int .i64 i, .string (S s)] F (Pst (.int .i64 10) F) := by
  refine Fn_enter Tryz.func24 rfl Tryz.ntmps24 rfl ?_
  refine R_seq ?_
  refine R_region ?_
  refine J_assign rfl rfl rfl ?_
  refine J_nil ?_
  refine E_then ?_
  refine R_seq ?_
  refine R_block ?_
  refine R_seq ?_
  refine R_region ?_
  refine J_move rfl rfl rfl ?_
  refine J_callr rfl (wal_Active0 _) (by exact Gives.refl) rfl rfl ?_
  refine J_un_not rfl rfl rfl ?_
  refine J_assign rfl rfl rfl ?_
  refine J_nil3 ?_
  refine E_then ?_
  refine R_cond_true rfl ?_
  refine R_seq ?_
  refine R_region ?_
  refine J_assign rfl rfl rfl ?_
  refine J_nil ?_
  refine E_then ?_
  refine R_ret ?_
  refine E_block_ret ?_
  refine E_then_ret ?_
  apply E_retP Tryz.results24
  · exact Res.tmp rfl (Res.nil)
  · exact Gives.refl
  rfl
theorem wal_RoomH (b : Nat) (W : Wl) (p : Nat × Nat × Nat) (hm : 24 ≤ W.many ∧ W.many ≤ 200) (hu : 0 ≤ W.used ∧ W.used ≤ 1000) (F : List HP) : Fn Tryz.prog 22 [.pointer (some ⟨b, 0, none⟩)] (walH b W p :: reg p.2.1 W.d (W.fr + 2) (W.many - 2) :: F) (Pst (.int .i64 W.room) (walH b W p :: reg p.2.1 W.d (W.fr + 2) (W.many - 2) :: F)) := by
  refine Fn_enter Tryz.func22 rfl Tryz.ntmps22 rfl ?_
  refine R_seq ?_
  refine R_region ?_
  refine J_assign rfl rfl rfl ?_
  refine J_nil ?_
  refine E_then ?_
  refine R_seq ?_
  refine R_seq ?_
  refine R_region ?_
  refine J_move rfl rfl rfl ?_
  refine J_ptr_nil rfl rfl rfl rfl ?_
  refine J_nil2 ?_
  refine E_then ?_
  refine R_cond_false rfl ?_
  refine R_skip ?_
  refine E_then ?_
  refine R_seq ?_
  refine R_draw ([walH b W p]) [10] (by kernel_rfl) ?_
  (refine D_lookP (i := 0) rfl (by kernel_rfl) (by exact NP_then NP_body) (by exact Y_move rfl) rfl rfl ?_)
  (refine D_lookP (i := 1) rfl (by kernel_rfl) (by exact NP_then NP_body) (by exact Y_nilCheck rfl) rfl rfl ?_)
  (refine D_lookP (i := 2) rfl (by kernel_rfl) (by exact NP_then NP_body) (by exact Y_fieldAddr0 rfl) rfl rfl ?_)
  (refine D_look (i := 3) rfl (by kernel_rfl) (by exact NP_then NP_body) (by exact Gives.cons Take.here Gives.nil) (by exact Y_load rfl rfl) rfl rfl ?_)
  (refine D_lookP (i := 5) rfl (by kernel_rfl) (by exact NP_then NP_body) (by exact Y_move rfl) rfl rfl ?_)
  (refine D_lookP (i := 6) rfl (by kernel_rfl) (by exact NP_then NP_body) (by exact Y_nilCheck rfl) rfl rfl ?_)
  (refine D_lookP (i := 7) rfl (by kernel_rfl) (by exact NP_then NP_body) (by exact Y_fieldAddr0 rfl) rfl rfl ?_)
  (refine D_look (i := 8) rfl (by kernel_rfl) (by exact NP_then NP_body) (by exact Gives.cons Take.here Gives.nil) (by exact Y_load rfl rfl) rfl rfl ?_)
  refine D_try1 (i := 4) (by kernel_rfl) rfl ?_
  refine J_callr rfl (region_Many p.2.1 W.d (W.fr + 2) (W.many - 2) _) (by exact Gives.last (Take.next Take.here)) rfl rfl ?_
  refine D_next (by exact Gives.cons (Take.next Take.here) Gives.nil) ?_
  (refine D_lookP (i := 9) rfl (by kernel_rfl) (by exact NP_then NP_body) (by exact Y_ari64 rfl rfl rfl (by omega)) rfl rfl ?_)
  refine D_try1 (i := 10) (by kernel_rfl) rfl ?_
  refine J_assign rfl rfl rfl ?_
  refine D_last (by kernel_rfl) ?_
  (first | refine D_end1 (by kernel_rfl) ?_ | refine D_end (by kernel_rfl) ?_)
  refine E_then ?_
  refine R_ret ?_
  apply E_retP Tryz.results22
  · exact Res.tmp rfl (Res.nil)
  · exact Gives.last (Take.next Take.here)
  rfl
theorem hasK_told {m : List (Int × Bytes)} (i : Int) : hasK m i = (told m).any fun p => p.1 == i := by
  unfold hasK
  rw [Bool.eq_iff_iff]
  constructor
  · intro h
    obtain ⟨s, hs⟩ := Option.isSome_iff_exists.1 h
    refine List.any_eq_true.2 ⟨(i, s), ?_, by simp⟩
    unfold told srt
    refine List.mem_map.2 ⟨i, (List.mergeSort_perm _ _).mem_iff.2 (List.mem_map.2 ⟨(i, s), mget_mem hs, rfl⟩), by rw [hs]; rfl⟩
  · intro h
    obtain ⟨p, hp, he⟩ := List.any_eq_true.1 h
    have he' : p.1 = i := by simpa using he
    have hm := told_mem hp
    cases hg : mget m i with
    | some s => rfl
    | none => exact absurd (List.mem_map.2 ⟨p, hm, he'⟩) (mget_none.1 hg)
end Go.Proofs.Sol

/- A log over a disk: what is staged. -/
namespace Go.Proofs.Sol
open Go Go.Proofs
set_option maxRecDepth 100000
set_option maxHeartbeats 4000000
set_option linter.unusedVariables false
set_option linter.unusedSimpArgs false
attribute [local irreducible] R J JW E D Fn Y clf mpI own Sat Exit.then Exit.inBlock bodyPost bodyPostM Code.wpIn wpL
/-- A fact. -/
def pur (φ : Prop) : HP := fun _ => φ
instance (φ : Prop) : Up (pur φ) := ⟨fun _ _ _ h => h⟩
theorem Sat.pur {w : World} {φ : Prop} {L : List HP} (s : Sat w (pur φ :: L)) : φ := s.hd
theorem gives_pur {φ : Prop} {L M : List HP} (h : φ) (g : Gives L M) : Gives L (pur φ :: M) := ⟨fun x s => ⟨fun _ => none, x, Split.empty x, h, g.out x s⟩⟩
theorem wal_stagedH (b : Nat) (W : Wl) (p : Nat × Nat × Nat) (i : Int) (hlo : W.Lo.length < 1000000) (F : List HP) :
    Fn Tryz.prog 99 [.pointer (some ⟨b, 0, none⟩), .int .i64 i] (walH b W p :: shd p.2.2 W.K W.Lo :: F) (Pst (.bool (hasK W.Lo i)) (walH b W p :: shd p.2.2 W.K W.Lo :: F)) := by
  refine Fn.open_ (M := fun x => shL p.2.2 W.K W.Lo x ++ (walH b W p :: F)) (fun w h => open_shd h.swap) ?_
  rintro ⟨bk, bl⟩
  dsimp only [shL, List.cons_append, List.nil_append]
  have htl : (toldV W.Lo).length = (told W.Lo).length := by simp [toldV]
  refine Fn_enterM Tryz.func99 rfl Tryz.ntmps99 rfl ?_
  refine R_seq ?_
  refine R_region ?_
  refine J_box rfl rfl rfl rfl ?_; intro
  refine J_alloc rfl rfl ?_; intro
  refine J_nil ?_
  refine E_then ?_
  refine R_seq ?_
  refine R_seq ?_
  refine R_region ?_
  refine J_move rfl rfl rfl ?_
  refine J_nilCheck rfl rfl rfl ?_
  refine J_fieldAddr0 rfl rfl rfl ?_
  refine J_load rfl rfl rfl rfl ?_
  rename_i c3 c4
  refine J_callm rfl (shadow_Fresh p.2.2 bk bl _) (by exact Gives.last (Take.next (Take.next Take.here))) rfl rfl ?_
  rintro v w ⟨t, rfl, s0⟩
  refine JW.of s0 ?_
  refine J_nil3 ?_
  refine E_then ?_
  refine R_block ?_
  refine R_rangeFunc (f := 208) (ps := [11, 12]) (fun j => [pur (∀ x ∈ (told W.Lo).take j, x.1 ≠ i), cl c3 3 [.int .i64 i], cl c4 4 [.bool false]]) [pur (hasK W.Lo i = true), cl c3 3 [.int .i64 i], cl c4 4 [.bool true]] (fun vs => [(5, vs.getD 0 undef), (3, .pointer (some ⟨c3, 0, none⟩)), (4, .pointer (some ⟨c4, 0, none⟩))])
    (shH p.2.2 bk bl :: mpI bk W.K :: walH b W p :: F) rfl (each_tells t bl W.Lo hlo)
    (Gives.trans (M := cl t 216 [.map (some bl)] :: mpI bl W.Lo :: pur (∀ x ∈ (told W.Lo).take 0, x.1 ≠ i) :: cl c3 3 [.int .i64 i] :: cl c4 4 [.bool false] :: shH p.2.2 bk bl :: mpI bk W.K :: walH b W p :: F) (Gives.cons (by with_reducible exact Take.here) (Gives.cons (by with_reducible exact Take.next (Take.next (Take.next (Take.next Take.here)))) (gives_pur (by simp) (by exact Gives.cons (Take.next (Take.next Take.here)) (Gives.last (Take.next Take.here)))))) ⟨fun _ s => s⟩) (toldV_two W.Lo) rfl ?_ ?_ ?_ ?_
  · intro l c j vs hi F'
    obtain ⟨x, hx, rfl⟩ := toldV_get hi
    dsimp only [List.cons_append, List.nil_append]
    refine R_region ?_
    refine J_assign rfl rfl rfl ?_
    refine J_nil ?_
    exact E_thenI fun a w he hs => ⟨he.sub (by exact sub_cons rfl (sub_cons rfl (sub_cons rfl sub_nil))), hs⟩
  · intro l c j vs hi hc F'
    obtain ⟨x, hx, rfl⟩ := toldV_get hi
    obtain ⟨hxl, hxe⟩ := List.getElem?_eq_some_iff.1 hx
    dsimp only [List.cons_append, List.nil_append]
    refine R.know (fun w s => s.drop.pur) fun hall => ?_
    refine R_block ?_
    refine R_seq ?_
    refine R_region ?_
    refine J_move rfl rfl rfl ?_
    refine J_load rfl rfl rfl rfl ?_
    refine J_cmp rfl rfl rfl rfl rfl ?_
    refine J_nil3 ?_
    refine E_then ?_
    refine R_cond rfl (fun hh => ?_) (fun hh => ?_)
    simp only [decide_eq_true_eq, decide_eq_false_iff_not, Bool.and_eq_true, Bool.or_eq_true, Bool.not_eq_true', Bool.not_eq_false', beq_iff_eq, bne_iff_ne, beq_eq_false_iff_ne, bne_eq_false_iff_eq, ne_eq, ge_iff_le, gt_iff_lt, Int.not_le, Int.not_lt, Bool.and_eq_false_iff, Bool.or_eq_false_iff, Decidable.not_not] at hh
    refine R_seq ?_
    refine R_region ?_
    refine J_store rfl rfl rfl rfl ?_
    refine J_nil ?_
    refine E_then ?_
    refine R_ret ?_
    refine E_block_ret ?_
    rotate_left
    simp only [decide_eq_true_eq, decide_eq_false_iff_not, Bool.and_eq_true, Bool.or_eq_true, Bool.not_eq_true', Bool.not_eq_false', beq_iff_eq, bne_iff_ne, beq_eq_false_iff_ne, bne_eq_false_iff_eq, ne_eq, ge_iff_le, gt_iff_lt, Int.not_le, Int.not_lt, Bool.and_eq_false_iff, Bool.or_eq_false_iff, Decidable.not_not] at hh
    refine R_skip ?_
    refine E_block_normal ?_
    rotate_left
    · refine E_roundR (by with_reducible exact Take.here) ?_
      exact Gives.trans (M := pur (hasK W.Lo i = true) :: cl c3 3 [.int .i64 i] :: cl c4 4 [.bool true] :: F') (gives_pur (by
        rw [hasK_told]
        exact List.any_eq_true.2 ⟨x, List.mem_of_getElem? hx, by simpa using hh⟩) (by exact Gives.cons (Take.next Take.here) (Gives.cons (Take.next Take.here) (Gives.drop Gives.refl)))) ⟨fun _ s => s⟩
    · refine E_roundN hc (by with_reducible exact Take.here) ?_
      exact Gives.trans (M := pur (∀ x ∈ (told W.Lo).take (j + 1), x.1 ≠ i) :: cl c3 3 [.int .i64 i] :: cl c4 4 [.bool false] :: F') (gives_pur (by
        intro y hy
        rw [List.take_succ_eq_append_getElem hxl, List.mem_append] at hy
        rcases hy with hy | hy
        · exact hall y hy
        · have : y = x := by simpa [hxe] using hy
          rw [this]; exact hh) (by exact Gives.cons (Take.next Take.here) (Gives.cons (Take.next Take.here) (Gives.drop Gives.refl)))) ⟨fun _ s => s⟩
  · intro r
    rw [htl, List.take_length]
    dsimp only [List.cons_append, List.nil_append]
    refine E.know (fun w s => s.drop.drop.drop.pur) fun hall => ?_
    have hf : hasK W.Lo i = false := by
      rw [hasK_told, List.any_eq_false]
      intro x hx
      simpa using hall x hx
    rw [hf]
    refine E_block_normal ?_
    refine E_then ?_
    refine R_seq ?_
    refine R_region ?_
    refine J_store rfl rfl rfl rfl ?_
    refine J_nil ?_
    refine E_then ?_
    refine R_ret ?_
    refine E.gives (M := pt r (.deferred (some [])) :: cl c4 4 [.bool false] :: shH p.2.2 bk bl :: mpI bk W.K :: mpI bl W.Lo :: walH b W p :: F) (by exact Gives.cons Take.here (Gives.cons (Take.next (Take.next (Take.next (Take.next Take.here)))) (Gives.cons (Take.next (Take.next (Take.next (Take.next Take.here)))) (Gives.cons (Take.next (Take.next (Take.next (Take.next Take.here)))) (Gives.cons (Take.next Take.here) (Gives.cons (Take.next (Take.next (Take.next Take.here))) (Gives.drop (Gives.drop (Gives.drop Gives.refl))))))))) ?_
    refine E_retM (R := cl c4 4 [.bool false] :: shH p.2.2 bk bl :: mpI bk W.K :: mpI bl W.Lo :: walH b W p :: F) Tryz.results99 Take.here (by exact Res_cell1 rfl rfl (Res.nil)) ?_
    intro w s
    have s3 := s.drop.drop.gives gives_shd
    exact ⟨rfl, s3.gives (by exact Gives.last (Take.next Take.here))⟩
  · intro r
    dsimp only [List.cons_append, List.nil_append]
    refine E.know (fun w s => s.drop.drop.drop.pur) fun hf => ?_
    rw [hf]
    refine E_block_ret ?_
    refine E_then_ret ?_
    refine E.gives (M := pt r (.deferred (some [])) :: cl c4 4 [.bool true] :: shH p.2.2 bk bl :: mpI bk W.K :: mpI bl W.Lo :: walH b W p :: F) (by exact Gives.cons Take.here (Gives.cons (Take.next (Take.next (Take.next (Take.next Take.here)))) (Gives.cons (Take.next (Take.next (Take.next (Take.next Take.here)))) (Gives.cons (Take.next (Take.next (Take.next (Take.next Take.here)))) (Gives.cons (Take.next Take.here) (Gives.cons (Take.next (Take.next (Take.next Take.here))) (Gives.drop (Gives.drop (Gives.drop Gives.refl))))))))) ?_
    refine E_retM (R := cl c4 4 [.bool true] :: shH p.2.2 bk bl :: mpI bk W.K :: mpI bl W.Lo :: walH b W p :: F) Tryz.results99 Take.here (by exact Res_cell1 rfl rfl (Res.nil)) ?_
    intro w s
    have s3 := s.drop.drop.gives gives_shd
    exact ⟨rfl, s3.gives (by exact Gives.last (Take.next Take.here))⟩
theorem wal_Stage (b : Nat) (W : Wl) (ok : WlOk W) (i : Int) (s : Bytes) (F : List HP) :
    Fn Tryz.prog 24 [.pointer (some ⟨b, 0, none⟩), .int .i64 i, .string (S s)] (wal b W :: F) (Pst (.int .i64 (W.stE i s)) (wal b (W.st i s) :: F)) := by
  have hfr := ok.fr
  have hn := ok.n
  have hm := ok.many
  have hlo := ok.lo
  refine Fn.open_ (fun w h => open_wal h) ?_
  rintro p
  dsimp only [walL, List.cons_append, List.nil_append]
  refine Fn_enter Tryz.func24 rfl Tryz.ntmps24 rfl ?_
  refine R_seq ?_
  refine R_region ?_
  refine J_assign rfl rfl rfl ?_
  refine J_nil ?_
  refine E_then ?_
  refine R_seq ?_
  refine R_block ?_
  refine R_seq ?_
  refine R_region ?_
  refine J_move rfl rfl rfl ?_
  refine J_callr rfl (wal_ActiveH b W p _) (by exact Gives.refl) rfl rfl ?_
  rcases Bool.eq_false_or_eq_true W.act with ha | ha
  · rw [ha]
    refine J_un_not rfl rfl rfl ?_
    refine J_assign rfl rfl rfl ?_
    refine J_nil3 ?_
    refine E_then ?_
    refine R_cond_false rfl ?_
    refine R_seq ?_
    refine R_region ?_
    refine J_move rfl rfl rfl ?_
    refine J_move rfl rfl rfl ?_
    refine J_callr rfl (wal_homeH b W p i (by omega) hn _) (by exact Gives.cons Take.here (Gives.last (Take.next (Take.next (Take.next Take.here))))) rfl rfl ?_
    rcases Bool.eq_false_or_eq_true (W.home i) with hho | hho
    · rw [hho]
      refine J_un_not rfl rfl rfl ?_
      refine J_assign rfl rfl rfl ?_
      refine J_nil3 ?_
      refine E_then ?_
      refine R_cond_false rfl ?_
      refine R_seq ?_
      refine R_region ?_
      refine J_move rfl rfl rfl ?_
      refine J_len_str rfl rfl rfl ?_
      refine J_cmp rfl rfl rfl rfl rfl ?_
      refine J_assign rfl rfl rfl ?_
      refine J_nil3 ?_
      refine E_then ?_
      refine R_cond rfl (fun hh => ?_) (fun hh => ?_)
      simp only [decide_eq_true_eq, decide_eq_false_iff_not, Bool.and_eq_true, Bool.or_eq_true, Bool.not_eq_true', Bool.not_eq_false', beq_iff_eq, bne_iff_ne, beq_eq_false_iff_ne, bne_eq_false_iff_eq, ne_eq, ge_iff_le, gt_iff_lt, Int.not_le, Int.not_lt, Bool.and_eq_false_iff, Bool.or_eq_false_iff, Decidable.not_not] at hh
      refine R_seq ?_
      refine R_region ?_
      refine J_assign rfl rfl rfl ?_
      refine J_nil ?_
      refine E_then ?_
      refine R_ret ?_
      refine E_block_ret ?_
      refine E_then_ret ?_
      rotate_left
      simp only [decide_eq_true_eq, decide_eq_false_iff_not, Bool.and_eq_true, Bool.or_eq_true, Bool.not_eq_true', Bool.not_eq_false', beq_iff_eq, bne_iff_ne, beq_eq_false_iff_ne, bne_eq_false_iff_eq, ne_eq, ge_iff_le, gt_iff_lt, Int.not_le, Int.not_lt, Bool.and_eq_false_iff, Bool.or_eq_false_iff, Decidable.not_not] at hh
      refine R_seq ?_
      refine R_region ?_
      refine J_move rfl rfl rfl ?_
      refine J_nilCheck rfl rfl rfl ?_
      refine J_fieldAddr0 rfl rfl rfl ?_
      refine J_load rfl rfl rfl rfl ?_
      rotate_left
      · have e : W.stE i s = 12 := by unfold Wl.stE; rw [ha, hho, if_neg (by simp), if_neg (by simp), if_pos (by omega)]
        have e2 : W.st i s = W := by unfold Wl.st; rw [if_neg (by rw [e]; simp)]
        rw [e, e2]
        apply E_ret Tryz.results24
        · exact Res.tmp rfl (Res.nil)
        · intro w s
          exact ⟨rfl, shut_walX (p := p) (s.gives (by exact Gives.cons Take.here (Gives.cons (Take.next Take.here) (Gives.cons (Take.next Take.here) (Gives.last (Take.next Take.here))))))⟩
      · refine J_callr rfl (shadow_Loose p.2.2 W.K W.Lo _) (by exact Gives.last (Take.next (Take.next (Take.next (Take.next Take.here))))) rfl rfl ?_
        refine J_cmp rfl rfl rfl rfl rfl ?_
        refine J_move rfl rfl rfl ?_
        refine J_guard_split rfl rfl (fun hh => ?_) (fun hh => ?_)
        simp only [decide_eq_true_eq, decide_eq_false_iff_not, Bool.and_eq_true, Bool.or_eq_true, Bool.not_eq_true', Bool.not_eq_false', beq_iff_eq, bne_iff_ne, beq_eq_false_iff_ne, bne_eq_false_iff_eq, ne_eq, ge_iff_le, gt_iff_lt, Int.not_le, Int.not_lt, Bool.and_eq_false_iff, Bool.or_eq_false_iff, Decidable.not_not] at hh
        refine J_guard rfl rfl rfl ?_
        refine J_move rfl rfl rfl ?_
        refine J_guard rfl rfl rfl ?_
        refine J_move rfl rfl rfl ?_
        refine J_guard rfl rfl rfl ?_
        rotate_left
        simp only [decide_eq_true_eq, decide_eq_false_iff_not, Bool.and_eq_true, Bool.or_eq_true, Bool.not_eq_true', Bool.not_eq_false', beq_iff_eq, bne_iff_ne, beq_eq_false_iff_ne, bne_eq_false_iff_eq, ne_eq, ge_iff_le, gt_iff_lt, Int.not_le, Int.not_lt, Bool.and_eq_false_iff, Bool.or_eq_false_iff, Decidable.not_not] at hh
        refine J_guard_not rfl rfl rfl rfl rfl rfl ?_
        refine J_guard_not rfl rfl rfl rfl rfl rfl ?_
        refine J_guard_not rfl rfl rfl rfl rfl rfl ?_
        refine J_guard_not rfl rfl rfl rfl rfl rfl ?_
        refine J_pick_false rfl rfl rfl rfl ?_
        refine J_assign rfl rfl rfl ?_
        refine J_nil3 ?_
        refine E_then ?_
        refine R_cond_false rfl ?_
        refine R_skip ?_
        refine E_block_normal ?_
        refine E_then ?_
        refine R_seq ?_
        refine R_region ?_
        refine J_move rfl rfl rfl ?_
        refine J_nilCheck rfl rfl rfl ?_
        refine J_fieldAddr0 rfl rfl rfl ?_
        refine J_load rfl rfl rfl rfl ?_
        refine J_move rfl rfl rfl ?_
        refine J_move rfl rfl rfl ?_
        rotate_left
        · refine J_callr rfl (wal_stagedH b W p i (by omega) _) (by exact Gives.last (Take.next Take.here)) rfl rfl ?_
          rcases Bool.eq_false_or_eq_true (hasK W.Lo i) with hk | hk
          · rw [hk]
            have e : W.stE i s = 0 := by unfold Wl.stE; rw [ha, hho, if_neg (by simp), if_neg (by simp), if_neg (by omega), if_neg (by simp [hk])]
            have e2 : W.st i s = { W with Lo := mput W.Lo i s } := by unfold Wl.st; rw [if_pos e]
            rw [e, e2]
            refine J_guard rfl rfl rfl ?_
            refine J_un_not rfl rfl rfl ?_
            refine J_pick_true rfl rfl rfl rfl ?_
            refine J_assign rfl rfl rfl ?_
            refine J_nil3 ?_
            refine E_then ?_
            refine R_cond_false rfl ?_
            refine R_skip ?_
            refine E_block_normal ?_
            refine E_then ?_
            refine R_seq ?_
            refine R_region ?_
            refine J_move rfl rfl rfl ?_
            refine J_nilCheck rfl rfl rfl ?_
            refine J_fieldAddr0 rfl rfl rfl ?_
            refine J_load rfl rfl rfl rfl ?_
            refine J_move rfl rfl rfl ?_
            refine J_move rfl rfl rfl ?_
            refine J_callr rfl (shadow_Put p.2.2 W.K W.Lo i s _) (by exact Gives.last (Take.next Take.here)) rfl rfl ?_
            refine J_nil3 ?_
            refine E_then ?_
            refine R_seq ?_
            refine R_region ?_
            refine J_assign rfl rfl rfl ?_
            refine J_nil ?_
            refine E_then ?_
            refine R_ret ?_
            apply E_ret Tryz.results24
            · exact Res.tmp rfl (Res.nil)
            · intro w s'
              have s2 : Sat w (walH b W p :: reg p.1 W.d W.fr 2 :: reg p.2.1 W.d (W.fr + 2) (W.many - 2) :: shd p.2.2 W.K (mput W.Lo i s) :: dvk W.d W.V W.k :: F) := s'.gives (by exact Gives.cons (Take.next Take.here) (Gives.cons (Take.next (Take.next Take.here)) (Gives.last (Take.next (Take.next Take.here)))))
              exact ⟨rfl, shut_wal (p := p) s2⟩
          · rw [hk]
            have e : W.stE i s = 6 := by unfold Wl.stE; rw [ha, hho, if_neg (by simp), if_neg (by simp), if_neg (by omega), if_pos ⟨by omega, hk⟩]
            have e2 : W.st i s = W := by unfold Wl.st; rw [if_neg (by rw [e]; simp)]
            rw [e, e2]
            refine J_guard rfl rfl rfl ?_
            refine J_un_not rfl rfl rfl ?_
            refine J_pick_true rfl rfl rfl rfl ?_
            refine J_assign rfl rfl rfl ?_
            refine J_nil3 ?_
            refine E_then ?_
            refine R_cond_true rfl ?_
            refine R_seq ?_
            refine R_region ?_
            refine J_assign rfl rfl rfl ?_
            refine J_nil ?_
            refine E_then ?_
            refine R_ret ?_
            refine E_block_ret ?_
            refine E_then_ret ?_
            apply E_ret Tryz.results24
            · exact Res.tmp rfl (Res.nil)
            · intro w s
              exact ⟨rfl, shut_walX (p := p) (s.gives (by exact Gives.cons Take.here (Gives.cons (Take.next (Take.next Take.here)) (Gives.last (Take.next (Take.next Take.here))))))⟩
        · have e : W.stE i s = 0 := by unfold Wl.stE; rw [ha, hho, if_neg (by simp), if_neg (by simp), if_neg (by omega), if_neg (by rintro ⟨h, _⟩; omega)]
          have e2 : W.st i s = { W with Lo := mput W.Lo i s } := by unfold Wl.st; rw [if_pos e]
          rw [e, e2]
          refine J_callr rfl (shadow_Put p.2.2 W.K W.Lo i s _) (by exact Gives.refl) rfl rfl ?_
          refine J_nil3 ?_
          refine E_then ?_
          refine R_seq ?_
          refine R_region ?_
          refine J_assign rfl rfl rfl ?_
          refine J_nil ?_
          refine E_then ?_
          refine R_ret ?_
          apply E_ret Tryz.results24
          · exact Res.tmp rfl (Res.nil)
          · intro w s'
            have s2 : Sat w (walH b W p :: reg p.1 W.d W.fr 2 :: reg p.2.1 W.d (W.fr + 2) (W.many - 2) :: shd p.2.2 W.K (mput W.Lo i s) :: dvk W.d W.V W.k :: F) := s'.gives (by exact Gives.cons (Take.next Take.here) (Gives.cons (Take.next (Take.next Take.here)) (Gives.last (Take.next (Take.next Take.here)))))
            exact ⟨rfl, shut_wal (p := p) s2⟩
    · rw [hho]
      have e : W.stE i s = 3 := by unfold Wl.stE; rw [ha, hho, if_neg (by simp), if_pos rfl]
      have e2 : W.st i s = W := by unfold Wl.st; rw [if_neg (by rw [e]; simp)]
      rw [e, e2]
      refine J_un_not rfl rfl rfl ?_
      refine J_assign rfl rfl rfl ?_
      refine J_nil3 ?_
      refine E_then ?_
      refine R_cond_true rfl ?_
      refine R_seq ?_
      refine R_region ?_
      refine J_assign rfl rfl rfl ?_
      refine J_nil ?_
      refine E_then ?_
      refine R_ret ?_
      refine E_block_ret ?_
      refine E_then_ret ?_
      apply E_ret Tryz.results24
      · exact Res.tmp rfl (Res.nil)
      · intro w s
        exact ⟨rfl, shut_walX (p := p) (s.gives (by exact Gives.cons Take.here (Gives.cons (Take.next Take.here) (Gives.cons (Take.next Take.here) (Gives.last (Take.next Take.here))))))⟩
  · rw [ha]
    have e : W.stE i s = 10 := by unfold Wl.stE; rw [if_pos ha]
    have e2 : W.st i s = W := by unfold Wl.st; rw [if_neg (by rw [e]; simp)]
    rw [e, e2]
    refine J_un_not rfl rfl rfl ?_
    refine J_assign rfl rfl rfl ?_
    refine J_nil3 ?_
    refine E_then ?_
    refine R_cond_true rfl ?_
    refine R_seq ?_
    refine R_region ?_
    refine J_assign rfl rfl rfl ?_
    refine J_nil ?_
    refine E_then ?_
    refine R_ret ?_
    refine E_block_ret ?_
    refine E_then_ret ?_
    apply E_ret Tryz.results24
    · exact Res.tmp rfl (Res.nil)
    · intro w s
      exact ⟨rfl, shut_walX (p := p) (s.gives (by exact Gives.refl))⟩
end Go.Proofs.Sol

/- strings.Builder: its text, taken again and again. -/
namespace Go.Proofs.Sol
open Go Go.Proofs
set_option maxRecDepth 100000
set_option maxHeartbeats 4000000
set_option linter.unusedVariables false
set_option linter.unusedSimpArgs false
attribute [local irreducible] R J JW E D Fn Y clf mpI own Sat Exit.then Exit.inBlock bodyPost bodyPostM Code.wpIn wpL
/-- What a builder's slice holds; the bytes may be held fast. -/
def rowz (v : Value) (s : List UInt8) : HP := fun h => (capOk v = true ∧ v = .slice none 0 0 ∧ s = []) ∨ ∃ b len cap sp m, v = .slice (some ⟨b, 0, none⟩) len cap ∧ cap ≠ 0 ∧ s.length = len ∧ m ≤ len ∧ clf b 5 (s.map byv ++ sp) 0 m h
abbrev bldz (b : Nat) (s : List UInt8) : HP := exi fun p : Bool × Value => stp [bldH b p.1 p.2, rowz p.2 s]
theorem open_bldz {w : World} {b : Nat} {s : List UInt8} {L : List HP} (h : Sat w (bldz b s :: L)) : ∃ p : Bool × Value, Sat w (bldH b p.1 p.2 :: rowz p.2 s :: L) := by
  obtain ⟨p, h⟩ := h.exi
  exact ⟨p, h.open_⟩
theorem shut_bldz {w : World} {b : Nat} {q : Bool} {v : Value} {s : List UInt8} {L : List HP} (h : Sat w (bldH b q v :: rowz v s :: L)) : Sat w (bldz b s :: L) :=
  (Sat.shut (M := [bldH b q v, rowz v s]) h).conv fun _ e => ⟨(q, v), e⟩
theorem bldz_of {w : World} {b : Nat} {s : List UInt8} {L : List HP} (h : Sat w (bldr b s :: L)) : Sat w (bldz b s :: L) := by
  obtain ⟨⟨⟨q, v⟩, hc⟩, h⟩ := open_bldr h
  dsimp only at hc h
  refine shut_bldz (q := q) (v := v) (h.swap.conv ?_).swap
  intro h e
  unfold own at e
  rcases e with ⟨rfl, h0⟩ | ⟨b2, len, cap, sp, rfl, h2, h3, h4⟩
  · exact .inl ⟨hc, rfl, by simpa using h0⟩
  · exact .inr ⟨b2, len, cap, sp, 0, rfl, by simpa [capOk] using hc, by simpa using h2, by omega, h4⟩
theorem Builder_StringZ (b : Nat) (s : List UInt8) (hl : s.length ≤ 100000000000000) (F : List HP) : Fn Tryz.prog 119 [.pointer (some ⟨b, 0, none⟩)] (bldz b s :: F) (Pst (.string (S s)) (bldz b s :: F)) := by
  refine Fn_at fun w h => ?_
  obtain ⟨⟨q, v⟩, h⟩ := open_bldz h
  dsimp only at h
  have hw := h.swap
  have hw2 : Sat w (exi (fun x : (PLift (v = .slice none 0 0 ∧ s = [] ∧ capOk v = true)) ⊕ (Nat × Nat × Nat × List Value × Nat) => match x with
      | .inl _ => stp []
      | .inr (b2, len, cap, sp, m) => fun h => v = .slice (some ⟨b2, 0, none⟩) len cap ∧ cap ≠ 0 ∧ s.length = len ∧ m ≤ len ∧ clf b2 5 (s.map byv ++ sp) 0 m h) :: bldH b q v :: F) := hw.conv fun h e => by
    rcases e with ⟨h1, h2, h3⟩ | ⟨b2, len, cap, sp, m, h1, h2, h3, h4, h5⟩
    · exact ⟨.inl ⟨h2, h3, h1⟩, trivial⟩
    · exact ⟨.inr (b2, len, cap, sp, m), h1, h2, h3, h4, h5⟩
  obtain ⟨x, hx⟩ := hw2.exi
  cases x with
  | inl y =>
    obtain ⟨rfl, rfl, hc⟩ := y.down
    refine ⟨_, hx.drop, ?_⟩
    refine Fn_enter Tryz.func119 rfl Tryz.ntmps119 rfl ?_
    refine R_seq ?_
    refine R_region ?_
    refine J_assign rfl rfl rfl ?_
    refine J_nil ?_
    refine E_then ?_
    refine R_seq ?_
    refine R_draw0 [10, 11] (by kernel_rfl) ?_
    (refine D_lookP (i := 0) rfl (by kernel_rfl) (by exact NP_then NP_body) (by exact Y_move rfl) rfl rfl ?_)
    (refine D_lookP (i := 1) rfl (by kernel_rfl) (by exact NP_then NP_body) (by exact Y_nilCheck rfl) rfl rfl ?_)
    (refine D_lookP (i := 2) rfl (by kernel_rfl) (by exact NP_then NP_body) (by exact Y_fieldAddr0 rfl) rfl rfl ?_)
    (refine D_look (i := 3) rfl (by kernel_rfl) (by exact NP_then NP_body) (by exact Gives.refl) (by exact Y_load rfl rfl) rfl rfl ?_)
    (refine D_look (i := 4) rfl (by kernel_rfl) (by exact NP_then NP_body) (by exact Gives.refl) (by exact Y_sliceData0 rfl) rfl rfl ?_)
    (refine D_lookP (i := 5) rfl (by kernel_rfl) (by exact NP_then NP_body) (by exact Y_move rfl) rfl rfl ?_)
    (refine D_lookP (i := 6) rfl (by kernel_rfl) (by exact NP_then NP_body) (by exact Y_nilCheck rfl) rfl rfl ?_)
    (refine D_lookP (i := 7) rfl (by kernel_rfl) (by exact NP_then NP_body) (by exact Y_fieldAddr0 rfl) rfl rfl ?_)
    (refine D_look (i := 8) rfl (by kernel_rfl) (by exact NP_then NP_body) (by exact Gives.refl) (by exact Y_load rfl rfl) rfl rfl ?_)
    (refine D_look (i := 9) rfl (by kernel_rfl) (by exact NP_then NP_body) (by exact Gives.refl) (by exact Y_len_slice rfl) rfl rfl ?_)
    refine D_try1 (i := 10) (by kernel_rfl) rfl ?_
    refine J_pure (Y_string0 rfl rfl) rfl rfl ?_
    refine D_last (by kernel_rfl) ?_
    refine D_try1 (i := 11) (by kernel_rfl) rfl ?_
    refine J_assign rfl rfl rfl ?_
    refine D_last (by kernel_rfl) ?_
    (first | refine D_end1 (by kernel_rfl) ?_ | refine D_end (by kernel_rfl) ?_)
    refine E_then ?_
    refine R_ret ?_
    apply E_ret Tryz.results119
    · exact Res.tmp rfl (Res.nil)
    · intro w s
      refine ⟨rfl, shut_bldz (q := q) (v := .slice none 0 0) (Sat.swap ?_)⟩
      unfold Sat at s ⊢
      exact ⟨fun _ => none, hp w, Split.empty _, .inl ⟨hc, rfl, rfl⟩, s⟩
  | inr y =>
    obtain ⟨b2, len, cap, sp, m⟩ := y
    unfold Sat at hx
    obtain ⟨h1, h2, hs, h3, h4⟩ := hx
    obtain ⟨rfl, hcap, hlen, hm, h5⟩ := h3
    subst hlen
    refine ⟨clf b2 5 (s.map byv ++ sp) 0 m :: bldH b q (.slice (some ⟨b2, 0, none⟩) s.length cap) :: F, by unfold Sat; exact ⟨h1, h2, hs, h5, h4⟩, ?_⟩
    refine Fn_enter Tryz.func119 rfl Tryz.ntmps119 rfl ?_
    refine R_seq ?_
    refine R_region ?_
    refine J_assign rfl rfl rfl ?_
    refine J_nil ?_
    refine E_then ?_
    refine R_seq ?_
    refine R_draw (bldH b q (.slice (some ⟨b2, 0, none⟩) s.length cap) :: F) [10, 11] (by kernel_rfl) ?_
    (refine D_lookP (i := 0) rfl (by kernel_rfl) (by exact NP_then NP_body) (by exact Y_move rfl) rfl rfl ?_)
    (refine D_lookP (i := 1) rfl (by kernel_rfl) (by exact NP_then NP_body) (by exact Y_nilCheck rfl) rfl rfl ?_)
    (refine D_lookP (i := 2) rfl (by kernel_rfl) (by exact NP_then NP_body) (by exact Y_fieldAddr0 rfl) rfl rfl ?_)
    (refine D_look (i := 3) rfl (by kernel_rfl) (by exact NP_then NP_body) (by exact Gives.cons (Take.next Take.here) (Gives.drop Gives.refl)) (by exact Y_load rfl rfl) rfl rfl ?_)
    (refine D_look (i := 4) rfl (by kernel_rfl) (by exact NP_then NP_body) (by exact Gives.cons (Take.next Take.here) (Gives.drop Gives.refl)) (by exact Y_sliceData rfl (by omega)) rfl rfl ?_)
    (refine D_lookP (i := 5) rfl (by kernel_rfl) (by exact NP_then NP_body) (by exact Y_move rfl) rfl rfl ?_)
    (refine D_lookP (i := 6) rfl (by kernel_rfl) (by exact NP_then NP_body) (by exact Y_nilCheck rfl) rfl rfl ?_)
    (refine D_lookP (i := 7) rfl (by kernel_rfl) (by exact NP_then NP_body) (by exact Y_fieldAddr0 rfl) rfl rfl ?_)
    (refine D_look (i := 8) rfl (by kernel_rfl) (by exact NP_then NP_body) (by exact Gives.cons (Take.next Take.here) (Gives.drop Gives.refl)) (by exact Y_load rfl rfl) rfl rfl ?_)
    (refine D_look (i := 9) rfl (by kernel_rfl) (by exact NP_then NP_body) (by exact Gives.cons (Take.next Take.here) (Gives.drop Gives.refl)) (by exact Y_len_slice rfl) rfl rfl ?_)
    refine D_try1 (i := 10) (by kernel_rfl) rfl ?_
    by_cases h0 : s = []
    · subst h0
      refine J_pure (Y_string0 rfl rfl) rfl rfl ?_
      refine D_last (by kernel_rfl) ?_
      refine D_try1 (i := 11) (by kernel_rfl) rfl ?_
      refine J_assign rfl rfl rfl ?_
      refine D_last (by kernel_rfl) ?_
      (first | refine D_end1 (by kernel_rfl) ?_ | refine D_end (by kernel_rfl) ?_)
      refine E_then ?_
      refine R_ret ?_
      apply E_ret Tryz.results119
      · exact Res.tmp rfl (Res.nil)
      · intro w s
        refine ⟨rfl, shut_bldz (q := q) (v := .slice (some ⟨b2, 0, none⟩) 0 cap) ?_⟩
        exact (s.conv fun h e => .inr ⟨b2, 0, cap, sp, m, rfl, hcap, rfl, hm, e⟩).swap
    · refine J_stringK (cs := s) (sp := sp) (m := m) rfl rfl h0 (by omega) (by with_reducible exact Take.here) hm rfl rfl ?_
      refine D_last (by kernel_rfl) ?_
      refine D_try1 (i := 11) (by kernel_rfl) rfl ?_
      refine J_assign rfl rfl rfl ?_
      refine D_last (by kernel_rfl) ?_
      (first | refine D_end1 (by kernel_rfl) ?_ | refine D_end (by kernel_rfl) ?_)
      refine E_then ?_
      refine R_ret ?_
      apply E_ret Tryz.results119
      · exact Res.tmp rfl (Res.nil)
      · intro w s'
        refine ⟨rfl, shut_bldz (q := q) (v := .slice (some ⟨b2, 0, none⟩) s.length cap) ?_⟩
        exact (s'.conv fun h e => .inr ⟨b2, s.length, cap, sp, s.length, rfl, hcap, rfl, Nat.le_refl _, e⟩).swap
end Go.Proofs.Sol

/- Records of a log, as bytes. -/
namespace Go.Proofs.Sol
open Go Go.Proofs
set_option maxRecDepth 100000
set_option maxHeartbeats 4000000
set_option linter.unusedVariables false
set_option linter.unusedSimpArgs false
attribute [local irreducible] R J JW E D Fn Y clf mpI own Sat Exit.then Exit.inBlock bodyPost bodyPostM Code.wpIn wpL
def recTp (q by_ : Int) (n : Nat) (l : List (Int × Bytes)) (j : Nat) : Bytes := recTold q by_ n (l.take j)
theorem recTp_succ {q by_ : Int} {n : Nat} {l : List (Int × Bytes)} {j : Nat} (h : j < l.length) : recTp q by_ n l (j + 1) = putF (recTp q by_ n l j) l[j].1 2 := by
  unfold recTp recTold
  rw [List.take_succ_eq_append_getElem h, List.foldl_append]; rfl
theorem recAll_succ {by_ : Int} {l : List (Int × Bytes)} {j : Nat} (h : j < l.length) : recAll by_ (l.take (j + 1)) = recAll by_ (l.take j) ++ turnB l[j].2 by_ := by
  unfold recAll
  rw [List.take_succ_eq_append_getElem h, List.flatMap_append]; simp
theorem logrec_Put (q : Int) (b2 cap : Nat) (l : List (Int × Bytes)) (sp : List Value) (hcap : l.length ≤ cap) (h : RecOk l) (hne : l ≠ []) (hq : 0 ≤ q ∧ q < 281474976710656) (F : List HP) :
    Fn Tryz.prog 102 [.int .i64 q, .slice (some ⟨b2, 0, none⟩) l.length cap] (cl b2 164 (secs l ++ sp) :: F)
      (fun v w => v = .tuple #[.string (S (recB q (turnOf l) l)), .int .i64 0] ∧ turnOf l ≤ 16 ∧ Sat w (cl b2 164 (secs l ++ sp) :: F)) := by
  have hm := h.many
  refine Fn_enter Tryz.func102 rfl Tryz.ntmps102 rfl ?_
  refine R_seq ?_
  refine R_region ?_
  refine J_assign rfl rfl rfl ?_
  refine J_assign rfl rfl rfl ?_
  refine J_nil ?_
  refine E_then ?_
  refine R_seq ?_
  refine R_seq ?_
  refine R_region ?_
  refine J_move rfl rfl rfl ?_
  refine J_cmp rfl rfl rfl rfl rfl ?_
  refine J_move rfl rfl rfl ?_
  refine J_guard_split rfl rfl (fun hh => ?_) (fun hh => ?_)
  simp only [decide_eq_true_eq, decide_eq_false_iff_not, Bool.and_eq_true, Bool.or_eq_true, Bool.not_eq_true', Bool.not_eq_false', beq_iff_eq, bne_iff_ne, beq_eq_false_iff_ne, bne_eq_false_iff_eq, ne_eq, ge_iff_le, gt_iff_lt, Int.not_le, Int.not_lt, Bool.and_eq_false_iff, Bool.or_eq_false_iff, Decidable.not_not] at hh
  exfalso; omega
  simp only [decide_eq_true_eq, decide_eq_false_iff_not, Bool.and_eq_true, Bool.or_eq_true, Bool.not_eq_true', Bool.not_eq_false', beq_iff_eq, bne_iff_ne, beq_eq_false_iff_ne, bne_eq_false_iff_eq, ne_eq, ge_iff_le, gt_iff_lt, Int.not_le, Int.not_lt, Bool.and_eq_false_iff, Bool.or_eq_false_iff, Decidable.not_not] at hh
  refine J_guard rfl rfl rfl ?_
  refine J_move rfl rfl rfl ?_
  refine J_guard rfl rfl rfl ?_
  refine J_cmp rfl rfl rfl rfl rfl ?_
  refine J_pick_false rfl rfl rfl rfl ?_
  refine J_nil3 ?_
  refine E_then ?_
  refine R_cond rfl (fun hh => ?_) (fun hh => ?_)
  simp only [decide_eq_true_eq, decide_eq_false_iff_not, Bool.and_eq_true, Bool.or_eq_true, Bool.not_eq_true', Bool.not_eq_false', beq_iff_eq, bne_iff_ne, beq_eq_false_iff_ne, bne_eq_false_iff_eq, ne_eq, ge_iff_le, gt_iff_lt, Int.not_le, Int.not_lt, Bool.and_eq_false_iff, Bool.or_eq_false_iff, Decidable.not_not] at hh
  exfalso; omega
  simp only [decide_eq_true_eq, decide_eq_false_iff_not, Bool.and_eq_true, Bool.or_eq_true, Bool.not_eq_true', Bool.not_eq_false', beq_iff_eq, bne_iff_ne, beq_eq_false_iff_ne, bne_eq_false_iff_eq, ne_eq, ge_iff_le, gt_iff_lt, Int.not_le, Int.not_lt, Bool.and_eq_false_iff, Bool.or_eq_false_iff, Decidable.not_not] at hh
  refine R_skip ?_
  refine E_then ?_
  refine R_seq ?_
  refine R_seq ?_
  refine R_region ?_
  refine J_move rfl rfl rfl ?_
  refine J_callr rfl (logrec_Check b2 cap l sp hcap h hne _) (by exact Gives.refl) rfl rfl ?_
  refine J_assign rfl rfl rfl ?_
  refine J_nil2 ?_
  refine E_then ?_
  refine R_seq ?_
  refine R_region ?_
  refine J_move rfl rfl rfl ?_
  refine J_cmp rfl rfl rfl rfl rfl ?_
  refine J_nil2 ?_
  refine E_then ?_
  refine R_cond_false rfl ?_
  refine R_skip ?_
  refine E_then ?_
  refine R_seq ?_
  refine R_region ?_
  refine J_move rfl rfl rfl ?_
  refine J_callm rfl (logrec_turn b2 cap l sp h _) Gives.refl rfl rfl ?_
  rintro v w ⟨rfl, ht, s0⟩
  refine JW.of s0 ?_
  generalize hby : turnOf l = y at ht ⊢
  refine J_assign rfl rfl rfl ?_
  refine J_nil2 ?_
  refine E_then ?_
  refine R_seq ?_
  refine R_region ?_
  refine J_move rfl rfl rfl ?_
  refine J_callr rfl (field_Put [82] q 6 (by simp) (by omega) _) (by exact Gives.refl) rfl rfl ?_
  have l1 := putF_length [82] q 6
  simp at l1
  refine J_move rfl rfl rfl ?_
  refine J_len_slice rfl rfl rfl ?_
  refine J_callr rfl (field_Put _ (l.length : Int) 1 (by omega) (by omega) _) (by exact Gives.refl) rfl rfl ?_
  have l2 := putF_length (putF [82] q 6) (l.length : Int) 1
  refine J_move rfl rfl rfl ?_
  refine J_callr rfl (field_Put _ (y : Int) 1 (by omega) (by omega) _) (by exact Gives.refl) rfl rfl ?_
  refine J_assign rfl rfl rfl ?_
  refine J_nil3 ?_
  refine E_then ?_
  refine R_seq ?_
  refine R_region ?_
  refine J_alloc rfl rfl ?_; intro
  refine J_nil ?_
  refine E_then ?_
  refine R_seq ?_
  refine R_seq ?_
  refine R_region ?_
  refine J_move rfl rfl rfl ?_
  refine J_len_slice rfl rfl rfl ?_
  refine J_move rfl rfl rfl ?_
  refine J_nil3 ?_
  refine E_then ?_
  refine R_block ?_
  rename_i b
  refine R.open_ (α := Unit) (M := fun _ => bldr b [] :: cl b2 164 (secs l ++ sp) :: F) (fun w s => ⟨(), new_bldr s⟩) ?_
  rintro ⟨⟩
  skip
  refine R_loop (X := {j : Nat // j ≤ l.length}) (fun j => [(34, .int .i64 (j.1 : Int)), (33, .int .i64 (l.length : Int)), (32, .slice (some ⟨b2, 0, none⟩) l.length cap), (9, .pointer (some ⟨b, 0, none⟩)), (7, .int .i64 (y : Int)), (8, .string (S (recTp q y l.length l j.1)))])
    (fun j => bldr b (recAll y (l.take j.1)) :: cl b2 164 (secs l ++ sp) :: F) (fun j => l.length - j.1) ⟨0, by omega⟩ (by exact sub_cons rfl (sub_cons rfl (sub_cons rfl (sub_cons rfl (sub_cons rfl (sub_cons rfl sub_nil)))))) Gives.refl ?_
  rintro ⟨j, hj⟩
  dsimp only
  have lT : (recTp q y l.length l j).length = 9 + 2 * (l.take j).length := recTold_length hq (by omega) (by omega) (fun p hp => h.at_ p (List.mem_of_mem_take hp))
  have lA : (recAll y (l.take j)).length = 64 * (l.take j).length := recAll_length _ fun p hp => h.data p (List.mem_of_mem_take hp)
  have lj : (l.take j).length ≤ 16 := by simp; omega
  refine R_seq ?_
  refine R_region ?_
  refine J_cmp rfl rfl rfl rfl rfl ?_
  refine J_nil1 ?_
  refine E_then ?_
  refine R_seq ?_
  refine R_cond rfl (fun hh => ?_) (fun hh => ?_)
  simp only [decide_eq_true_eq, decide_eq_false_iff_not, Bool.and_eq_true, Bool.or_eq_true, Bool.not_eq_true', Bool.not_eq_false', beq_iff_eq, bne_iff_ne, beq_eq_false_iff_ne, bne_eq_false_iff_eq, ne_eq, ge_iff_le, gt_iff_lt, Int.not_le, Int.not_lt, Bool.and_eq_false_iff, Bool.or_eq_false_iff, Decidable.not_not] at hh
  refine R_skip ?_
  refine E_then ?_
  refine R_seq ?_
  refine R_block ?_
  refine R_seq ?_
  refine R_region ?_
  refine J_indexAddr rfl rfl (by omega) (by omega) rfl rfl ?_
  rotate_left
  simp only [decide_eq_true_eq, decide_eq_false_iff_not, Bool.and_eq_true, Bool.or_eq_true, Bool.not_eq_true', Bool.not_eq_false', beq_iff_eq, bne_iff_ne, beq_eq_false_iff_ne, bne_eq_false_iff_eq, ne_eq, ge_iff_le, gt_iff_lt, Int.not_le, Int.not_lt, Bool.and_eq_false_iff, Bool.or_eq_false_iff, Decidable.not_not] at hh
  refine R_exit ?_
  refine E_then_exit ?_
  refine E_then_exit ?_
  refine E_block_hit ?_
  refine E_then ?_
  refine R_seq ?_
  refine R_region ?_
  refine J_move rfl rfl rfl ?_
  refine J_move rfl rfl rfl ?_
  rotate_left
  · have hlt : j < l.length := by omega
    have e1 : 0 + (j : Int).toNat * 2 = j * 2 := by omega
    rw [e1]
    refine J_loadAX (us := [.int .i64 l[j].1, .string (S l[j].2)]) rfl (by simp [secs_length]; omega) (by
      have := secs_drop l j hlt
      rw [List.drop_append_of_le_length (by simp [secs_length]; omega), List.take_append_of_le_length (by simp [secs_length]; omega)]
      exact this) rfl rfl ?_
    have ha := h.at_ l[j] (List.getElem_mem hlt)
    have hd := h.data l[j] (List.getElem_mem hlt)
    have et := recTp_succ (q := q) (by_ := y) (n := l.length) hlt
    have er := recAll_succ (by_ := y) hlt
    generalize hx : l[j] = x at ha hd et er ⊢
    refine J_alloc rfl rfl ?_; intro
    refine J_storeA rfl rfl rfl rfl rfl rfl ?_
    refine J_nil2 ?_
    refine E_then ?_
    refine R_seq ?_
    refine R_region ?_
    refine J_move rfl rfl rfl ?_
    refine J_fieldAddr0 rfl rfl rfl ?_
    refine J_load rfl rfl rfl rfl ?_
    refine J_callr rfl (field_Put (recTp q y l.length l j) x.1 2 (by omega) (by omega) _) (by exact Gives.refl) rfl rfl ?_
    refine J_assign rfl rfl rfl ?_
    refine J_nil3 ?_
    refine E_then ?_
    refine R_region ?_
    refine J_fieldAddr0 rfl rfl rfl ?_
    refine J_load rfl rfl rfl rfl ?_
    refine J_move rfl rfl rfl ?_
    refine J_callr rfl (logrec_turned x.2 hd y (by omega) _) (by exact Gives.refl) rfl rfl ?_
    have lt := turnB_length (by_ := y) hd
    skip
    refine J_callr rfl (Builder_WriteString b (recAll y (l.take j)) (turnB x.2 y) (by omega) _) (by exact Gives.last (Take.next Take.here)) rfl rfl ?_
    refine J_nil3 ?_
    refine E_block_normal ?_
    refine E_then ?_
    refine R_region ?_
    refine J_ari64 rfl rfl rfl (by omega) rfl rfl ?_
    refine J_moveg rfl rfl rfl ?_
    refine J_nil1 ?_
    rw [← et, ← er]
    exact E_thenI fun a w he hs => ⟨⟨j + 1, by omega⟩, by simp; omega, he.sub (by exact sub_cons rfl (sub_cons rfl (sub_cons rfl (sub_cons rfl (sub_cons rfl (sub_cons rfl sub_nil)))))), hs.gives (by exact Gives.cons Take.here (Gives.cons (Take.next Take.here) (Gives.drop Gives.refl)))⟩
  · have ej : j = l.length := by omega
    subst ej
    have e2 : recTp q y l.length l l.length = recTold q y l.length l := by unfold recTp; rw [List.take_length]
    rw [List.take_length] at lA lT ⊢
    rw [e2] at lT ⊢
    generalize hT : recTold q y l.length l = T at lT ⊢
    generalize hA : recAll y l = A at lA ⊢
    refine J.open_ (α := Unit) (M := fun _ => bldz b A :: cl b2 164 (secs l ++ sp) :: F) (fun w s => ⟨(), bldz_of s⟩) ?_
    rintro ⟨⟩
    skip
    refine J_callr rfl (Builder_StringZ b A (by omega) _) (by exact Gives.refl) rfl rfl ?_
    skip
    refine J_callr rfl (logrec_tail T A (by omega) _) (by exact Gives.refl) rfl rfl ?_
    have lt := tail_length (T ++ A)
    refine J_str_add rfl rfl (by omega) rfl rfl ?_
    refine J_callr rfl (region_Pad (T ++ tail (T ++ A)) (by simp; omega) _) (by exact Gives.refl) rfl rfl ?_
    have lp : (pad (T ++ tail (T ++ A))).length = 64 := pad_len (by simp; omega)
    skip
    refine J_callr rfl (Builder_StringZ b A (by omega) _) (by exact Gives.refl) rfl rfl ?_
    refine J_str_add rfl rfl (by omega) rfl rfl ?_
    refine J_assign rfl rfl rfl ?_
    refine J_assign rfl rfl rfl ?_
    refine J_nil3 ?_
    refine E_then ?_
    refine R_ret ?_
    apply E_ret Tryz.results102
    · exact Res.tmp rfl (Res.tmp rfl (Res.nil))
    · intro w s
      refine ⟨?_, ht, s.gives (by exact Gives.cons (Take.next Take.here) (Gives.drop Gives.refl))⟩
      simp only [one, recB, hT, hA]
end Go.Proofs.Sol

/- A log over a disk: what is staged, committed. -/
namespace Go.Proofs.Sol
open Go Go.Proofs
set_option maxRecDepth 100000
set_option maxHeartbeats 4000000
set_option linter.unusedVariables false
set_option linter.unusedSimpArgs false
attribute [local irreducible] R J JW E D Fn Y clf mpI own Sat Exit.then Exit.inBlock bodyPost bodyPostM Code.wpIn wpL
theorem rec_ok {W : Wl} (ok : WlOk W) : RecOk (told W.Lo) := by
  have hn := ok.n
  refine ⟨by rw [told_length]; exact ok.lo, fun p hp => ?_, fun p hp => (ok.loH p (told_mem hp)).2, told_nodup ok.loN⟩
  have h := (ok.loH p (told_mem hp)).1
  simp only [Wl.home, homeB, Bool.and_eq_true, decide_eq_true_eq] at h
  omega
/-- A log, behind a transaction of n - 1 sectors. -/
def Wl.comm (W : Wl) (n : Nat) : Wl := { W with at_ := (W.at_ + n) % (W.many - 2), seq := W.seq + 1, used := W.used + n, com := true, act := false, K := keep W.K W.Lo, Lo := [], V := putV W.V (W.fr + 2) (W.many - 2) W.at_ (recB W.seq (turnOf (told W.Lo)) (told W.Lo)) n, k := W.k + n + 1 }
/-- A list of sectors, under way. -/
def lst (c : Nat) (xs : List Value) : HP := exi fun v : Value => stp [cl c 147 [v], own v 164 2 xs]
theorem open_lst {w : World} {c : Nat} {xs : List Value} {L : List HP} (h : Sat w (lst c xs :: L)) : ∃ v, Sat w (cl c 147 [v] :: own v 164 2 xs :: L) := by
  obtain ⟨v, h⟩ := h.exi
  exact ⟨v, h.open_⟩
theorem gives_lst {c : Nat} {v : Value} {xs : List Value} {L : List HP} : Gives (cl c 147 [v] :: own v 164 2 xs :: L) (lst c xs :: L) :=
  ⟨fun h st => stars_mono_hd (fun _ e => ⟨v, e⟩) (stars_gather (M := [cl c 147 [v], own v 164 2 xs]) st)⟩
theorem wal_Commit (b : Nat) (W : Wl) (ok : WlOk W) (ha : W.act = true) (hne : W.Lo ≠ []) (n : Nat) (hn : n = W.Lo.length + 1) (hr : W.used + n ≤ W.many - 2) (hk : W.k < 10000000) (F : List HP) :
    Fn Tryz.prog 26 [.pointer (some ⟨b, 0, none⟩)] (wal b W :: F) (Pst (.int .i64 0) (wal b (W.comm n) :: F)) := by
  have hfr := ok.fr
  have hnn := ok.n
  have hm := ok.many
  have hlo := ok.lo
  have hat := ok.at_
  have hus := ok.used
  have hsq := ok.seq
  have hrec := rec_ok ok
  have htl := told_length W.Lo
  have htne : told W.Lo ≠ [] := by intro h; rw [h] at htl; simp at htl; exact hne (List.eq_nil_of_length_eq_zero htl.symm)
  have htv : (toldV W.Lo).length = W.Lo.length := by simp [toldV, told_length]
  refine Fn.open_ (fun w h => open_wal h) ?_
  rintro p
  dsimp only [walL, List.cons_append, List.nil_append]
  refine Fn.open_ (M := fun x => shL p.2.2 W.K W.Lo x ++ (walH b W p :: reg p.1 W.d W.fr 2 :: reg p.2.1 W.d (W.fr + 2) (W.many - 2) :: dvk W.d W.V W.k :: F)) (fun w h => open_shd (h.gives (by exact Gives.last (Take.next (Take.next (Take.next Take.here)))))) ?_
  rintro ⟨bk, bl⟩
  dsimp only [shL, List.cons_append, List.nil_append]
  refine Fn_enterM Tryz.func26 rfl Tryz.ntmps26 rfl ?_
  refine R_seq ?_
  refine R_region ?_
  refine J_assign rfl rfl rfl ?_
  refine J_nil ?_
  refine E_then ?_
  refine R_seq ?_
  refine R_seq ?_
  refine R_region ?_
  refine J_move rfl rfl rfl ?_
  refine J_callr rfl (wal_ActiveH b W p _) (by exact Gives.last (Take.next (Take.next (Take.next Take.here)))) rfl rfl ?_
  rw [ha]
  refine J_un_not rfl rfl rfl ?_
  refine J_nil3 ?_
  refine E_then ?_
  refine R_cond_false rfl ?_
  refine R_skip ?_
  refine E_then ?_
  refine R_seq ?_
  refine R_region ?_
  refine J_alloc rfl rfl ?_; intro
  refine J_nil ?_
  refine E_then ?_
  refine R_seq ?_
  refine R_seq ?_
  refine R_region ?_
  refine J_move rfl rfl rfl ?_
  refine J_nilCheck rfl rfl rfl ?_
  refine J_fieldAddr0 rfl rfl rfl ?_
  refine J_load rfl rfl rfl rfl ?_
  rename_i c3
  refine J_callm rfl (shadow_Fresh p.2.2 bk bl _) (by exact Gives.last (Take.next (Take.next Take.here))) rfl rfl ?_
  rintro v w ⟨t, rfl, s0⟩
  refine JW.of s0 ?_
  refine J_nil3 ?_
  refine E_then ?_
  refine R_block ?_
  refine R_rangeFunc (f := 208) (ps := [18, 19]) (fun j => [lst c3 (secs ((told W.Lo).take j))]) [fun _ => False] (fun vs => [(4, vs.getD 0 undef), (5, vs.getD 1 undef), (3, .pointer (some ⟨c3, 0, none⟩))])
    (shH p.2.2 bk bl :: mpI bk W.K :: walH b W p :: reg p.1 W.d W.fr 2 :: reg p.2.1 W.d (W.fr + 2) (W.many - 2) :: dvk W.d W.V W.k :: F) rfl (each_tells t bl W.Lo (by omega))
    (Gives.trans (M := cl c3 147 [.slice none 0 0] :: own (.slice none 0 0) 164 2 [] :: cl t 216 [.map (some bl)] :: mpI bl W.Lo :: shH p.2.2 bk bl :: mpI bk W.K :: walH b W p :: reg p.1 W.d W.fr 2 :: reg p.2.1 W.d (W.fr + 2) (W.many - 2) :: dvk W.d W.V W.k :: F)
      (Gives.cons (by with_reducible exact Take.next (Take.next Take.here)) (Gives.own_nil (by exact Gives.cons Take.here (Gives.cons (Take.next (Take.next (Take.next Take.here))) (Gives.cons Take.here (Gives.last (Take.next Take.here))))))) (gives_lst.trans (Gives.trans (M := cl t 216 [.map (some bl)] :: mpI bl W.Lo :: lst c3 [] :: shH p.2.2 bk bl :: mpI bk W.K :: walH b W p :: reg p.1 W.d W.fr 2 :: reg p.2.1 W.d (W.fr + 2) (W.many - 2) :: dvk W.d W.V W.k :: F) (by exact Gives.cons (Take.next Take.here) (Gives.last (Take.next Take.here))) ⟨fun _ s => s⟩))) (toldV_two W.Lo) rfl ?_ ?_ ?_ ?_
  · intro l c j vs hi F'
    obtain ⟨x, hx, rfl⟩ := toldV_get hi
    dsimp only [List.cons_append, List.nil_append]
    refine R_seq ?_
    refine R_region ?_
    refine J_assign rfl rfl rfl ?_
    refine J_nil ?_
    refine E_then ?_
    refine R_region ?_
    refine J_assign rfl rfl rfl ?_
    refine J_nil ?_
    exact E_thenI fun a w he hs => ⟨he.sub (by exact sub_cons rfl (sub_cons rfl (sub_cons rfl sub_nil))), hs⟩
  · intro l c j vs hi hc F'
    obtain ⟨x, hx, rfl⟩ := toldV_get hi
    obtain ⟨hxl, hxe⟩ := List.getElem?_eq_some_iff.1 hx
    dsimp only [List.cons_append, List.nil_append]
    refine R.open_ (M := fun v => cl c3 147 [v] :: own v 164 2 (secs ((told W.Lo).take j)) :: pt l (.loop (busy c)) :: F') (fun w s => open_lst s.swap) ?_
    intro v
    refine R.know (fun w s => s.swap.own_single) fun hv1 => ?_
    refine R_block ?_
    refine R_region ?_
    refine J_load rfl rfl rfl rfl ?_
    refine J_move rfl rfl rfl ?_
    refine J_move rfl rfl rfl ?_
    refine J_build rfl rfl rfl rfl ?_
    refine J_buildSlice rfl rfl rfl rfl rfl rfl ?_; intro
    refine J_append (m := 1) (k := 2) (xs := secs ((told W.Lo).take j)) (ys := [.int .i64 x.1, .string (S x.2)]) (E := 164) rfl rfl (by with_reducible exact Take.next (Take.next Take.here)) (by rintro k ⟨⟩) rfl (by omega) (by omega) (by simp) rfl (by rw [secs_length]; simp; omega) rfl rfl rfl ?_
    intro v' hsv
    refine J_store rfl rfl (by assumption) rfl ?_
    refine J_nil3 ?_
    refine E_block_normal ?_
    refine E_roundN hc (by with_reducible exact Take.next (Take.next (Take.next Take.here))) ?_
    have e : secs ((told W.Lo).take (j + 1)) = secs ((told W.Lo).take j) ++ [.int .i64 x.1, .string (S x.2)] := by
      rw [List.take_succ_eq_append_getElem hxl, hxe]
      exact secs_snoc _ _ _
    rw [e]
    exact Gives.trans (M := cl c3 147 [v'] :: own v' 164 2 (secs ((told W.Lo).take j) ++ [.int .i64 x.1, .string (S x.2)]) :: F') (by exact Gives.cons (Take.next (Take.next Take.here)) (Gives.cons Take.here (Gives.drop Gives.refl))) gives_lst
  · intro r
    rw [htv, ← htl, List.take_length]
    dsimp only [List.cons_append, List.nil_append]
    refine E.open_ (M := fun v => cl c3 147 [v] :: own v 164 2 (secs (told W.Lo)) :: pt r (.deferred (some [])) :: cl t 216 [.map (some bl)] :: mpI bl W.Lo :: shH p.2.2 bk bl :: mpI bk W.K :: walH b W p :: reg p.1 W.d W.fr 2 :: reg p.2.1 W.d (W.fr + 2) (W.many - 2) :: dvk W.d W.V W.k :: F) (fun w s => open_lst (s.gives (by exact Gives.last (Take.next (Take.next (Take.next Take.here)))))) ?_
    intro v
    refine E_block_normal ?_
    refine E_then ?_
    refine R_seq ?_
    refine R_seq ?_
    refine R_region ?_
    refine J_load rfl rfl rfl rfl ?_
    have hl0 : 0 < (told W.Lo).length := List.length_pos_iff.2 htne
    refine J_openOwn (by with_reducible exact Take.next Take.here) (fun hv0 hz0 => absurd hz0 (by intro h; have := congrArg List.length h; rw [secs_length] at this; simp at this; omega)) (fun b2 len cap sp hv0 hz1 hz2 => ?_)
    rw [secs_length] at hz1 hz2
    have hlen : len = (told W.Lo).length := by omega
    subst hlen
    subst hv0
    have hcap : (told W.Lo).length ≤ cap := by omega
    generalize hl : told W.Lo = l at *
    have hroom : W.room = W.many - 2 - W.used := rfl
    refine J_len_slice rfl rfl rfl ?_
    refine J_ari64 rfl rfl rfl (by omega) rfl rfl ?_
    refine J_assign rfl rfl rfl ?_
    refine J_nil3 ?_
    refine E_then ?_
    refine R_seq ?_
    refine R_region ?_
    refine J_load rfl rfl rfl rfl ?_
    refine J_len_slice rfl rfl rfl ?_
    refine J_cmp rfl rfl rfl rfl rfl ?_
    refine J_nil3 ?_
    refine E_then ?_
    refine R_cond rfl (fun hh => ?_) (fun hh => ?_)
    simp only [decide_eq_true_eq, decide_eq_false_iff_not, Bool.and_eq_true, Bool.or_eq_true, Bool.not_eq_true', Bool.not_eq_false', beq_iff_eq, bne_iff_ne, beq_eq_false_iff_ne, bne_eq_false_iff_eq, ne_eq, ge_iff_le, gt_iff_lt, Int.not_le, Int.not_lt, Bool.and_eq_false_iff, Bool.or_eq_false_iff, Decidable.not_not] at hh
    refine R_seq ?_
    refine R_seq ?_
    refine R_region ?_
    refine J_move rfl rfl rfl ?_
    refine J_move rfl rfl rfl ?_
    rotate_left
    simp only [decide_eq_true_eq, decide_eq_false_iff_not, Bool.and_eq_true, Bool.or_eq_true, Bool.not_eq_true', Bool.not_eq_false', beq_iff_eq, bne_iff_ne, beq_eq_false_iff_ne, bne_eq_false_iff_eq, ne_eq, ge_iff_le, gt_iff_lt, Int.not_le, Int.not_lt, Bool.and_eq_false_iff, Bool.or_eq_false_iff, Decidable.not_not] at hh
    exfalso; omega
    refine J_callr rfl (wal_RoomH b W p hm (by omega) _) (by exact Gives.cons (Take.next (Take.next (Take.next (Take.next (Take.next (Take.next (Take.next Take.here))))))) (Gives.last (Take.next (Take.next (Take.next (Take.next (Take.next (Take.next (Take.next (Take.next Take.here)))))))))) rfl rfl ?_
    rw [hroom]
    refine J_cmp rfl rfl rfl rfl rfl ?_
    refine J_nil3 ?_
    refine E_then ?_
    refine R_cond rfl (fun hh => ?_) (fun hh => ?_)
    simp only [decide_eq_true_eq, decide_eq_false_iff_not, Bool.and_eq_true, Bool.or_eq_true, Bool.not_eq_true', Bool.not_eq_false', beq_iff_eq, bne_iff_ne, beq_eq_false_iff_ne, bne_eq_false_iff_eq, ne_eq, ge_iff_le, gt_iff_lt, Int.not_le, Int.not_lt, Bool.and_eq_false_iff, Bool.or_eq_false_iff, Decidable.not_not] at hh
    exfalso; omega
    simp only [decide_eq_true_eq, decide_eq_false_iff_not, Bool.and_eq_true, Bool.or_eq_true, Bool.not_eq_true', Bool.not_eq_false', beq_iff_eq, bne_iff_ne, beq_eq_false_iff_ne, bne_eq_false_iff_eq, ne_eq, ge_iff_le, gt_iff_lt, Int.not_le, Int.not_lt, Bool.and_eq_false_iff, Bool.or_eq_false_iff, Decidable.not_not] at hh
    refine R_skip ?_
    refine E_then ?_
    refine R_seq ?_
    refine R_np ?_
    refine R_draw ([walH b W p, cl c3 147 [.slice (some ⟨b2, 0, none⟩) l.length cap]]) [5, 9, 10] (by kernel_rfl) ?_
    (refine D_lookP (i := 0) rfl (by kernel_rfl) (by exact NP_noP) (by exact Y_move rfl) rfl rfl ?_)
    (refine D_lookP (i := 1) rfl (by kernel_rfl) (by exact NP_noP) (by exact Y_nilCheck rfl) rfl rfl ?_)
    (refine D_lookP (i := 2) rfl (by kernel_rfl) (by exact NP_noP) (by exact Y_fieldAddr0 rfl) rfl rfl ?_)
    (refine D_look (i := 3) rfl (by kernel_rfl) (by exact NP_noP) (by exact Gives.cons Take.here (Gives.cons (Take.next (Take.next Take.here)) Gives.nil)) (by exact Y_load rfl rfl) rfl rfl ?_)
    (refine D_look (i := 4) rfl (by kernel_rfl) (by exact NP_noP) (by exact Gives.cons Take.here (Gives.cons (Take.next (Take.next Take.here)) Gives.nil)) (by exact Y_load rfl rfl) rfl rfl ?_)
    refine D_try1 (i := 5) (by kernel_rfl) rfl ?_
    refine J_callm rfl (logrec_Put W.seq b2 cap l sp hcap hrec htne (by omega) _) (by exact Gives.last (Take.next (Take.next Take.here))) rfl rfl ?_
    rintro v w ⟨rfl, ht, s0⟩
    refine JW.of s0 ?_
    refine D_last (by kernel_rfl) ?_
    (refine D_lookP (i := 6) rfl (by kernel_rfl) (by exact NP_noP) (by exact Y_move rfl) rfl rfl ?_)
    (refine D_lookP (i := 7) rfl (by kernel_rfl) (by exact NP_noP) (by exact Y_extract rfl rfl) rfl rfl ?_)
    (refine D_lookP (i := 8) rfl (by kernel_rfl) (by exact NP_noP) (by exact Y_extract rfl rfl) rfl rfl ?_)
    refine D_try1 (i := 9) (by kernel_rfl) rfl ?_
    refine J_assign rfl rfl rfl ?_
    refine D_last (by kernel_rfl) ?_
    refine D_try1 (i := 10) (by kernel_rfl) rfl ?_
    refine J_assign rfl rfl rfl ?_
    refine D_last (by kernel_rfl) ?_
    (first | refine D_end1 (by kernel_rfl) ?_ | refine D_end (by kernel_rfl) ?_)
    have hrl := recB_length (q := W.seq) (by_ := (turnOf l : Int)) (by omega) (by omega) hrec
    generalize hrb : recB W.seq (turnOf l) l = rb at *
    refine E_noP ?_
    refine E_then ?_
    refine R_seq ?_
    refine R_seq ?_
    refine R_region ?_
    refine J_move rfl rfl rfl ?_
    refine J_cmp rfl rfl rfl rfl rfl ?_
    refine J_nil2 ?_
    refine E_then ?_
    refine R_cond_false rfl ?_
    refine R_skip ?_
    refine E_then ?_
    refine R_seq ?_
    refine R_seq ?_
    refine R_np ?_
    refine R_draw ([walH b W p]) [9, 10] (by kernel_rfl) ?_
    (refine D_lookP (i := 0) rfl (by kernel_rfl) (by exact NP_noP) (by exact Y_move rfl) rfl rfl ?_)
    (refine D_lookP (i := 1) rfl (by kernel_rfl) (by exact NP_noP) (by exact Y_nilCheck rfl) rfl rfl ?_)
    (refine D_lookP (i := 2) rfl (by kernel_rfl) (by exact NP_noP) (by exact Y_fieldAddr0 rfl) rfl rfl ?_)
    (refine D_look (i := 3) rfl (by kernel_rfl) (by exact NP_noP) (by exact Gives.cons (Take.next Take.here) Gives.nil) (by exact Y_load rfl rfl) rfl rfl ?_)
    (refine D_lookP (i := 4) rfl (by kernel_rfl) (by exact NP_noP) (by exact Y_move rfl) rfl rfl ?_)
    (refine D_lookP (i := 5) rfl (by kernel_rfl) (by exact NP_noP) (by exact Y_nilCheck rfl) rfl rfl ?_)
    (refine D_lookP (i := 6) rfl (by kernel_rfl) (by exact NP_noP) (by exact Y_fieldAddr0 rfl) rfl rfl ?_)
    (refine D_look (i := 7) rfl (by kernel_rfl) (by exact NP_noP) (by exact Gives.cons (Take.next Take.here) Gives.nil) (by exact Y_load rfl rfl) rfl rfl ?_)
    (refine D_lookP (i := 8) rfl (by kernel_rfl) (by exact NP_noP) (by exact Y_move rfl) rfl rfl ?_)
    refine D_try1 (i := 9) (by kernel_rfl) rfl ?_
    refine J_callr rfl (logscan_Put p.2.1 W.d W.V W.k (W.fr + 2) (W.many - 2) W.at_ rb n (by omega) (by omega) hat (by omega) hnn (by omega) _) (by exact Gives.cons (Take.next (Take.next (Take.next (Take.next (Take.next (Take.next (Take.next (Take.next (Take.next (Take.next Take.here)))))))))) (Gives.last (Take.next (Take.next Take.here)))) rfl rfl ?_
    refine D_last (by kernel_rfl) ?_
    refine D_try1 (i := 10) (by kernel_rfl) rfl ?_
    refine J_assign rfl rfl rfl ?_
    refine D_last (by kernel_rfl) ?_
    (first | refine D_end1 (by kernel_rfl) ?_ | refine D_end (by kernel_rfl) ?_)
    refine E_noP ?_
    refine E_then ?_
    refine R_seq ?_
    refine R_region ?_
    refine J_move rfl rfl rfl ?_
    refine J_cmp rfl rfl rfl rfl rfl ?_
    refine J_nil2 ?_
    refine E_then ?_
    refine R_cond_false rfl ?_
    refine R_skip ?_
    refine E_then ?_
    refine R_seq ?_
    refine R_np ?_
    refine R_draw ([walH b W p]) [28, 31, 34] (by kernel_rfl) ?_
    (refine D_lookP (i := 0) rfl (by kernel_rfl) (by exact NP_noP) (by exact Y_move rfl) rfl rfl ?_)
    (refine D_lookP (i := 1) rfl (by kernel_rfl) (by exact NP_noP) (by exact Y_move rfl) rfl rfl ?_)
    (refine D_lookP (i := 2) rfl (by kernel_rfl) (by exact NP_noP) (by exact Y_move rfl) rfl rfl ?_)
    (refine D_lookP (i := 3) rfl (by kernel_rfl) (by exact NP_noP) (by exact Y_move rfl) rfl rfl ?_)
    (refine D_lookP (i := 4) rfl (by kernel_rfl) (by exact NP_noP) (by exact Y_nilCheck rfl) rfl rfl ?_)
    (refine D_lookP (i := 5) rfl (by kernel_rfl) (by exact NP_noP) (by exact Y_fieldAddr0 rfl) rfl rfl ?_)
    (refine D_look (i := 6) rfl (by kernel_rfl) (by exact NP_noP) (by exact Gives.cons (Take.next (Take.next (Take.next Take.here))) Gives.nil) (by exact Y_load rfl rfl) rfl rfl ?_)
    (refine D_lookP (i := 7) rfl (by kernel_rfl) (by exact NP_noP) (by exact Y_move rfl) rfl rfl ?_)
    (refine D_lookP (i := 8) rfl (by kernel_rfl) (by exact NP_noP) (by exact Y_ari64 rfl rfl rfl (by omega)) rfl rfl ?_)
    (refine D_lookP (i := 9) rfl (by kernel_rfl) (by exact NP_noP) (by exact Y_move rfl) rfl rfl ?_)
    (refine D_lookP (i := 10) rfl (by kernel_rfl) (by exact NP_noP) (by exact Y_nilCheck rfl) rfl rfl ?_)
    (refine D_lookP (i := 11) rfl (by kernel_rfl) (by exact NP_noP) (by exact Y_fieldAddr0 rfl) rfl rfl ?_)
    (refine D_look (i := 12) rfl (by kernel_rfl) (by exact NP_noP) (by exact Gives.cons (Take.next (Take.next (Take.next Take.here))) Gives.nil) (by exact Y_load rfl rfl) rfl rfl ?_)
    (refine D_lookP (i := 15) rfl (by kernel_rfl) (by exact NP_noP) (by exact Y_move rfl) rfl rfl ?_)
    (refine D_lookP (i := 16) rfl (by kernel_rfl) (by exact NP_noP) (by exact Y_nilCheck rfl) rfl rfl ?_)
    (refine D_lookP (i := 17) rfl (by kernel_rfl) (by exact NP_noP) (by exact Y_fieldAddr0 rfl) rfl rfl ?_)
    (refine D_look (i := 18) rfl (by kernel_rfl) (by exact NP_noP) (by exact Gives.cons (Take.next (Take.next (Take.next Take.here))) Gives.nil) (by exact Y_load rfl rfl) rfl rfl ?_)
    (refine D_lookP (i := 19) rfl (by kernel_rfl) (by exact NP_noP) (by exact Y_ari64 rfl rfl rfl (by omega)) rfl rfl ?_)
    (refine D_lookP (i := 20) rfl (by kernel_rfl) (by exact NP_noP) (by exact Y_move rfl) rfl rfl ?_)
    (refine D_lookP (i := 21) rfl (by kernel_rfl) (by exact NP_noP) (by exact Y_nilCheck rfl) rfl rfl ?_)
    (refine D_lookP (i := 22) rfl (by kernel_rfl) (by exact NP_noP) (by exact Y_fieldAddr0 rfl) rfl rfl ?_)
    (refine D_look (i := 23) rfl (by kernel_rfl) (by exact NP_noP) (by exact Gives.cons (Take.next (Take.next (Take.next Take.here))) Gives.nil) (by exact Y_load rfl rfl) rfl rfl ?_)
    (refine D_lookP (i := 24) rfl (by kernel_rfl) (by exact NP_noP) (by exact Y_move rfl) rfl rfl ?_)
    (refine D_lookP (i := 25) rfl (by kernel_rfl) (by exact NP_noP) (by exact Y_ari64 rfl rfl rfl (by omega)) rfl rfl ?_)
    refine D_try1 (i := 13) (by kernel_rfl) rfl ?_
    refine J_callr rfl (region_Many p.2.1 W.d (W.fr + 2) (W.many - 2) _) (by exact Gives.last (Take.next Take.here)) rfl rfl ?_
    refine D_next (by exact Gives.cons (Take.next (Take.next (Take.next Take.here))) Gives.nil) ?_
    (refine D_lookP (i := 14) rfl (by kernel_rfl) (by exact NP_noP) (by exact Y_rem rfl rfl (by omega) (by omega)) rfl rfl ?_)
    (refine D_lookP (i := 26) rfl (by kernel_rfl) (by exact NP_noP) (by exact Y_nilCheck rfl) rfl rfl ?_)
    (refine D_lookP (i := 27) rfl (by kernel_rfl) (by exact NP_noP) (by exact Y_fieldAddr0 rfl) rfl rfl ?_)
    refine D_try1 (i := 28) (by kernel_rfl) rfl ?_
    refine J_store rfl rfl rfl rfl ?_
    refine D_last (by kernel_rfl) ?_
    (refine D_lookP (i := 29) rfl (by kernel_rfl) (by exact NP_noP) (by exact Y_nilCheck rfl) rfl rfl ?_)
    (refine D_lookP (i := 30) rfl (by kernel_rfl) (by exact NP_noP) (by exact Y_fieldAddr0 rfl) rfl rfl ?_)
    refine D_try1 (i := 31) (by kernel_rfl) rfl ?_
    refine J_store rfl rfl rfl rfl ?_
    refine D_last (by kernel_rfl) ?_
    (refine D_lookP (i := 32) rfl (by kernel_rfl) (by exact NP_noP) (by exact Y_nilCheck rfl) rfl rfl ?_)
    (refine D_lookP (i := 33) rfl (by kernel_rfl) (by exact NP_noP) (by exact Y_fieldAddr0 rfl) rfl rfl ?_)
    refine D_try1 (i := 34) (by kernel_rfl) rfl ?_
    refine J_store rfl rfl rfl rfl ?_
    refine D_last (by kernel_rfl) ?_
    (first | refine D_end1 (by kernel_rfl) ?_ | refine D_end (by kernel_rfl) ?_)
    refine E_noP ?_
    refine E_then ?_
    refine R_region ?_
    refine J_move rfl rfl rfl ?_
    refine J_nilCheck rfl rfl rfl ?_
    refine J_fieldAddr0 rfl rfl rfl ?_
    refine J_store rfl rfl rfl rfl ?_
    refine J_nil3 ?_
    refine E_then ?_
    refine R_seq ?_
    refine R_region ?_
    refine J_move rfl rfl rfl ?_
    refine J_nilCheck rfl rfl rfl ?_
    refine J_fieldAddr0 rfl rfl rfl ?_
    refine J_load rfl rfl rfl rfl ?_
    refine J.open_ (α := Unit) (M := fun _ => shd p.2.2 W.K W.Lo :: pt r (.deferred (some [])) :: cl b 153 [.pointer (some ⟨W.d, 0, none⟩), .pointer (some ⟨p.1, 0, none⟩), .pointer (some ⟨p.2.1, 0, none⟩), .int .i64 W.fr, .int .i64 W.many, .int .i64 W.gen, .int .i64 ((W.at_ + ((l.length : Int) + 1)) % (W.many - 2)), .int .i64 (W.seq + 1), .int .i64 (W.used + ((l.length : Int) + 1)), .bool W.act, .bool true, .pointer (some ⟨p.2.2, 0, none⟩)] :: reg p.1 W.d W.fr 2 :: reg p.2.1 W.d (W.fr + 2) (W.many - 2) :: dvk W.d (putV W.V (W.fr + 2) (W.many - 2) W.at_ rb n) (W.k + n + 1) :: F) (fun w s => ⟨(), (s.gives (M := shH p.2.2 bk bl :: mpI bk W.K :: mpI bl W.Lo :: pt r (.deferred (some [])) :: cl b 153 [.pointer (some ⟨W.d, 0, none⟩), .pointer (some ⟨p.1, 0, none⟩), .pointer (some ⟨p.2.1, 0, none⟩), .int .i64 W.fr, .int .i64 W.many, .int .i64 W.gen, .int .i64 ((W.at_ + ((l.length : Int) + 1)) % (W.many - 2)), .int .i64 (W.seq + 1), .int .i64 (W.used + ((l.length : Int) + 1)), .bool W.act, .bool true, .pointer (some ⟨p.2.2, 0, none⟩)] :: reg p.1 W.d W.fr 2 :: reg p.2.1 W.d (W.fr + 2) (W.many - 2) :: dvk W.d (putV W.V (W.fr + 2) (W.many - 2) W.at_ rb n) (W.k + n + 1) :: F) (by exact Gives.cons (Take.next (Take.next (Take.next (Take.next (Take.next (Take.next (Take.next (Take.next Take.here)))))))) (Gives.cons (Take.next (Take.next (Take.next (Take.next (Take.next (Take.next (Take.next (Take.next Take.here)))))))) (Gives.cons (Take.next (Take.next (Take.next (Take.next (Take.next (Take.next (Take.next Take.here))))))) (Gives.cons (Take.next (Take.next (Take.next (Take.next (Take.next Take.here))))) (Gives.cons (Take.next (Take.next (Take.next Take.here))) (Gives.cons (Take.next (Take.next (Take.next (Take.next (Take.next Take.here))))) (Gives.cons Take.here (Gives.cons Take.here (Gives.drop (Gives.drop (Gives.drop Gives.refl)))))))))))).gives gives_shd⟩) ?_
    rintro ⟨⟩
    refine J_callr rfl (shadow_Keep p.2.2 W.K W.Lo (by omega) _) (by exact Gives.refl) rfl rfl ?_
    refine J_nil3 ?_
    refine E_then ?_
    refine R_seq ?_
    refine R_region ?_
    refine J_move rfl rfl rfl ?_
    refine J_nilCheck rfl rfl rfl ?_
    refine J_fieldAddr0 rfl rfl rfl ?_
    refine J_store rfl rfl rfl rfl ?_
    refine J_nil3 ?_
    refine E_then ?_
    refine R_seq ?_
    refine R_region ?_
    refine J_assign rfl rfl rfl ?_
    refine J_nil ?_
    refine E_then ?_
    refine R_ret ?_
    refine E.gives (M := pt r (.deferred (some [])) :: cl b 153 [.pointer (some ⟨W.d, 0, none⟩), .pointer (some ⟨p.1, 0, none⟩), .pointer (some ⟨p.2.1, 0, none⟩), .int .i64 W.fr, .int .i64 W.many, .int .i64 W.gen, .int .i64 ((W.at_ + ((l.length : Int) + 1)) % (W.many - 2)), .int .i64 (W.seq + 1), .int .i64 (W.used + ((l.length : Int) + 1)), .bool false, .bool true, .pointer (some ⟨p.2.2, 0, none⟩)] :: reg p.1 W.d W.fr 2 :: reg p.2.1 W.d (W.fr + 2) (W.many - 2) :: shd p.2.2 (keep W.K W.Lo) [] :: dvk W.d (putV W.V (W.fr + 2) (W.many - 2) W.at_ rb n) (W.k + n + 1) :: F) (by exact Gives.cons (Take.next Take.here) (Gives.cons (Take.next Take.here) (Gives.cons (Take.next Take.here) (Gives.last (Take.next Take.here))))) ?_
    refine E_retM (R := cl b 153 [.pointer (some ⟨W.d, 0, none⟩), .pointer (some ⟨p.1, 0, none⟩), .pointer (some ⟨p.2.1, 0, none⟩), .int .i64 W.fr, .int .i64 W.many, .int .i64 W.gen, .int .i64 ((W.at_ + ((l.length : Int) + 1)) % (W.many - 2)), .int .i64 (W.seq + 1), .int .i64 (W.used + ((l.length : Int) + 1)), .bool false, .bool true, .pointer (some ⟨p.2.2, 0, none⟩)] :: reg p.1 W.d W.fr 2 :: reg p.2.1 W.d (W.fr + 2) (W.many - 2) :: shd p.2.2 (keep W.K W.Lo) [] :: dvk W.d (putV W.V (W.fr + 2) (W.many - 2) W.at_ rb n) (W.k + n + 1) :: F) Tryz.results26 Take.here (by exact Res.tmp rfl (Res.nil)) ?_
    intro w s
    refine ⟨rfl, shut_wal (p := p) ?_⟩
    have hn' : (n : Int) = (l.length : Int) + 1 := by omega
    unfold Wl.comm
    rw [hl, hrb, hn']
    exact s.drop
  · intro r
    exact E_no
end Go.Proofs.Sol

/- Layout: where the parts of a volume are. -/
namespace Go.Proofs.Sol
open Go Go.Proofs
set_option maxRecDepth 100000
set_option maxHeartbeats 4000000
set_option linter.unusedVariables false
set_option linter.unusedSimpArgs false
attribute [local irreducible] R J JW E D Fn Y clf mpI own Sat Exit.then Exit.inBlock bodyPost bodyPostM Code.wpIn wpL

structure Cfg where
  E : Int
  S : Int
  L : Int
abbrev cfgL (c : Cfg) : List Value := [.int .i64 c.E, .int .i64 c.S, .int .i64 c.L]
abbrev cfgV (c : Cfg) : Value := .agg (cfgL c).toArray
theorem layout_within (x lo hi : Int) (F : List HP) : Fn Tryz.prog 140 [.int .i64 x, .int .i64 lo, .int .i64 hi] F (Pst (.bool (decide (lo ≤ x) && decide (x ≤ hi))) F) := by
  refine Fn_enter Tryz.func140 rfl Tryz.ntmps140 rfl ?_
  refine R_seq ?_
  refine R_region ?_
  refine J_assign rfl rfl rfl ?_
  refine J_nil ?_
  refine E_then ?_
  refine R_seq ?_
  refine R_region ?_
  refine J_move rfl rfl rfl ?_
  refine J_move rfl rfl rfl ?_
  refine J_cmp rfl rfl rfl rfl rfl ?_
  refine J_move rfl rfl rfl ?_
  refine J_guard_split rfl rfl (fun hh => ?_) (fun hh => ?_)
  simp only [decide_eq_true_eq, decide_eq_false_iff_not, Bool.and_eq_true, Bool.or_eq_true, Bool.not_eq_true', Bool.not_eq_false', beq_iff_eq, bne_iff_ne, beq_eq_false_iff_ne, bne_eq_false_iff_eq, ne_eq, ge_iff_le, gt_iff_lt, Int.not_le, Int.not_lt, Bool.and_eq_false_iff, Bool.or_eq_false_iff, Decidable.not_not] at hh
  refine J_guard rfl rfl rfl ?_
  refine J_move rfl rfl rfl ?_
  refine J_guard rfl rfl rfl ?_
  refine J_move rfl rfl rfl ?_
  refine J_guard rfl rfl rfl ?_
  refine J_cmp rfl rfl rfl rfl rfl ?_
  refine J_pick_true rfl rfl rfl rfl ?_
  refine J_assign rfl rfl rfl ?_
  refine J_nil3 ?_
  refine E_then ?_
  refine R_ret ?_
  rotate_left
  simp only [decide_eq_true_eq, decide_eq_false_iff_not, Bool.and_eq_true, Bool.or_eq_true, Bool.not_eq_true', Bool.not_eq_false', beq_iff_eq, bne_iff_ne, beq_eq_false_iff_ne, bne_eq_false_iff_eq, ne_eq, ge_iff_le, gt_iff_lt, Int.not_le, Int.not_lt, Bool.and_eq_false_iff, Bool.or_eq_false_iff, Decidable.not_not] at hh
  refine J_guard_not rfl rfl rfl rfl rfl rfl ?_
  refine J_guard_not rfl rfl rfl rfl rfl rfl ?_
  refine J_guard_not rfl rfl rfl rfl rfl rfl ?_
  refine J_pick_false rfl rfl rfl rfl ?_
  refine J_assign rfl rfl rfl ?_
  refine J_nil3 ?_
  refine E_then ?_
  refine R_ret ?_
  rotate_left
  all_goals
    apply E_retP Tryz.results140
    · exact Res.tmp rfl (Res.nil)
    · (repeat (with_reducible exact Gives.refl))
    (first | (simp_all [one]; done) | (simp_all [one]; omega))
def cfgOk (c : Cfg) : Bool := (decide (1 ≤ c.E) && decide (c.E ≤ 24)) && (decide (1 ≤ c.S) && decide (c.S ≤ 8)) && (decide (24 ≤ c.L) && decide (c.L ≤ 200))
def cfgE (c : Cfg) : Int := if cfgOk c then 0 else 3
theorem layout_Check (c : Cfg) (F : List HP) : Fn Tryz.prog 68 [cfgV c] F (Pst (.int .i64 (cfgE c)) F) := by
  refine Fn_enter Tryz.func68 rfl Tryz.ntmps68 rfl ?_
  refine R_seq ?_
  refine R_region ?_
  refine J_boxA rfl rfl rfl ?_; intro
  refine J_assign rfl rfl rfl ?_
  refine J_nil ?_
  refine E_then ?_
  refine R_seq ?_
  refine R_seq ?_
  refine R_region ?_
  refine J_fieldAddr0 rfl rfl rfl ?_
  refine J_load rfl rfl rfl rfl ?_
  refine J_callr rfl (layout_within _ _ _ _) (by exact Gives.refl) rfl rfl ?_
  refine J_un_not rfl rfl rfl ?_
  refine J_move rfl rfl rfl ?_
  refine J_guard_split rfl rfl (fun hh => ?_) (fun hh => ?_)
  simp only [decide_eq_true_eq, decide_eq_false_iff_not, Bool.and_eq_true, Bool.or_eq_true, Bool.not_eq_true', Bool.not_eq_false', beq_iff_eq, bne_iff_ne, beq_eq_false_iff_ne, bne_eq_false_iff_eq, ne_eq, ge_iff_le, gt_iff_lt, Int.not_le, Int.not_lt, Bool.and_eq_false_iff, Bool.or_eq_false_iff, Decidable.not_not] at hh
  refine J_guard_not rfl rfl rfl rfl rfl rfl ?_
  refine J_guard_not rfl rfl rfl rfl rfl rfl ?_
  refine J_guard_not rfl rfl rfl rfl rfl rfl ?_
  refine J_guard_not rfl rfl rfl rfl rfl rfl ?_
  refine J_pick_true rfl rfl rfl rfl ?_
  refine J_move rfl rfl rfl ?_
  refine J_guard_not rfl rfl rfl rfl rfl rfl ?_
  refine J_guard_not rfl rfl rfl rfl rfl rfl ?_
  refine J_guard_not rfl rfl rfl rfl rfl rfl ?_
  refine J_guard_not rfl rfl rfl rfl rfl rfl ?_
  refine J_pick_true rfl rfl rfl rfl ?_
  refine J_nil3 ?_
  refine E_then ?_
  refine R_cond_true rfl ?_
  refine R_seq ?_
  refine R_region ?_
  refine J_assign rfl rfl rfl ?_
  refine J_nil ?_
  refine E_then ?_
  refine R_ret ?_
  refine E_then_ret ?_
  rotate_left
  simp only [decide_eq_true_eq, decide_eq_false_iff_not, Bool.and_eq_true, Bool.or_eq_true, Bool.not_eq_true', Bool.not_eq_false', beq_iff_eq, bne_iff_ne, beq_eq_false_iff_ne, bne_eq_false_iff_eq, ne_eq, ge_iff_le, gt_iff_lt, Int.not_le, Int.not_lt, Bool.and_eq_false_iff, Bool.or_eq_false_iff, Decidable.not_not] at hh
  refine J_guard rfl rfl rfl ?_
  refine J_fieldAddr0 rfl rfl rfl ?_
  refine J_guard rfl rfl rfl ?_
  refine J_load rfl rfl rfl rfl ?_
  refine J_guard rfl rfl rfl ?_
  rotate_left
  · apply E_retP Tryz.results68
    · exact Res.tmp rfl (Res.nil)
    · exact Gives.drop Gives.refl
    (first | (simp_all [one, cfgE, cfgOk]; done) | (simp_all [one, cfgE, cfgOk]; omega))
  refine J_callr rfl (layout_within _ _ _ _) (by exact Gives.refl) rfl rfl ?_
  refine J_guard rfl rfl rfl ?_
  refine J_un_not rfl rfl rfl ?_
  refine J_pick_false rfl rfl rfl rfl ?_
  refine J_move rfl rfl rfl ?_
  refine J_guard_split rfl rfl (fun hh => ?_) (fun hh => ?_)
  simp only [decide_eq_true_eq, decide_eq_false_iff_not, Bool.and_eq_true, Bool.or_eq_true, Bool.not_eq_true', Bool.not_eq_false', beq_iff_eq, bne_iff_ne, beq_eq_false_iff_ne, bne_eq_false_iff_eq, ne_eq, ge_iff_le, gt_iff_lt, Int.not_le, Int.not_lt, Bool.and_eq_false_iff, Bool.or_eq_false_iff, Decidable.not_not] at hh
  refine J_guard_not rfl rfl rfl rfl rfl rfl ?_
  refine J_guard_not rfl rfl rfl rfl rfl rfl ?_
  refine J_guard_not rfl rfl rfl rfl rfl rfl ?_
  refine J_guard_not rfl rfl rfl rfl rfl rfl ?_
  refine J_pick_true rfl rfl rfl rfl ?_
  refine J_nil3 ?_
  refine E_then ?_
  refine R_cond_true rfl ?_
  refine R_seq ?_
  refine R_region ?_
  refine J_assign rfl rfl rfl ?_
  refine J_nil ?_
  refine E_then ?_
  refine R_ret ?_
  refine E_then_ret ?_
  rotate_left
  simp only [decide_eq_true_eq, decide_eq_false_iff_not, Bool.and_eq_true, Bool.or_eq_true, Bool.not_eq_true', Bool.not_eq_false', beq_iff_eq, bne_iff_ne, beq_eq_false_iff_ne, bne_eq_false_iff_eq, ne_eq, ge_iff_le, gt_iff_lt, Int.not_le, Int.not_lt, Bool.and_eq_false_iff, Bool.or_eq_false_iff, Decidable.not_not] at hh
  refine J_guard rfl rfl rfl ?_
  refine J_fieldAddr0 rfl rfl rfl ?_
  refine J_guard rfl rfl rfl ?_
  refine J_load rfl rfl rfl rfl ?_
  refine J_guard rfl rfl rfl ?_
  rotate_left
  · apply E_retP Tryz.results68
    · exact Res.tmp rfl (Res.nil)
    · exact Gives.drop Gives.refl
    (first | (simp_all [one, cfgE, cfgOk]; done) | (simp_all [one, cfgE, cfgOk]; omega))
  refine J_callr rfl (layout_within _ _ _ _) (by exact Gives.refl) rfl rfl ?_
  refine J_guard rfl rfl rfl ?_
  refine J_un_not rfl rfl rfl ?_
  refine J_pick_false rfl rfl rfl rfl ?_
  refine J_nil3 ?_
  refine E_then ?_
  refine R_cond rfl (fun hh => ?_) (fun hh => ?_)
  simp only [decide_eq_true_eq, decide_eq_false_iff_not, Bool.and_eq_true, Bool.or_eq_true, Bool.not_eq_true', Bool.not_eq_false', beq_iff_eq, bne_iff_ne, beq_eq_false_iff_ne, bne_eq_false_iff_eq, ne_eq, ge_iff_le, gt_iff_lt, Int.not_le, Int.not_lt, Bool.and_eq_false_iff, Bool.or_eq_false_iff, Decidable.not_not] at hh
  refine R_seq ?_
  refine R_region ?_
  refine J_assign rfl rfl rfl ?_
  refine J_nil ?_
  refine E_then ?_
  refine R_ret ?_
  refine E_then_ret ?_
  rotate_left
  simp only [decide_eq_true_eq, decide_eq_false_iff_not, Bool.and_eq_true, Bool.or_eq_true, Bool.not_eq_true', Bool.not_eq_false', beq_iff_eq, bne_iff_ne, beq_eq_false_iff_ne, bne_eq_false_iff_eq, ne_eq, ge_iff_le, gt_iff_lt, Int.not_le, Int.not_lt, Bool.and_eq_false_iff, Bool.or_eq_false_iff, Decidable.not_not] at hh
  refine R_skip ?_
  refine E_then ?_
  refine R_seq ?_
  refine R_region ?_
  refine J_assign rfl rfl rfl ?_
  refine J_nil ?_
  refine E_then ?_
  refine R_ret ?_
  rotate_left
  all_goals
    apply E_retP Tryz.results68
    · exact Res.tmp rfl (Res.nil)
    · (repeat (first | ((fail_if_success (apply Gives.cons)); refine Gives.drop ?_) | with_reducible exact Gives.refl))
    (first | (simp_all [one, cfgE, cfgOk]; done) | (simp_all [one, cfgE, cfgOk]; omega))
/-- Where the parts begin. -/
def pTab : Int := 2
def pExt (c : Cfg) : Int := 2 + (c.E + 1) / 2
def pSlot (c : Cfg) : Int := pExt c + c.E * 2
def pLog (c : Cfg) : Int := pSlot c + c.S * 5
def pEnd (c : Cfg) : Int := pLog c + c.L
def partsL (c : Cfg) : List Value := if cfgOk c then [.int .i64 0, .int .i64 1, .int .i64 2, .int .i64 (pExt c), .int .i64 (pSlot c), .int .i64 (pLog c), .int .i64 (pEnd c)] else [.int .i64 0, .int .i64 0, .int .i64 0, .int .i64 0, .int .i64 0, .int .i64 0, .int .i64 0]
theorem cfgOk_spec {c : Cfg} (h : cfgOk c = true) : 1 ≤ c.E ∧ c.E ≤ 24 ∧ 1 ≤ c.S ∧ c.S ≤ 8 ∧ 24 ≤ c.L ∧ c.L ≤ 200 := by
  simp [cfgOk] at h; omega
theorem layout_of (c : Cfg) (F : List HP) : Fn Tryz.prog 117 [cfgV c] F (Pst (.agg (partsL c).toArray) F) := by
  refine Fn_enter Tryz.func117 rfl Tryz.ntmps117 rfl ?_
  by_cases hc : cfgOk c = true
  · have h := cfgOk_spec hc
    have e : cfgE c = 0 := by simp [cfgE, hc]
    refine R_seq ?_
    refine R_region ?_
    refine J_boxA rfl rfl rfl ?_; intro
    refine J_alloc rfl rfl ?_; intro
    refine J_nil ?_
    refine E_then ?_
    refine R_seq ?_
    refine R_region ?_
    refine J_alloc rfl rfl ?_; intro
    refine J_nil ?_
    refine E_then ?_
    refine R_seq ?_
    refine R_seq ?_
    refine R_region ?_
    refine J_loadA rfl rfl rfl rfl ?_
    refine J_callr rfl (e ▸ layout_Check _ _) (by exact Gives.refl) rfl rfl ?_
    refine J_cmp rfl rfl rfl rfl rfl ?_
    refine J_nil3 ?_
    refine E_then ?_
    refine R_cond_false rfl ?_
    refine R_skip ?_
    refine E_then ?_
    refine R_seq ?_
    refine R_region ?_
    refine J_fieldAddr0 rfl rfl rfl ?_
    refine J_load rfl rfl rfl rfl ?_
    refine J_ari64 rfl rfl rfl (by omega) rfl rfl ?_
    refine J_fieldAddr0 rfl rfl rfl ?_
    refine J_store rfl rfl rfl rfl ?_
    refine J_nil3 ?_
    refine E_then ?_
    refine R_seq ?_
    refine R_region ?_
    refine J_fieldAddr0 rfl rfl rfl ?_
    refine J_load rfl rfl rfl rfl ?_
    refine J_ari64 rfl rfl rfl (by omega) rfl rfl ?_
    refine J_fieldAddr0 rfl rfl rfl ?_
    refine J_store rfl rfl rfl rfl ?_
    refine J_nil3 ?_
    refine E_then ?_
    refine R_seq ?_
    refine R_region ?_
    refine J_fieldAddr0 rfl rfl rfl ?_
    refine J_load rfl rfl rfl rfl ?_
    refine J_fieldAddr0 rfl rfl rfl ?_
    refine J_load rfl rfl rfl rfl ?_
    refine J_ari64 rfl rfl rfl (by omega) rfl rfl ?_
    refine J_ari64 rfl rfl rfl (by omega) rfl rfl ?_
    refine J_quo rfl rfl (by omega) (by omega) rfl rfl ?_
    refine J_ari64 rfl rfl rfl (by omega) rfl rfl ?_
    refine J_fieldAddr0 rfl rfl rfl ?_
    refine J_store rfl rfl rfl rfl ?_
    refine J_nil3 ?_
    refine E_then ?_
    refine R_seq ?_
    refine R_region ?_
    refine J_fieldAddr0 rfl rfl rfl ?_
    refine J_load rfl rfl rfl rfl ?_
    refine J_fieldAddr0 rfl rfl rfl ?_
    refine J_load rfl rfl rfl rfl ?_
    refine J_ari64 rfl rfl rfl (by omega) rfl rfl ?_
    refine J_ari64 rfl rfl rfl (by omega) rfl rfl ?_
    refine J_fieldAddr0 rfl rfl rfl ?_
    refine J_store rfl rfl rfl rfl ?_
    refine J_nil3 ?_
    refine E_then ?_
    refine R_seq ?_
    refine R_region ?_
    refine J_fieldAddr0 rfl rfl rfl ?_
    refine J_load rfl rfl rfl rfl ?_
    refine J_fieldAddr0 rfl rfl rfl ?_
    refine J_load rfl rfl rfl rfl ?_
    refine J_ari64 rfl rfl rfl (by omega) rfl rfl ?_
    refine J_ari64 rfl rfl rfl (by omega) rfl rfl ?_
    refine J_fieldAddr0 rfl rfl rfl ?_
    refine J_store rfl rfl rfl rfl ?_
    refine J_nil3 ?_
    refine E_then ?_
    refine R_seq ?_
    refine R_region ?_
    refine J_fieldAddr0 rfl rfl rfl ?_
    refine J_load rfl rfl rfl rfl ?_
    refine J_fieldAddr0 rfl rfl rfl ?_
    refine J_load rfl rfl rfl rfl ?_
    refine J_ari64 rfl rfl rfl (by omega) rfl rfl ?_
    refine J_fieldAddr0 rfl rfl rfl ?_
    refine J_store rfl rfl rfl rfl ?_
    refine J_nil3 ?_
    refine E_then ?_
    refine R_seq ?_
    refine R_region ?_
    refine J_loadA rfl rfl rfl rfl ?_
    refine J_storeA rfl rfl rfl rfl rfl rfl ?_
    refine J_nil1 ?_
    refine E_then ?_
    refine R_ret ?_
    apply E_retP Tryz.results117
    · exact Res_cellA rfl rfl (Res.nil)
    · exact Gives.drop (Gives.drop (Gives.drop Gives.refl))
    simp [one, partsL, hc, pExt, pSlot, pLog, pEnd]
    omega
  · have e : cfgE c = 3 := by simp [cfgE, hc]
    refine R_seq ?_
    refine R_region ?_
    refine J_boxA rfl rfl rfl ?_; intro
    refine J_alloc rfl rfl ?_; intro
    refine J_nil ?_
    refine E_then ?_
    refine R_seq ?_
    refine R_region ?_
    refine J_alloc rfl rfl ?_; intro
    refine J_nil ?_
    refine E_then ?_
    refine R_seq ?_
    refine R_seq ?_
    refine R_region ?_
    refine J_loadA rfl rfl rfl rfl ?_
    refine J_callr rfl (e ▸ layout_Check _ _) (by exact Gives.refl) rfl rfl ?_
    refine J_cmp rfl rfl rfl rfl rfl ?_
    refine J_nil3 ?_
    refine E_then ?_
    refine R_cond_true rfl ?_
    refine R_seq ?_
    refine R_region ?_
    refine J_loadA rfl rfl rfl rfl ?_
    refine J_storeA rfl rfl rfl rfl rfl rfl ?_
    refine J_nil1 ?_
    refine E_then ?_
    refine R_ret ?_
    refine E_then_ret ?_
    apply E_retP Tryz.results117
    · exact Res_cellA rfl rfl (Res.nil)
    · exact Gives.drop (Gives.drop (Gives.drop Gives.refl))
    simp [one, partsL, hc]
def pz (c : Cfg) (x : Int) : Int := if cfgOk c then x else 0
theorem layout_Sectors (c : Cfg) (F : List HP) : Fn Tryz.prog 116 [cfgV c] F (Pst (.int .i64 (pz c (pEnd c))) F) := by
  refine Fn_enter Tryz.func116 rfl Tryz.ntmps116 rfl ?_
  by_cases hc : cfgOk c = true
  all_goals
    repeat' (first | refine R_seq ?_ | refine R_region ?_ | (refine J_boxA rfl rfl rfl ?_; intro) | refine J_assign rfl rfl rfl ?_ | refine J_nil ?_ | refine E_then ?_ | refine J_loadA rfl rfl rfl rfl ?_)
    refine J_callr rfl (layout_of _ _) (by (repeat (with_reducible exact Gives.refl))) rfl rfl ?_
    simp only [partsL, hc, if_true, if_false, Bool.false_eq_true]
    repeat' (first | refine J_field rfl rfl rfl rfl ?_ | refine J_assign rfl rfl rfl ?_ | refine J_nil3 ?_ | refine E_then ?_ | refine R_ret ?_)
    apply E_retP Tryz.results116
    · exact Res.tmp rfl (Res.nil)
    · (repeat (first | ((fail_if_success (apply Gives.cons)); refine Gives.drop ?_) | with_reducible exact Gives.refl))
    simp [one, pz, hc]
theorem layout_Log (c : Cfg) (F : List HP) : Fn Tryz.prog 37 [cfgV c] F (Pst (.int .i64 (pz c (pLog c))) F) := by
  refine Fn_enter Tryz.func37 rfl Tryz.ntmps37 rfl ?_
  by_cases hc : cfgOk c = true
  all_goals
    repeat' (first | refine R_seq ?_ | refine R_region ?_ | (refine J_boxA rfl rfl rfl ?_; intro) | refine J_assign rfl rfl rfl ?_ | refine J_nil ?_ | refine E_then ?_ | refine J_loadA rfl rfl rfl rfl ?_)
    refine J_callr rfl (layout_of _ _) (by (repeat (with_reducible exact Gives.refl))) rfl rfl ?_
    simp only [partsL, hc, if_true, if_false, Bool.false_eq_true]
    repeat' (first | refine J_field rfl rfl rfl rfl ?_ | refine J_assign rfl rfl rfl ?_ | refine J_nil3 ?_ | refine E_then ?_ | refine R_ret ?_)
    apply E_retP Tryz.results37
    · exact Res.tmp rfl (Res.nil)
    · (repeat (first | ((fail_if_success (apply Gives.cons)); refine Gives.drop ?_) | with_reducible exact Gives.refl))
    simp [one, pz, hc]
theorem layout_Journal (c : Cfg) (F : List HP) : Fn Tryz.prog 142 [cfgV c] F (Pst (.int .i64 (pz c 1)) F) := by
  refine Fn_enter Tryz.func142 rfl Tryz.ntmps142 rfl ?_
  by_cases hc : cfgOk c = true
  all_goals
    repeat' (first | refine R_seq ?_ | refine R_region ?_ | (refine J_boxA rfl rfl rfl ?_; intro) | refine J_assign rfl rfl rfl ?_ | refine J_nil ?_ | refine E_then ?_ | refine J_loadA rfl rfl rfl rfl ?_)
    refine J_callr rfl (layout_of _ _) (by (repeat (with_reducible exact Gives.refl))) rfl rfl ?_
    simp only [partsL, hc, if_true, if_false, Bool.false_eq_true]
    repeat' (first | refine J_field rfl rfl rfl rfl ?_ | refine J_assign rfl rfl rfl ?_ | refine J_nil3 ?_ | refine E_then ?_ | refine R_ret ?_)
    apply E_retP Tryz.results142
    · exact Res.tmp rfl (Res.nil)
    · (repeat (first | ((fail_if_success (apply Gives.cons)); refine Gives.drop ?_) | with_reducible exact Gives.refl))
    simp [one, pz, hc]
/-- Is there a thing of so many? -/
def chk (c : Cfg) (n many : Int) : Int := if cfgOk c then (if 0 ≤ n ∧ n < many then 0 else 3) else 3
theorem layout_checked (c : Cfg) (n many : Int) (hm : cfgOk c = true → -1000000 ≤ many ∧ many ≤ 1000000) (F : List HP) : Fn Tryz.prog 120 [cfgV c, .int .i64 n, .int .i64 many] F (Pst (.int .i64 (chk c n many)) F) := by
  refine Fn_enter Tryz.func120 rfl Tryz.ntmps120 rfl ?_
  by_cases hc : cfgOk c = true
  · have e : cfgE c = 0 := by simp [cfgE, hc]
    have hm := hm hc
    refine R_seq ?_
    refine R_region ?_
    refine J_boxA rfl rfl rfl ?_; intro
    refine J_assign rfl rfl rfl ?_
    refine J_nil ?_
    refine E_then ?_
    refine R_seq ?_
    refine R_seq ?_
    refine R_region ?_
    refine J_loadA rfl rfl rfl rfl ?_
    refine J_callr rfl (e ▸ layout_Check _ _) (by exact Gives.refl) rfl rfl ?_
    refine J_assign rfl rfl rfl ?_
    refine J_nil2 ?_
    refine E_then ?_
    refine R_seq ?_
    refine R_region ?_
    refine J_move rfl rfl rfl ?_
    refine J_cmp rfl rfl rfl rfl rfl ?_
    refine J_nil2 ?_
    refine E_then ?_
    refine R_cond_false rfl ?_
    refine R_skip ?_
    refine E_then ?_
    refine R_seq ?_
    refine R_seq ?_
    refine R_region ?_
    refine J_move rfl rfl rfl ?_
    refine J_move rfl rfl rfl ?_
    refine J_ari64 rfl rfl rfl (by omega) rfl rfl ?_
    refine J_callr rfl (layout_within _ _ _ _) (by exact Gives.refl) rfl rfl ?_
    refine J_un_not rfl rfl rfl ?_
    refine J_nil3 ?_
    refine E_then ?_
    refine R_cond rfl (fun hh => ?_) (fun hh => ?_)
    simp only [decide_eq_true_eq, decide_eq_false_iff_not, Bool.and_eq_true, Bool.or_eq_true, Bool.not_eq_true', Bool.not_eq_false', beq_iff_eq, bne_iff_ne, beq_eq_false_iff_ne, bne_eq_false_iff_eq, ne_eq, ge_iff_le, gt_iff_lt, Int.not_le, Int.not_lt, Bool.and_eq_false_iff, Bool.or_eq_false_iff, Decidable.not_not] at hh
    refine R_seq ?_
    refine R_region ?_
    refine J_assign rfl rfl rfl ?_
    refine J_nil ?_
    refine E_then ?_
    refine R_ret ?_
    refine E_then_ret ?_
    rotate_left
    simp only [decide_eq_true_eq, decide_eq_false_iff_not, Bool.and_eq_true, Bool.or_eq_true, Bool.not_eq_true', Bool.not_eq_false', beq_iff_eq, bne_iff_ne, beq_eq_false_iff_ne, bne_eq_false_iff_eq, ne_eq, ge_iff_le, gt_iff_lt, Int.not_le, Int.not_lt, Bool.and_eq_false_iff, Bool.or_eq_false_iff, Decidable.not_not] at hh
    refine R_skip ?_
    refine E_then ?_
    refine R_seq ?_
    refine R_region ?_
    refine J_assign rfl rfl rfl ?_
    refine J_nil ?_
    refine E_then ?_
    refine R_ret ?_
    rotate_left
    all_goals
      apply E_retP Tryz.results120
      · exact Res.tmp rfl (Res.nil)
      · (repeat (first | ((fail_if_success (apply Gives.cons)); refine Gives.drop ?_) | with_reducible exact Gives.refl))
      (first | (simp_all [one, chk]; done) | (simp_all [one, chk]; omega))
  · have e : cfgE c = 3 := by simp [cfgE, hc]
    refine R_seq ?_
    refine R_region ?_
    refine J_boxA rfl rfl rfl ?_; intro
    refine J_assign rfl rfl rfl ?_
    refine J_nil ?_
    refine E_then ?_
    refine R_seq ?_
    refine R_seq ?_
    refine R_region ?_
    refine J_loadA rfl rfl rfl rfl ?_
    refine J_callr rfl (e ▸ layout_Check _ _) (by exact Gives.refl) rfl rfl ?_
    refine J_assign rfl rfl rfl ?_
    refine J_nil2 ?_
    refine E_then ?_
    refine R_seq ?_
    refine R_region ?_
    refine J_move rfl rfl rfl ?_
    refine J_cmp rfl rfl rfl rfl rfl ?_
    refine J_nil2 ?_
    refine E_then ?_
    refine R_cond_true rfl ?_
    refine R_seq ?_
    refine R_region ?_
    refine J_move rfl rfl rfl ?_
    refine J_assign rfl rfl rfl ?_
    refine J_nil1 ?_
    refine E_then ?_
    refine R_ret ?_
    refine E_then_ret ?_
    apply E_retP Tryz.results120
    · exact Res.tmp rfl (Res.nil)
    · exact Gives.drop Gives.refl
    (first | (simp_all [one, chk]; done) | (simp_all [one, chk]; omega))
theorem chk_ok {c : Cfg} {n many : Int} (h : chk c n many = 0) : cfgOk c = true ∧ 0 ≤ n ∧ n < many := by
  unfold chk at h
  split at h
  · rename_i hc
    split at h
    · exact ⟨hc, by omega, by omega⟩
    · omega
  · omega
theorem chk_no {c : Cfg} {n many : Int} (h : ¬ chk c n many = 0) : chk c n many = 3 := by
  unfold chk at h ⊢
  split
  · split
    · rename_i h1 h2; simp [h1, h2] at h
    · rfl
  · rfl
theorem layout_Extent (c : Cfg) (n : Int) (F : List HP) : Fn Tryz.prog 40 [cfgV c, .int .i64 n] F (Pst (.tuple #[.int .i64 (if chk c n c.E = 0 then pExt c + n * 2 else 0), .int .i64 (chk c n c.E)]) F) := by
  refine Fn_enter Tryz.func40 rfl Tryz.ntmps40 rfl ?_
  refine R_seq ?_
  refine R_region ?_
  refine J_boxA rfl rfl rfl ?_; intro
  refine J_assign rfl rfl rfl ?_
  refine J_assign rfl rfl rfl ?_
  refine J_nil ?_
  refine E_then ?_
  refine R_seq ?_
  refine R_seq ?_
  refine R_region ?_
  refine J_loadA rfl rfl rfl rfl ?_
  refine J_move rfl rfl rfl ?_
  refine J_fieldAddr0 rfl rfl rfl ?_
  refine J_load rfl rfl rfl rfl ?_
  refine J_callr rfl (layout_checked _ _ _ (fun hc => by have := cfgOk_spec hc; omega) _) (by exact Gives.refl) rfl rfl ?_
  by_cases h : chk c n c.E = 0
  · obtain ⟨hc, h1, h2⟩ := chk_ok h
    have h3 := cfgOk_spec hc
    simp only [h, if_true]
    refine J_assign rfl rfl rfl ?_
    refine J_nil3 ?_
    refine E_then ?_
    refine R_seq ?_
    refine R_region ?_
    refine J_move rfl rfl rfl ?_
    refine J_cmp rfl rfl rfl rfl rfl ?_
    refine J_nil2 ?_
    refine E_then ?_
    refine R_cond_false rfl ?_
    refine R_skip ?_
    refine E_then ?_
    refine R_seq ?_
    refine R_region ?_
    refine J_loadA rfl rfl rfl rfl ?_
    refine J_callr rfl (layout_of _ _) (by exact Gives.refl) rfl rfl ?_
    simp only [partsL, hc, if_true]
    have e : pExt c = 2 + (c.E + 1) / 2 := rfl
    refine J_field rfl rfl rfl rfl ?_
    refine J_move rfl rfl rfl ?_
    refine J_ari64 rfl rfl rfl (by omega) rfl rfl ?_
    refine J_ari64 rfl rfl rfl (by omega) rfl rfl ?_
    refine J_assign rfl rfl rfl ?_
    refine J_assign rfl rfl rfl ?_
    refine J_nil3 ?_
    refine E_then ?_
    refine R_ret ?_
    apply E_retP Tryz.results40
    · exact Res.tmp rfl (Res.tmp rfl (Res.nil))
    · exact Gives.drop Gives.refl
    rfl
  · have h' := chk_no h
    simp only [h', if_false]
    refine J_assign rfl rfl rfl ?_
    refine J_nil3 ?_
    refine E_then ?_
    refine R_seq ?_
    refine R_region ?_
    refine J_move rfl rfl rfl ?_
    refine J_cmp rfl rfl rfl rfl rfl ?_
    refine J_nil2 ?_
    refine E_then ?_
    refine R_cond_true rfl ?_
    refine R_seq ?_
    refine R_region ?_
    refine J_move rfl rfl rfl ?_
    refine J_assign rfl rfl rfl ?_
    refine J_assign rfl rfl rfl ?_
    refine J_nil1 ?_
    refine E_then ?_
    refine R_ret ?_
    refine E_then_ret ?_
    apply E_retP Tryz.results40
    · exact Res.tmp rfl (Res.tmp rfl (Res.nil))
    · exact Gives.drop Gives.refl
    rfl
theorem layout_Slot (c : Cfg) (n : Int) (F : List HP) : Fn Tryz.prog 146 [cfgV c, .int .i64 n] F (Pst (.tuple #[.int .i64 (if chk c n c.S = 0 then pSlot c + n * 5 else 0), .int .i64 (chk c n c.S)]) F) := by
  refine Fn_enter Tryz.func146 rfl Tryz.ntmps146 rfl ?_
  refine R_seq ?_
  refine R_region ?_
  refine J_boxA rfl rfl rfl ?_; intro
  refine J_assign rfl rfl rfl ?_
  refine J_assign rfl rfl rfl ?_
  refine J_nil ?_
  refine E_then ?_
  refine R_seq ?_
  refine R_seq ?_
  refine R_region ?_
  refine J_loadA rfl rfl rfl rfl ?_
  refine J_move rfl rfl rfl ?_
  refine J_fieldAddr0 rfl rfl rfl ?_
  refine J_load rfl rfl rfl rfl ?_
  refine J_callr rfl (layout_checked _ _ _ (fun hc => by have := cfgOk_spec hc; omega) _) (by exact Gives.refl) rfl rfl ?_
  by_cases h : chk c n c.S = 0
  · obtain ⟨hc, h1, h2⟩ := chk_ok h
    have h3 := cfgOk_spec hc
    simp only [h, if_true]
    refine J_assign rfl rfl rfl ?_
    refine J_nil3 ?_
    refine E_then ?_
    refine R_seq ?_
    refine R_region ?_
    refine J_move rfl rfl rfl ?_
    refine J_cmp rfl rfl rfl rfl rfl ?_
    refine J_nil2 ?_
    refine E_then ?_
    refine R_cond_false rfl ?_
    refine R_skip ?_
    refine E_then ?_
    refine R_seq ?_
    refine R_region ?_
    refine J_loadA rfl rfl rfl rfl ?_
    refine J_callr rfl (layout_of _ _) (by exact Gives.refl) rfl rfl ?_
    simp only [partsL, hc, if_true]
    have e : pSlot c = 2 + (c.E + 1) / 2 + c.E * 2 := rfl
    refine J_field rfl rfl rfl rfl ?_
    refine J_move rfl rfl rfl ?_
    refine J_ari64 rfl rfl rfl (by omega) rfl rfl ?_
    refine J_ari64 rfl rfl rfl (by omega) rfl rfl ?_
    refine J_assign rfl rfl rfl ?_
    refine J_assign rfl rfl rfl ?_
    refine J_nil3 ?_
    refine E_then ?_
    refine R_ret ?_
    apply E_retP Tryz.results146
    · exact Res.tmp rfl (Res.tmp rfl (Res.nil))
    · exact Gives.drop Gives.refl
    rfl
  · have h' := chk_no h
    simp only [h', if_false]
    refine J_assign rfl rfl rfl ?_
    refine J_nil3 ?_
    refine E_then ?_
    refine R_seq ?_
    refine R_region ?_
    refine J_move rfl rfl rfl ?_
    refine J_cmp rfl rfl rfl rfl rfl ?_
    refine J_nil2 ?_
    refine E_then ?_
    refine R_cond_true rfl ?_
    refine R_seq ?_
    refine R_region ?_
    refine J_move rfl rfl rfl ?_
    refine J_assign rfl rfl rfl ?_
    refine J_assign rfl rfl rfl ?_
    refine J_nil1 ?_
    refine E_then ?_
    refine R_ret ?_
    refine E_then_ret ?_
    apply E_retP Tryz.results146
    · exact Res.tmp rfl (Res.tmp rfl (Res.nil))
    · exact Gives.drop Gives.refl
    rfl
theorem layout_Table (c : Cfg) (n : Int) (F : List HP) : Fn Tryz.prog 65 [cfgV c, .int .i64 n] F
    (Pst (.tuple #[.int .i64 (if chk c n c.E = 0 then 2 + n / 2 else 0), .int .i64 (if chk c n c.E = 0 then n % 2 else 0), .int .i64 (chk c n c.E)]) F) := by
  refine Fn_enter Tryz.func65 rfl Tryz.ntmps65 rfl ?_
  refine R_seq ?_
  refine R_region ?_
  refine J_boxA rfl rfl rfl ?_; intro
  refine J_assign rfl rfl rfl ?_
  refine J_assign rfl rfl rfl ?_
  refine J_assign rfl rfl rfl ?_
  refine J_nil ?_
  refine E_then ?_
  refine R_seq ?_
  refine R_seq ?_
  refine R_region ?_
  refine J_loadA rfl rfl rfl rfl ?_
  refine J_move rfl rfl rfl ?_
  refine J_fieldAddr0 rfl rfl rfl ?_
  refine J_load rfl rfl rfl rfl ?_
  refine J_callr rfl (layout_checked _ _ _ (fun hc => by have := cfgOk_spec hc; omega) _) (by exact Gives.refl) rfl rfl ?_
  by_cases h : chk c n c.E = 0
  · obtain ⟨hc, h1, h2⟩ := chk_ok h
    have h3 := cfgOk_spec hc
    simp only [h, if_true]
    refine J_assign rfl rfl rfl ?_
    refine J_nil3 ?_
    refine E_then ?_
    refine R_seq ?_
    refine R_region ?_
    refine J_move rfl rfl rfl ?_
    refine J_cmp rfl rfl rfl rfl rfl ?_
    refine J_nil2 ?_
    refine E_then ?_
    refine R_cond_false rfl ?_
    refine R_skip ?_
    refine E_then ?_
    refine R_seq ?_
    refine R_region ?_
    refine J_loadA rfl rfl rfl rfl ?_
    refine J_callr rfl (layout_of _ _) (by exact Gives.refl) rfl rfl ?_
    simp only [partsL, hc, if_true]
    refine J_field rfl rfl rfl rfl ?_
    refine J_move rfl rfl rfl ?_
    refine J_quo rfl rfl (by omega) (by omega) rfl rfl ?_
    refine J_ari64 rfl rfl rfl (by omega) rfl rfl ?_
    refine J_move rfl rfl rfl ?_
    refine J_rem rfl rfl (by omega) (by omega) rfl rfl ?_
    refine J_assign rfl rfl rfl ?_
    refine J_assign rfl rfl rfl ?_
    refine J_assign rfl rfl rfl ?_
    refine J_nil3 ?_
    refine E_then ?_
    refine R_ret ?_
    apply E_retP Tryz.results65
    · exact Res.tmp rfl (Res.tmp rfl (Res.tmp rfl (Res.nil)))
    · exact Gives.drop Gives.refl
    rfl
  · have h' := chk_no h
    simp only [h', if_false]
    refine J_assign rfl rfl rfl ?_
    refine J_nil3 ?_
    refine E_then ?_
    refine R_seq ?_
    refine R_region ?_
    refine J_move rfl rfl rfl ?_
    refine J_cmp rfl rfl rfl rfl rfl ?_
    refine J_nil2 ?_
    refine E_then ?_
    refine R_cond_true rfl ?_
    refine R_seq ?_
    refine R_region ?_
    refine J_move rfl rfl rfl ?_
    refine J_assign rfl rfl rfl ?_
    refine J_assign rfl rfl rfl ?_
    refine J_assign rfl rfl rfl ?_
    refine J_nil1 ?_
    refine E_then ?_
    refine R_ret ?_
    refine E_then_ret ?_
    apply E_retP Tryz.results65
    · exact Res.tmp rfl (Res.tmp rfl (Res.tmp rfl (Res.nil)))
    · exact Gives.drop Gives.refl
    rfl
end Go.Proofs.Sol

/- A volume's disk, with a log without records, in a transaction. -/
namespace Go.Proofs.Sol
open Go Go.Proofs
set_option maxRecDepth 100000
set_option maxHeartbeats 4000000
set_option linter.unusedVariables false
set_option linter.unusedSimpArgs false
attribute [local irreducible] R J JW E D Fn Y clf mpI own Sat Exit.then Exit.inBlock bodyPost bodyPostM Code.wpIn wpL
theorem zf_zero (n : Nat) (a : Int) (j : Nat) : zf (List.replicate n zs64) a j = List.replicate n zs64 := by
  induction j with
  | zero => rfl
  | succ j ih => simp only [zf, ih, List.set_replicate_self]
abbrev fV (n : Nat) (fr : Int) : List Bytes := (List.replicate n zs64).set (fr + 1).toNat (headB 1 1 0)
theorem fmtV_zero (n : Nat) (fr many : Int) : fmtV (List.replicate n zs64) fr many = fV n fr := by
  unfold fmtV
  rw [zf_zero, zf_zero]
theorem fV_get {n : Nat} {fr : Int} (h0 : 0 ≤ fr) (h : fr + 1 < n) (i : Int) (hi : 0 ≤ i ∧ i < n) : (fV n fr).getD i.toNat [] = if i = fr + 1 then headB 1 1 0 else zs64 := by
  rw [List.getD_eq_getElem?_getD, List.getElem?_set]
  by_cases e : i = fr + 1
  · subst e
    rw [if_pos rfl, if_pos (by simp; omega), if_pos rfl]; rfl
  · rw [if_neg (by omega), if_neg e, List.getElem?_replicate, if_pos (by omega)]; rfl
theorem fV_cat {n : Nat} {fr : Int} (h0 : 0 ≤ fr) (h : fr + 1 < n) : cat (fV n fr) fr 2 = zs64 ++ headB 1 1 0 := by
  have hl : (fV n fr).length = n := by simp
  have h1 := cat_succ (V := fV n fr) (a := fr) (n := 0) h0 (by omega)
  have h2 := cat_succ (V := fV n fr) (a := fr) (n := 1) h0 (by omega)
  have e0 : fr + ((0 : Nat) : Int) = fr := by omega
  have e1 : fr + ((1 : Nat) : Int) = fr + 1 := by omega
  rw [e0, fV_get h0 h fr (by omega), if_neg (by omega)] at h1
  rw [e1, fV_get h0 h (fr + 1) (by omega), if_pos rfl, h1] at h2
  rw [h2]
  have : cat (fV n fr) fr 0 = [] := by simp [cat]
  rw [this]; rfl
theorem fV_newer {n : Nat} {fr : Int} (h0 : 0 ≤ fr) (h : fr + 1 < n) : newer ((cat (fV n fr) fr 2).take 64) ((cat (fV n fr) fr 2).drop 64) = ((1, 1, 0), 0) := by
  rw [fV_cat h0 h]
  have e1 : (zs64 ++ headB 1 1 0).take 64 = zs64 := take_app rfl
  have e2 : (zs64 ++ headB 1 1 0).drop 64 = headB 1 1 0 := drop_app rfl
  rw [e1, e2]
  have z : headGet zs64 = ((0, 0, 0), 4) := headGet_zero
  unfold newer
  rw [z, headGet_put (by decide)]
  rfl
theorem fV_ring {n : Nat} {fr many : Int} (h0 : 0 ≤ fr) (hm : 24 ≤ many) (h : fr + many ≤ n) : ring (fV n fr) (fr + 2) (many - 2) 0 1 = zs64 := by
  simp only [ring, List.nil_append]
  have e : (0 + ((0 : Nat) : Int)) % (many - 2) = 0 := by simp
  rw [e, fV_get h0 (by omega) _ (by omega), if_neg (by omega)]
/-- The log of a volume's new disk. -/
def bW (d : Nat) (n : Nat) (fr many : Int) : Wl := ⟨d, fr, many, 2, 0, 1 + many, 0, true, false, [], [], (fV n fr).set fr.toNat (headB 2 (1 + many) 0), many.toNat + 2 + 3 + 4⟩
theorem setV_nil (V : List Bytes) : setV V [] = V := by simp [setV, homeV, told, srt]
theorem bW_eq (d n : Nat) (fr many : Int) : ({ Wl.anew d fr many (fV n fr) (many.toNat + 2) (1, 1, 0) with act := true } : Wl) = bW d n fr many := by
  have e : fr + 2 % 2 = fr := by omega
  simp only [Wl.anew, Wl.settled, bW, setV_nil]
  have t0 : (told []).length = 0 := by simp [told, srt]
  rw [t0]
  simp
theorem bW_ok (d n : Nat) (fr many : Int) (hn : n ≤ 1000) (hm : 24 ≤ many ∧ many ≤ 200) (hf : 0 ≤ fr ∧ fr + many ≤ n) : WlOk (bW d n fr many) := by
  have hl : (bW d n fr many).V.length = n := by simp [bW]
  refine ⟨?_, ?_, hm, ?_, ?_, ?_, ?_, ?_, ?_, ?_, ?_, ?_⟩
  · rw [hl]; exact hf
  · rw [hl]; exact hn
  all_goals (dsimp only [bW]; first | omega | simp)
end Go.Proofs.Sol

/- Sectors that follow one another, of a log's disk. -/
namespace Go.Proofs.Sol
open Go Go.Proofs
set_option maxRecDepth 100000
set_option maxHeartbeats 4000000
set_option linter.unusedVariables false
set_option linter.unusedSimpArgs false
attribute [local irreducible] R J JW E D Fn Y clf mpI own Sat Exit.then Exit.inBlock bodyPost bodyPostM Code.wpIn wpL
theorem save_err (l : List Bytes) : ∀ (W : Wl) (a : Int) (m : List Bytes), W.saveE a l ≠ 0 → W.saveE a (l ++ m) = W.saveE a l ∧ W.save a (l ++ m) = W.save a l := by
  induction l with
  | nil => intro W a m h; exact absurd rfl h
  | cons s l ih =>
    intro W a m h
    simp only [List.cons_append, Wl.saveE, Wl.save] at h ⊢
    by_cases h1 : W.stE a s = 0
    · rw [if_pos h1] at h ⊢
      rw [if_pos h1, if_pos h1, if_pos h1]
      exact ih _ _ _ h
    · rw [if_neg h1, if_neg h1, if_neg h1, if_neg h1]
      exact ⟨rfl, rfl⟩
theorem save_snoc (l : List Bytes) : ∀ (W : Wl) (a : Int) (s : Bytes), W.saveE a l = 0 → W.saveE a (l ++ [s]) = (W.save a l).stE (a + l.length) s ∧ W.save a (l ++ [s]) = (W.save a l).st (a + l.length) s := by
  induction l with
  | nil =>
    intro W a s _
    simp only [List.nil_append, Wl.saveE, Wl.save, List.length_nil]
    have e : a + ((0 : Nat) : Int) = a := by omega
    rw [e]
    by_cases h1 : W.stE a s = 0
    · rw [if_pos h1, if_pos h1, h1]; exact ⟨rfl, rfl⟩
    · rw [if_neg h1, if_neg h1]; exact ⟨rfl, by unfold Wl.st; rw [if_neg h1]⟩
  | cons t l ih =>
    intro W a s h
    simp only [List.cons_append, Wl.saveE, Wl.save] at h ⊢
    by_cases h1 : W.stE a t = 0
    · rw [if_pos h1] at h
      rw [if_pos h1, if_pos h1, if_pos h1]
      have := ih _ _ s h
      have e : a + 1 + (l.length : Int) = a + ((t :: l).length : Int) := by simp; omega
      rw [e] at this
      exact this
    · rw [if_neg h1] at h; exact absurd h h1
theorem home_lt {W : Wl} (ok : WlOk W) {i : Int} (h : W.home i = true) : 0 ≤ i ∧ i < 1000 := by
  have := ok.n
  simp only [Wl.home, homeB, Bool.and_eq_true, decide_eq_true_eq] at h
  omega
theorem extent_Save (b : Nat) (W : Wl) (ok : WlOk W) (a : Int) (data : Bytes) (hl : data.length ≤ 100000) (ha : -9223372036854775808 ≤ a ∧ a < 9223372036854775808) (n : Nat) (hn : 1 ≤ n ∧ n ≤ 16) (hd : data.length = 64 * n) (F : List HP) :
    Fn Tryz.prog 36 [.pointer (some ⟨b, 0, none⟩), .int .i64 a, .string (S data)] (wal b W :: F) (Pst (.int .i64 (W.saveE a (chunks data n))) (wal b (W.save a (chunks data n)) :: F)) := by
  have hcl := chunks_length data n
  have e1 : (data.length : Int) / 64 = (n : Int) := by omega
  refine Fn_enter Tryz.func36 rfl Tryz.ntmps36 rfl ?_
  refine R_seq ?_
  refine R_region ?_
  refine J_assign rfl rfl rfl ?_
  refine J_nil ?_
  refine E_then ?_
  refine R_seq ?_
  refine R_region ?_
  refine J_move rfl rfl rfl ?_
  refine J_len_str rfl rfl rfl ?_
  refine J_quo rfl rfl (by omega) (by omega) rfl rfl ?_
  refine J_assign rfl rfl rfl ?_
  refine J_nil3 ?_
  refine E_then ?_
  refine R_seq ?_
  refine R_seq ?_
  refine R_region ?_
  refine J_move rfl rfl rfl ?_
  refine J_cmp rfl rfl rfl rfl rfl ?_
  refine J_move rfl rfl rfl ?_
  refine J_guard_split rfl rfl (fun hh => ?_) (fun hh => ?_)
  simp only [decide_eq_true_eq, decide_eq_false_iff_not, Bool.and_eq_true, Bool.or_eq_true, Bool.not_eq_true', Bool.not_eq_false', beq_iff_eq, bne_iff_ne, beq_eq_false_iff_ne, bne_eq_false_iff_eq, ne_eq, ge_iff_le, gt_iff_lt, Int.not_le, Int.not_lt, Bool.and_eq_false_iff, Bool.or_eq_false_iff, Decidable.not_not] at hh
  exfalso; omega
  simp only [decide_eq_true_eq, decide_eq_false_iff_not, Bool.and_eq_true, Bool.or_eq_true, Bool.not_eq_true', Bool.not_eq_false', beq_iff_eq, bne_iff_ne, beq_eq_false_iff_ne, bne_eq_false_iff_eq, ne_eq, ge_iff_le, gt_iff_lt, Int.not_le, Int.not_lt, Bool.and_eq_false_iff, Bool.or_eq_false_iff, Decidable.not_not] at hh
  refine J_guard rfl rfl rfl ?_
  refine J_move rfl rfl rfl ?_
  refine J_guard rfl rfl rfl ?_
  refine J_cmp rfl rfl rfl rfl rfl ?_
  refine J_pick_false rfl rfl rfl rfl ?_
  refine J_move rfl rfl rfl ?_
  refine J_guard_split rfl rfl (fun hh => ?_) (fun hh => ?_)
  simp only [decide_eq_true_eq, decide_eq_false_iff_not, Bool.and_eq_true, Bool.or_eq_true, Bool.not_eq_true', Bool.not_eq_false', beq_iff_eq, bne_iff_ne, beq_eq_false_iff_ne, bne_eq_false_iff_eq, ne_eq, ge_iff_le, gt_iff_lt, Int.not_le, Int.not_lt, Bool.and_eq_false_iff, Bool.or_eq_false_iff, Decidable.not_not] at hh
  exfalso; omega
  simp only [decide_eq_true_eq, decide_eq_false_iff_not, Bool.and_eq_true, Bool.or_eq_true, Bool.not_eq_true', Bool.not_eq_false', beq_iff_eq, bne_iff_ne, beq_eq_false_iff_ne, bne_eq_false_iff_eq, ne_eq, ge_iff_le, gt_iff_lt, Int.not_le, Int.not_lt, Bool.and_eq_false_iff, Bool.or_eq_false_iff, Decidable.not_not] at hh
  refine J_guard rfl rfl rfl ?_
  refine J_move rfl rfl rfl ?_
  refine J_guard rfl rfl rfl ?_
  refine J_ari64 rfl rfl rfl (by omega) rfl rfl ?_
  refine J_guard rfl rfl rfl ?_
  refine J_move rfl rfl rfl ?_
  refine J_guard rfl rfl rfl ?_
  refine J_len_str rfl rfl rfl ?_
  refine J_guard rfl rfl rfl ?_
  refine J_cmp rfl rfl rfl rfl rfl ?_
  refine J_pick_false rfl rfl rfl rfl ?_
  refine J_nil3 ?_
  refine E_then ?_
  refine R_cond rfl (fun hh => ?_) (fun hh => ?_)
  simp only [decide_eq_true_eq, decide_eq_false_iff_not, Bool.and_eq_true, Bool.or_eq_true, Bool.not_eq_true', Bool.not_eq_false', beq_iff_eq, bne_iff_ne, beq_eq_false_iff_ne, bne_eq_false_iff_eq, ne_eq, ge_iff_le, gt_iff_lt, Int.not_le, Int.not_lt, Bool.and_eq_false_iff, Bool.or_eq_false_iff, Decidable.not_not] at hh
  exfalso; omega
  simp only [decide_eq_true_eq, decide_eq_false_iff_not, Bool.and_eq_true, Bool.or_eq_true, Bool.not_eq_true', Bool.not_eq_false', beq_iff_eq, bne_iff_ne, beq_eq_false_iff_ne, bne_eq_false_iff_eq, ne_eq, ge_iff_le, gt_iff_lt, Int.not_le, Int.not_lt, Bool.and_eq_false_iff, Bool.or_eq_false_iff, Decidable.not_not] at hh
  refine R_skip ?_
  refine E_then ?_
  refine R_seq ?_
  refine R_seq ?_
  refine R_region ?_
  refine J_move rfl rfl rfl ?_
  refine J_move rfl rfl rfl ?_
  refine J_nil2 ?_
  refine E_then ?_
  refine R_block ?_
  rw [e1]
  skip
  refine R_loop (X := {j : Nat // j ≤ n ∧ W.saveE a ((chunks data n).take j) = 0}) (fun j => [(27, .int .i64 (j.1 : Int)), (26, .int .i64 (n : Int)), (0, .pointer (some ⟨b, 0, none⟩)), (1, .int .i64 a), (2, .string (S data))])
    (fun j => wal b (W.save a ((chunks data n).take j.1)) :: F) (fun j => n - j.1) ⟨0, by omega, rfl⟩ (by exact sub_cons rfl (sub_cons rfl (sub_cons rfl (sub_cons rfl (sub_cons rfl sub_nil))))) Gives.refl ?_
  rintro ⟨j, hj, h0⟩
  dsimp only
  refine R_seq ?_
  refine R_region ?_
  refine J_cmp rfl rfl rfl rfl rfl ?_
  refine J_nil1 ?_
  refine E_then ?_
  refine R_seq ?_
  refine R_cond rfl (fun hh => ?_) (fun hh => ?_)
  simp only [decide_eq_true_eq, decide_eq_false_iff_not, Bool.and_eq_true, Bool.or_eq_true, Bool.not_eq_true', Bool.not_eq_false', beq_iff_eq, bne_iff_ne, beq_eq_false_iff_ne, bne_eq_false_iff_eq, ne_eq, ge_iff_le, gt_iff_lt, Int.not_le, Int.not_lt, Bool.and_eq_false_iff, Bool.or_eq_false_iff, Decidable.not_not] at hh
  refine R_skip ?_
  refine E_then ?_
  refine R_seq ?_
  refine R_block ?_
  refine R_seq ?_
  refine R_region ?_
  refine J_move rfl rfl rfl ?_
  refine J_assign rfl rfl rfl ?_
  refine J_nil1 ?_
  refine E_then ?_
  refine R_seq ?_
  refine R_region ?_
  refine J_move rfl rfl rfl ?_
  refine J_move rfl rfl rfl ?_
  refine J_move rfl rfl rfl ?_
  rotate_left
  simp only [decide_eq_true_eq, decide_eq_false_iff_not, Bool.and_eq_true, Bool.or_eq_true, Bool.not_eq_true', Bool.not_eq_false', beq_iff_eq, bne_iff_ne, beq_eq_false_iff_ne, bne_eq_false_iff_eq, ne_eq, ge_iff_le, gt_iff_lt, Int.not_le, Int.not_lt, Bool.and_eq_false_iff, Bool.or_eq_false_iff, Decidable.not_not] at hh
  refine R_exit ?_
  refine E_then_exit ?_
  refine E_then_exit ?_
  refine E_block_hit ?_
  refine E_then ?_
  refine R_seq ?_
  refine R_region ?_
  refine J_assign rfl rfl rfl ?_
  refine J_nil ?_
  refine E_then ?_
  refine R_ret ?_
  rotate_left
  · have hlt : j < n := by omega
    have hb : -9223372036854775808 ≤ a + j ∧ a + j < 9223372036854775808 := by
      rcases Nat.eq_zero_or_pos j with hz | hz
      · subst hz; omega
      · have h1 := save_home _ h0 (j - 1) (by simp [hcl]; omega)
        have := home_lt ok h1
        omega
    have e2 : (data.drop ((j : Int) * 64).toNat).length = data.length - ((j : Int) * 64).toNat := List.length_drop
    refine J_ari64 rfl rfl rfl (by omega) rfl rfl ?_
    refine J_move rfl rfl rfl ?_
    refine J_move rfl rfl rfl ?_
    refine J_ari64 rfl rfl rfl (by omega) rfl rfl ?_
    refine J_slice_lo rfl rfl (by omega) (by omega) rfl rfl ?_
    refine J_slice_hi rfl rfl (by omega) (by omega) rfl rfl ?_
    have e3 : ((data.drop ((j : Int) * 64).toNat).take (Int.toNat 64)) = (chunks data n)[j]'(by omega) := by
      have e4 : ((j : Int) * 64).toNat = 64 * j := by omega
      simp only [chunks, List.getElem_map, List.getElem_range, e4]; rfl
    rw [e3]
    have htk : ((chunks data n).take j).length = j := by simp [hcl]; omega
    have hsn := save_snoc _ W a ((chunks data n)[j]'(by omega)) h0
    rw [htk, ← List.take_succ_eq_append_getElem (by omega)] at hsn
    refine J_callr rfl (wal_Stage b (W.save a ((chunks data n).take j)) (save_ok _ ok a) (a + j) ((chunks data n)[j]'(by omega)) _) (by exact Gives.refl) rfl rfl ?_
    rw [← hsn.1, ← hsn.2]
    by_cases hz : W.saveE a ((chunks data n).take (j + 1)) = 0
    · rw [hz]
      refine J_assign rfl rfl rfl ?_
      refine J_nil3 ?_
      refine E_then ?_
      refine R_seq ?_
      refine R_region ?_
      refine J_move rfl rfl rfl ?_
      refine J_cmp rfl rfl rfl rfl rfl ?_
      refine J_nil2 ?_
      refine E_then ?_
      refine R_cond_false rfl ?_
      refine R_skip ?_
      refine E_block_normal ?_
      refine E_then ?_
      refine R_region ?_
      refine J_ari64 rfl rfl rfl (by omega) rfl rfl ?_
      refine J_moveg rfl rfl rfl ?_
      refine J_nil1 ?_
      exact E_thenI fun a' w he hs => ⟨⟨j + 1, by omega, hz⟩, by simp; omega, he.sub (by exact sub_cons rfl (sub_cons rfl (sub_cons rfl (sub_cons rfl (sub_cons rfl sub_nil))))), hs⟩
    · have hx := save_err _ W a ((chunks data n).drop (j + 1)) hz
      rw [List.take_append_drop] at hx
      rw [hx.1, hx.2]
      refine J_assign rfl rfl rfl ?_
      refine J_nil3 ?_
      refine E_then ?_
      refine R_seq ?_
      refine R_region ?_
      refine J_move rfl rfl rfl ?_
      refine J_cmp rfl rfl rfl rfl rfl ?_
      refine J_nil2 ?_
      refine E_then ?_
      refine R_cond rfl (fun hh => ?_) (fun hh => ?_)
      simp only [decide_eq_true_eq, decide_eq_false_iff_not, Bool.and_eq_true, Bool.or_eq_true, Bool.not_eq_true', Bool.not_eq_false', beq_iff_eq, bne_iff_ne, beq_eq_false_iff_ne, bne_eq_false_iff_eq, ne_eq, ge_iff_le, gt_iff_lt, Int.not_le, Int.not_lt, Bool.and_eq_false_iff, Bool.or_eq_false_iff, Decidable.not_not] at hh
      refine R_seq ?_
      refine R_region ?_
      refine J_move rfl rfl rfl ?_
      refine J_assign rfl rfl rfl ?_
      refine J_nil1 ?_
      refine E_then ?_
      refine R_ret ?_
      refine E_block_ret ?_
      refine E_then_ret ?_
      refine E_then_ret ?_
      refine E_block_ret ?_
      refine E_then_ret ?_
      rotate_left
      simp only [decide_eq_true_eq, decide_eq_false_iff_not, Bool.and_eq_true, Bool.or_eq_true, Bool.not_eq_true', Bool.not_eq_false', beq_iff_eq, bne_iff_ne, beq_eq_false_iff_ne, bne_eq_false_iff_eq, ne_eq, ge_iff_le, gt_iff_lt, Int.not_le, Int.not_lt, Bool.and_eq_false_iff, Bool.or_eq_false_iff, Decidable.not_not] at hh
      exfalso; omega
      apply E_retP Tryz.results36
      · exact Res.tmp rfl (Res.nil)
      · exact Gives.refl
      rfl
  · have ej : j = n := by omega
    subst ej
    have et : (chunks data j).take j = chunks data j := List.take_of_length_le (by omega)
    rw [et] at h0 ⊢
    rw [h0]
    apply E_retP Tryz.results36
    · exact Res.tmp rfl (Res.nil)
    · exact Gives.refl
    rfl
theorem extent_Save0 (v : Option Addr) (a : Int) (data : Bytes) (hl : data.length ≤ 100000) (hd : data.length / 64 < 1 ∨ 16 < data.length / 64 ∨ data.length % 64 ≠ 0) (F : List HP) :
    Fn Tryz.prog 36 [.pointer v, .int .i64 a, .string (S data)] F (Pst (.int .i64 12) F) := by
  refine Fn_enter Tryz.func36 rfl Tryz.ntmps36 rfl ?_
  refine R_seq ?_
  refine R_region ?_
  refine J_assign rfl rfl rfl ?_
  refine J_nil ?_
  refine E_then ?_
  refine R_seq ?_
  refine R_region ?_
  refine J_move rfl rfl rfl ?_
  refine J_len_str rfl rfl rfl ?_
  refine J_quo rfl rfl (by omega) (by omega) rfl rfl ?_
  refine J_assign rfl rfl rfl ?_
  refine J_nil3 ?_
  refine E_then ?_
  refine R_seq ?_
  refine R_seq ?_
  refine R_region ?_
  refine J_move rfl rfl rfl ?_
  refine J_cmp rfl rfl rfl rfl rfl ?_
  refine J_move rfl rfl rfl ?_
  refine J_guard_split rfl rfl (fun hh => ?_) (fun hh => ?_)
  simp only [decide_eq_true_eq, decide_eq_false_iff_not, Bool.and_eq_true, Bool.or_eq_true, Bool.not_eq_true', Bool.not_eq_false', beq_iff_eq, bne_iff_ne, beq_eq_false_iff_ne, bne_eq_false_iff_eq, ne_eq, ge_iff_le, gt_iff_lt, Int.not_le, Int.not_lt, Bool.and_eq_false_iff, Bool.or_eq_false_iff, Decidable.not_not] at hh
  refine J_guard_not rfl rfl rfl rfl rfl rfl ?_
  refine J_guard_not rfl rfl rfl rfl rfl rfl ?_
  refine J_pick_true rfl rfl rfl rfl ?_
  refine J_move rfl rfl rfl ?_
  refine J_guard_not rfl rfl rfl rfl rfl rfl ?_
  refine J_guard_not rfl rfl rfl rfl rfl rfl ?_
  refine J_guard_not rfl rfl rfl rfl rfl rfl ?_
  refine J_guard_not rfl rfl rfl rfl rfl rfl ?_
  refine J_guard_not rfl rfl rfl rfl rfl rfl ?_
  refine J_pick_true rfl rfl rfl rfl ?_
  refine J_nil3 ?_
  refine E_then ?_
  refine R_cond_true rfl ?_
  refine R_seq ?_
  refine R_region ?_
  refine J_assign rfl rfl rfl ?_
  refine J_nil ?_
  refine E_then ?_
  refine R_ret ?_
  refine E_then_ret ?_
  rotate_left
  simp only [decide_eq_true_eq, decide_eq_false_iff_not, Bool.and_eq_true, Bool.or_eq_true, Bool.not_eq_true', Bool.not_eq_false', beq_iff_eq, bne_iff_ne, beq_eq_false_iff_ne, bne_eq_false_iff_eq, ne_eq, ge_iff_le, gt_iff_lt, Int.not_le, Int.not_lt, Bool.and_eq_false_iff, Bool.or_eq_false_iff, Decidable.not_not] at hh
  refine J_guard rfl rfl rfl ?_
  refine J_move rfl rfl rfl ?_
  refine J_guard rfl rfl rfl ?_
  refine J_cmp rfl rfl rfl rfl rfl ?_
  refine J_pick_false rfl rfl rfl rfl ?_
  refine J_move rfl rfl rfl ?_
  refine J_guard_split rfl rfl (fun hh => ?_) (fun hh => ?_)
  simp only [decide_eq_true_eq, decide_eq_false_iff_not, Bool.and_eq_true, Bool.or_eq_true, Bool.not_eq_true', Bool.not_eq_false', beq_iff_eq, bne_iff_ne, beq_eq_false_iff_ne, bne_eq_false_iff_eq, ne_eq, ge_iff_le, gt_iff_lt, Int.not_le, Int.not_lt, Bool.and_eq_false_iff, Bool.or_eq_false_iff, Decidable.not_not] at hh
  refine J_guard_not rfl rfl rfl rfl rfl rfl ?_
  refine J_guard_not rfl rfl rfl rfl rfl rfl ?_
  refine J_guard_not rfl rfl rfl rfl rfl rfl ?_
  refine J_guard_not rfl rfl rfl rfl rfl rfl ?_
  refine J_guard_not rfl rfl rfl rfl rfl rfl ?_
  refine J_pick_true rfl rfl rfl rfl ?_
  refine J_nil3 ?_
  refine E_then ?_
  refine R_cond_true rfl ?_
  refine R_seq ?_
  refine R_region ?_
  refine J_assign rfl rfl rfl ?_
  refine J_nil ?_
  refine E_then ?_
  refine R_ret ?_
  refine E_then_ret ?_
  rotate_left
  simp only [decide_eq_true_eq, decide_eq_false_iff_not, Bool.and_eq_true, Bool.or_eq_true, Bool.not_eq_true', Bool.not_eq_false', beq_iff_eq, bne_iff_ne, beq_eq_false_iff_ne, bne_eq_false_iff_eq, ne_eq, ge_iff_le, gt_iff_lt, Int.not_le, Int.not_lt, Bool.and_eq_false_iff, Bool.or_eq_false_iff, Decidable.not_not] at hh
  refine J_guard rfl rfl rfl ?_
  refine J_move rfl rfl rfl ?_
  refine J_guard rfl rfl rfl ?_
  refine J_ari64 rfl rfl rfl (by omega) rfl rfl ?_
  refine J_guard rfl rfl rfl ?_
  refine J_move rfl rfl rfl ?_
  refine J_guard rfl rfl rfl ?_
  refine J_len_str rfl rfl rfl ?_
  refine J_guard rfl rfl rfl ?_
  refine J_cmp rfl rfl rfl rfl rfl ?_
  refine J_pick_false rfl rfl rfl rfl ?_
  refine J_nil3 ?_
  refine E_then ?_
  refine R_cond rfl (fun hh => ?_) (fun hh => ?_)
  simp only [decide_eq_true_eq, decide_eq_false_iff_not, Bool.and_eq_true, Bool.or_eq_true, Bool.not_eq_true', Bool.not_eq_false', beq_iff_eq, bne_iff_ne, beq_eq_false_iff_ne, bne_eq_false_iff_eq, ne_eq, ge_iff_le, gt_iff_lt, Int.not_le, Int.not_lt, Bool.and_eq_false_iff, Bool.or_eq_false_iff, Decidable.not_not] at hh
  refine R_seq ?_
  refine R_region ?_
  refine J_assign rfl rfl rfl ?_
  refine J_nil ?_
  refine E_then ?_
  refine R_ret ?_
  refine E_then_ret ?_
  rotate_left
  simp only [decide_eq_true_eq, decide_eq_false_iff_not, Bool.and_eq_true, Bool.or_eq_true, Bool.not_eq_true', Bool.not_eq_false', beq_iff_eq, bne_iff_ne, beq_eq_false_iff_ne, bne_eq_false_iff_eq, ne_eq, ge_iff_le, gt_iff_lt, Int.not_le, Int.not_lt, Bool.and_eq_false_iff, Bool.or_eq_false_iff, Decidable.not_not] at hh
  exfalso; omega
  all_goals first
    | (apply E_retP Tryz.results36
       · exact Res.tmp rfl (Res.nil)
       · (repeat (with_reducible exact Gives.refl))
       rfl)
    | (exfalso; omega)
end Go.Proofs.Sol

/- Sectors that follow one another, read; extents. -/
namespace Go.Proofs.Sol
open Go Go.Proofs
set_option maxRecDepth 100000
set_option maxHeartbeats 4000000
set_option linter.unusedVariables false
set_option linter.unusedSimpArgs false
attribute [local irreducible] R J JW E D Fn Y clf mpI own Sat Exit.then Exit.inBlock bodyPost bodyPostM Code.wpIn wpL
theorem ld_snoc (W : Wl) : ∀ (j : Nat) (a : Int), W.ldE a (j + 1) = (if W.ldE a j = 0 then W.rdE (a + j) else W.ldE a j) ∧ W.ld a (j + 1) = W.ld a j ++ W.rd (a + j) := by
  intro j
  induction j with
  | zero =>
    intro a
    have e : a + ((0 : Nat) : Int) = a := by omega
    simp only [Wl.ldE, Wl.ld, e, if_true, List.append_nil, List.nil_append]
    refine ⟨?_, trivial⟩
    by_cases h : W.rdE a = 0
    · rw [if_pos h, h]
    · rw [if_neg h]
  | succ j ih =>
    intro a
    have e : a + 1 + (j : Int) = a + ((j + 1 : Nat) : Int) := by omega
    have h1 := ih (a + 1)
    rw [e] at h1
    constructor
    · show (if W.rdE a = 0 then W.ldE (a + 1) (j + 1) else W.rdE a) = if (if W.rdE a = 0 then W.ldE (a + 1) j else W.rdE a) = 0 then W.rdE (a + ((j + 1 : Nat) : Int)) else (if W.rdE a = 0 then W.ldE (a + 1) j else W.rdE a)
      rw [h1.1]
      by_cases h : W.rdE a = 0
      · simp only [if_pos h]
      · simp only [if_neg h]
    · show W.rd a ++ W.ld (a + 1) (j + 1) = W.rd a ++ W.ld (a + 1) j ++ W.rd (a + ((j + 1 : Nat) : Int))
      rw [h1.2, List.append_assoc]
theorem rd_known {W : Wl} (ok : WlOk W) (hV : ∀ s ∈ W.V, s.length = 64) {i : Int} (h : W.rdE i = 0) : (0 ≤ i ∧ i < 1000) ∧ (W.rd i).length = 64 := by
  have hn := ok.n
  unfold Wl.rdE Wl.rd at *
  cases hs : seen W.K W.Lo i with
  | some s =>
    have hm : (i, s) ∈ W.Lo ∨ (i, s) ∈ W.K := by
      unfold seen at hs
      cases h1 : mget W.Lo i with
      | some t => rw [h1] at hs; simp at hs; subst hs; exact .inl (mget_mem h1)
      | none => rw [h1] at hs; simp at hs; exact .inr (mget_mem hs)
    rcases hm with hm | hm
    · exact ⟨home_lt ok (ok.loH _ hm).1, (ok.loH _ hm).2⟩
    · exact ⟨home_lt ok (ok.kH _ hm).1, (ok.kH _ hm).2⟩
  | none =>
    rw [hs] at h
    dsimp only at h ⊢
    unfold Sol.rdE at h
    split at h
    · rename_i hi
      unfold rdV
      rw [if_pos hi, List.getD_eq_getElem?_getD, List.getElem?_eq_getElem (by omega)]
      exact ⟨by omega, hV _ (List.getElem_mem _)⟩
    · cases h
theorem ld_length {W : Wl} (ok : WlOk W) (hV : ∀ s ∈ W.V, s.length = 64) : ∀ (j : Nat) (a : Int), W.ldE a j = 0 → (W.ld a j).length = 64 * j := by
  intro j
  induction j with
  | zero => intro a _; rfl
  | succ j ih =>
    intro a h
    unfold Wl.ldE at h
    split at h
    · rename_i h1
      unfold Wl.ld
      rw [List.length_append, ih _ h, (rd_known ok hV h1).2]; omega
    · rename_i h1; exact absurd h h1
theorem wal_le {w : World} {b : Nat} {W : Wl} {k : Nat} {L : List HP} (hk : W.k ≤ k) (h : Sat w (wal b W :: L)) : Sat w (wal b { W with k := k } :: L) := by
  obtain ⟨p, s⟩ := open_wal h
  dsimp only [walL, List.cons_append, List.nil_append] at s
  have s2 : Sat w (dvk W.d W.V W.k :: walH b W p :: reg p.1 W.d W.fr 2 :: reg p.2.1 W.d (W.fr + 2) (W.many - 2) :: shd p.2.2 W.K W.Lo :: L) := s.gives (by exact Gives.last (Take.next (Take.next (Take.next (Take.next Take.here)))))
  have s3 := dvk_le hk s2
  have s4 : Sat w (walH b W p :: reg p.1 W.d W.fr 2 :: reg p.2.1 W.d (W.fr + 2) (W.many - 2) :: shd p.2.2 W.K W.Lo :: dvk W.d W.V k :: L) := s3.gives (by exact Gives.cons (Take.next Take.here) (Gives.cons (Take.next Take.here) (Gives.cons (Take.next Take.here) (Gives.last (Take.next Take.here)))))
  exact shut_wal (p := p) s4
theorem wal_V {w : World} {b : Nat} {W : Wl} {L : List HP} (h : Sat w (wal b W :: L)) : ∀ s ∈ W.V, s.length = 64 := by
  obtain ⟨p, s⟩ := open_wal h
  dsimp only [walL, List.cons_append, List.nil_append] at s
  exact (dvk_know s.drop.drop.drop.drop).2
theorem extent_Load (b : Nat) (W : Wl) (ok : WlOk W) (a : Int) (ha : -9223372036854775808 ≤ a ∧ a < 9223372036854775808) (n : Nat) (hn : n ≤ 16) (hk : W.k < 10000000) (F : List HP) :
    Fn Tryz.prog 38 [.pointer (some ⟨b, 0, none⟩), .int .i64 a, .int .i64 (n : Int)] (wal b W :: F) (Pst (.tuple #[.string (S (if W.ldE a n = 0 then W.ld a n else [])), .int .i64 (W.ldE a n)]) (wal b { W with k := W.k + n } :: F)) := by
  refine Fn.know (fun w h => wal_V h) fun hV => ?_
  refine Fn_enter Tryz.func38 rfl Tryz.ntmps38 rfl ?_
  refine R_seq ?_
  refine R_region ?_
  refine J_assign rfl rfl rfl ?_
  refine J_assign rfl rfl rfl ?_
  refine J_nil ?_
  refine E_then ?_
  refine R_seq ?_
  refine R_seq ?_
  refine R_region ?_
  refine J_move rfl rfl rfl ?_
  refine J_cmp rfl rfl rfl rfl rfl ?_
  refine J_move rfl rfl rfl ?_
  refine J_guard rfl rfl rfl ?_
  refine J_move rfl rfl rfl ?_
  refine J_guard rfl rfl rfl ?_
  refine J_cmp rfl rfl rfl rfl rfl ?_
  refine J_pick_false rfl rfl rfl rfl ?_
  refine J_nil3 ?_
  refine E_then ?_
  refine R_cond rfl (fun hh => ?_) (fun hh => ?_)
  simp only [decide_eq_true_eq, decide_eq_false_iff_not, Bool.and_eq_true, Bool.or_eq_true, Bool.not_eq_true', Bool.not_eq_false', beq_iff_eq, bne_iff_ne, beq_eq_false_iff_ne, bne_eq_false_iff_eq, ne_eq, ge_iff_le, gt_iff_lt, Int.not_le, Int.not_lt, Bool.and_eq_false_iff, Bool.or_eq_false_iff, Decidable.not_not] at hh
  exfalso; omega
  simp only [decide_eq_true_eq, decide_eq_false_iff_not, Bool.and_eq_true, Bool.or_eq_true, Bool.not_eq_true', Bool.not_eq_false', beq_iff_eq, bne_iff_ne, beq_eq_false_iff_ne, bne_eq_false_iff_eq, ne_eq, ge_iff_le, gt_iff_lt, Int.not_le, Int.not_lt, Bool.and_eq_false_iff, Bool.or_eq_false_iff, Decidable.not_not] at hh
  refine R_skip ?_
  refine E_then ?_
  refine R_seq ?_
  refine R_region ?_
  refine J_alloc rfl rfl ?_; intro
  refine J_nil ?_
  refine E_then ?_
  refine R_seq ?_
  refine R_seq ?_
  refine R_region ?_
  refine J_move rfl rfl rfl ?_
  refine J_move rfl rfl rfl ?_
  refine J_nil2 ?_
  refine E_then ?_
  refine R_block ?_
  rename_i bb
  refine R.open_ (α := Unit) (M := fun _ => bldr bb [] :: wal b { W with k := W.k + 0 } :: F) (fun w s => ⟨(), new_bldr s⟩) ?_
  rintro ⟨⟩
  skip
  refine R_loop (X := {j : Nat // j ≤ n ∧ W.ldE a j = 0}) (fun j => [(19, .int .i64 (j.1 : Int)), (18, .int .i64 (n : Int)), (0, .pointer (some ⟨b, 0, none⟩)), (1, .int .i64 a), (8, .pointer (some ⟨bb, 0, none⟩))])
    (fun j => bldr bb (W.ld a j.1) :: wal b { W with k := W.k + j.1 } :: F) (fun j => n - j.1) ⟨0, by omega, rfl⟩ (by exact sub_cons rfl (sub_cons rfl (sub_cons rfl (sub_cons rfl (sub_cons rfl sub_nil))))) Gives.refl ?_
  rintro ⟨j, hj, h0⟩
  dsimp only
  have hll := ld_length ok hV j a h0
  refine R_seq ?_
  refine R_region ?_
  refine J_cmp rfl rfl rfl rfl rfl ?_
  refine J_nil1 ?_
  refine E_then ?_
  refine R_seq ?_
  refine R_cond rfl (fun hh => ?_) (fun hh => ?_)
  simp only [decide_eq_true_eq, decide_eq_false_iff_not, Bool.and_eq_true, Bool.or_eq_true, Bool.not_eq_true', Bool.not_eq_false', beq_iff_eq, bne_iff_ne, beq_eq_false_iff_ne, bne_eq_false_iff_eq, ne_eq, ge_iff_le, gt_iff_lt, Int.not_le, Int.not_lt, Bool.and_eq_false_iff, Bool.or_eq_false_iff, Decidable.not_not] at hh
  refine R_skip ?_
  refine E_then ?_
  refine R_seq ?_
  refine R_block ?_
  refine R_seq ?_
  refine R_region ?_
  refine J_move rfl rfl rfl ?_
  refine J_assign rfl rfl rfl ?_
  refine J_nil1 ?_
  refine E_then ?_
  refine R_seq ?_
  refine R_region ?_
  refine J_move rfl rfl rfl ?_
  refine J_move rfl rfl rfl ?_
  refine J_move rfl rfl rfl ?_
  rotate_left
  simp only [decide_eq_true_eq, decide_eq_false_iff_not, Bool.and_eq_true, Bool.or_eq_true, Bool.not_eq_true', Bool.not_eq_false', beq_iff_eq, bne_iff_ne, beq_eq_false_iff_ne, bne_eq_false_iff_eq, ne_eq, ge_iff_le, gt_iff_lt, Int.not_le, Int.not_lt, Bool.and_eq_false_iff, Bool.or_eq_false_iff, Decidable.not_not] at hh
  refine R_exit ?_
  refine E_then_exit ?_
  refine E_then_exit ?_
  refine E_block_hit ?_
  refine E_then ?_
  refine R_seq ?_
  refine R_region ?_
  rotate_left
  · have hlt : j < n := by omega
    have hsn := ld_snoc W j a
    rw [if_pos h0] at hsn
    have hb : -9223372036854775808 ≤ a + j ∧ a + j < 9223372036854775808 := by
      rcases Nat.eq_zero_or_pos j with hz | hz
      · subst hz; omega
      · obtain ⟨i, rfl⟩ : ∃ i, j = i + 1 := ⟨j - 1, by omega⟩
        have h1 := (ld_snoc W i a).1
        rw [h0] at h1
        have h2 : W.rdE (a + i) = 0 := by
          by_cases h3 : W.ldE a i = 0
          · rw [if_pos h3] at h1; exact h1.symm
          · rw [if_neg h3] at h1; exact absurd h1.symm h3
        have := (rd_known ok hV h2).1
        omega
    refine J_ari64 rfl rfl rfl (by omega) rfl rfl ?_
    refine J_callr rfl (wal_Read b { W with k := W.k + j } (a + j) (by dsimp only; omega) _) (by exact Gives.last (Take.next Take.here)) rfl rfl ?_
    have hr1 : ({ W with k := W.k + j } : Wl).rd (a + j) = W.rd (a + j) := rfl
    have hr2 : ({ W with k := W.k + j } : Wl).rdE (a + j) = W.rdE (a + j) := rfl
    rw [hr1, hr2]
    by_cases hz : W.rdE (a + j) = 0
    · have hl := (rd_known ok hV hz).2
      rw [hz] at hsn
      rw [hz]
      refine J_move rfl rfl rfl ?_
      refine J_extract rfl rfl rfl rfl ?_
      refine J_extract rfl rfl rfl rfl ?_
      refine J_assign rfl rfl rfl ?_
      refine J_assign rfl rfl rfl ?_
      refine J_nil3 ?_
      refine E_then ?_
      refine R_seq ?_
      refine R_seq ?_
      refine R_region ?_
      refine J_move rfl rfl rfl ?_
      refine J_cmp rfl rfl rfl rfl rfl ?_
      refine J_nil2 ?_
      refine E_then ?_
      refine R_cond_false rfl ?_
      refine R_skip ?_
      refine E_then ?_
      refine R_region ?_
      refine J_move rfl rfl rfl ?_
      refine J_callr rfl (Builder_WriteString bb (W.ld a j) (W.rd (a + j)) (by omega) _) (by exact Gives.last (Take.next Take.here)) rfl rfl ?_
      refine J_nil2 ?_
      refine E_block_normal ?_
      refine E_then ?_
      refine R_region ?_
      refine J_ari64 rfl rfl rfl (by omega) rfl rfl ?_
      refine J_moveg rfl rfl rfl ?_
      refine J_nil1 ?_
      rw [← hsn.2]
      exact E_thenI fun a' w he hs => ⟨⟨j + 1, by omega, hsn.1⟩, by simp; omega, he.sub (by exact sub_cons rfl (sub_cons rfl (sub_cons rfl (sub_cons rfl (sub_cons rfl sub_nil))))), hs⟩
    · have hE : W.ldE a n = W.rdE (a + j) := by
        have key : ∀ i, j + 1 ≤ i → W.ldE a i = W.rdE (a + j) := by
          intro i hi
          induction i with
          | zero => omega
          | succ i ih =>
            rcases Nat.lt_or_ge j i with h | h
            · have h1 := ih (by omega)
              rw [(ld_snoc W i a).1, if_neg (by rw [h1]; exact hz), h1]
            · have : i = j := by omega
              subst this; exact hsn.1
        exact key n (by omega)
      rw [hE, if_neg hz]
      refine J_move rfl rfl rfl ?_
      refine J_extract rfl rfl rfl rfl ?_
      refine J_extract rfl rfl rfl rfl ?_
      refine J_assign rfl rfl rfl ?_
      refine J_assign rfl rfl rfl ?_
      refine J_nil3 ?_
      refine E_then ?_
      refine R_seq ?_
      refine R_seq ?_
      refine R_region ?_
      refine J_move rfl rfl rfl ?_
      refine J_cmp rfl rfl rfl rfl rfl ?_
      refine J_nil2 ?_
      refine E_then ?_
      refine R_cond rfl (fun hh => ?_) (fun hh => ?_)
      simp only [decide_eq_true_eq, decide_eq_false_iff_not, Bool.and_eq_true, Bool.or_eq_true, Bool.not_eq_true', Bool.not_eq_false', beq_iff_eq, bne_iff_ne, beq_eq_false_iff_ne, bne_eq_false_iff_eq, ne_eq, ge_iff_le, gt_iff_lt, Int.not_le, Int.not_lt, Bool.and_eq_false_iff, Bool.or_eq_false_iff, Decidable.not_not] at hh
      refine R_seq ?_
      refine R_region ?_
      refine J_move rfl rfl rfl ?_
      refine J_assign rfl rfl rfl ?_
      refine J_assign rfl rfl rfl ?_
      refine J_nil1 ?_
      refine E_then ?_
      refine R_ret ?_
      refine E_then_ret ?_
      refine E_block_ret ?_
      refine E_then_ret ?_
      refine E_then_ret ?_
      refine E_block_ret ?_
      refine E_then_ret ?_
      rotate_left
      simp only [decide_eq_true_eq, decide_eq_false_iff_not, Bool.and_eq_true, Bool.or_eq_true, Bool.not_eq_true', Bool.not_eq_false', beq_iff_eq, bne_iff_ne, beq_eq_false_iff_ne, bne_eq_false_iff_eq, ne_eq, ge_iff_le, gt_iff_lt, Int.not_le, Int.not_lt, Bool.and_eq_false_iff, Bool.or_eq_false_iff, Decidable.not_not] at hh
      exfalso; omega
      apply E_ret Tryz.results38
      · exact Res.tmp rfl (Res.tmp rfl (Res.nil))
      · intro w s
        refine ⟨rfl, ?_⟩
        have s2 : Sat w (wal b { W with k := W.k + j + 1 } :: F) := s.gives (by exact Gives.cons Take.here (Gives.drop Gives.refl))
        exact wal_le (W := { W with k := W.k + j + 1 }) (k := W.k + n) (by dsimp only; omega) s2
  · have ej : j = n := by omega
    subst ej
    rw [h0]
    simp only [if_true]
    refine J_callr rfl (Builder_String bb (W.ld a j) (by omega) _) (by exact Gives.refl) rfl rfl ?_
    refine J_assign rfl rfl rfl ?_
    refine J_assign rfl rfl rfl ?_
    refine J_nil1 ?_
    refine E_then ?_
    refine R_ret ?_
    apply E_retP Tryz.results38
    · exact Res.tmp rfl (Res.tmp rfl (Res.nil))
    · exact Gives.refl
    rfl
theorem extent_LoadR (v : Option Addr) (a n : Int) (hn : n < 0 ∨ 16 < n) (F : List HP) : Fn Tryz.prog 38 [.pointer v, .int .i64 a, .int .i64 n] F (Pst (.tuple #[.string (S []), .int .i64 3]) F) := by
  refine Fn_enter Tryz.func38 rfl Tryz.ntmps38 rfl ?_
  refine R_seq ?_
  refine R_region ?_
  refine J_assign rfl rfl rfl ?_
  refine J_assign rfl rfl rfl ?_
  refine J_nil ?_
  refine E_then ?_
  refine R_seq ?_
  refine R_seq ?_
  refine R_region ?_
  refine J_move rfl rfl rfl ?_
  refine J_cmp rfl rfl rfl rfl rfl ?_
  refine J_move rfl rfl rfl ?_
  refine J_guard_split rfl rfl (fun hh => ?_) (fun hh => ?_)
  simp only [decide_eq_true_eq, decide_eq_false_iff_not, Bool.and_eq_true, Bool.or_eq_true, Bool.not_eq_true', Bool.not_eq_false', beq_iff_eq, bne_iff_ne, beq_eq_false_iff_ne, bne_eq_false_iff_eq, ne_eq, ge_iff_le, gt_iff_lt, Int.not_le, Int.not_lt, Bool.and_eq_false_iff, Bool.or_eq_false_iff, Decidable.not_not] at hh
  refine J_guard_not rfl rfl rfl rfl rfl rfl ?_
  refine J_guard_not rfl rfl rfl rfl rfl rfl ?_
  refine J_pick_true rfl rfl rfl rfl ?_
  refine J_nil3 ?_
  refine E_then ?_
  refine R_cond_true rfl ?_
  refine R_seq ?_
  refine R_region ?_
  refine J_assign rfl rfl rfl ?_
  refine J_assign rfl rfl rfl ?_
  refine J_nil ?_
  refine E_then ?_
  refine R_ret ?_
  refine E_then_ret ?_
  rotate_left
  simp only [decide_eq_true_eq, decide_eq_false_iff_not, Bool.and_eq_true, Bool.or_eq_true, Bool.not_eq_true', Bool.not_eq_false', beq_iff_eq, bne_iff_ne, beq_eq_false_iff_ne, bne_eq_false_iff_eq, ne_eq, ge_iff_le, gt_iff_lt, Int.not_le, Int.not_lt, Bool.and_eq_false_iff, Bool.or_eq_false_iff, Decidable.not_not] at hh
  refine J_guard rfl rfl rfl ?_
  refine J_move rfl rfl rfl ?_
  refine J_guard rfl rfl rfl ?_
  refine J_cmp rfl rfl rfl rfl rfl ?_
  refine J_pick_false rfl rfl rfl rfl ?_
  refine J_nil3 ?_
  refine E_then ?_
  refine R_cond rfl (fun hh => ?_) (fun hh => ?_)
  simp only [decide_eq_true_eq, decide_eq_false_iff_not, Bool.and_eq_true, Bool.or_eq_true, Bool.not_eq_true', Bool.not_eq_false', beq_iff_eq, bne_iff_ne, beq_eq_false_iff_ne, bne_eq_false_iff_eq, ne_eq, ge_iff_le, gt_iff_lt, Int.not_le, Int.not_lt, Bool.and_eq_false_iff, Bool.or_eq_false_iff, Decidable.not_not] at hh
  refine R_seq ?_
  refine R_region ?_
  refine J_assign rfl rfl rfl ?_
  refine J_assign rfl rfl rfl ?_
  refine J_nil ?_
  refine E_then ?_
  refine R_ret ?_
  refine E_then_ret ?_
  rotate_left
  simp only [decide_eq_true_eq, decide_eq_false_iff_not, Bool.and_eq_true, Bool.or_eq_true, Bool.not_eq_true', Bool.not_eq_false', beq_iff_eq, bne_iff_ne, beq_eq_false_iff_ne, bne_eq_false_iff_eq, ne_eq, ge_iff_le, gt_iff_lt, Int.not_le, Int.not_lt, Bool.and_eq_false_iff, Bool.or_eq_false_iff, Decidable.not_not] at hh
  exfalso; omega
  all_goals first
    | (apply E_retP Tryz.results38
       · exact Res.tmp rfl (Res.tmp rfl (Res.nil))
       · (repeat (with_reducible exact Gives.refl))
       rfl)
    | (exfalso; omega)
theorem extent_Load0 (a : Int) (ha : -9223372036854775808 ≤ a ∧ a < 9223372036854775808) (F : List HP) : Fn Tryz.prog 38 [.pointer none, .int .i64 a, .int .i64 2] F (Pst (.tuple #[.string (S []), .int .i64 10]) F) := by
  refine Fn_enter Tryz.func38 rfl Tryz.ntmps38 rfl ?_
  refine R_seq ?_
  refine R_region ?_
  refine J_assign rfl rfl rfl ?_
  refine J_assign rfl rfl rfl ?_
  refine J_nil ?_
  refine E_then ?_
  refine R_seq ?_
  refine R_seq ?_
  refine R_region ?_
  refine J_move rfl rfl rfl ?_
  refine J_cmp rfl rfl rfl rfl rfl ?_
  refine J_move rfl rfl rfl ?_
  refine J_guard rfl rfl rfl ?_
  refine J_move rfl rfl rfl ?_
  refine J_guard rfl rfl rfl ?_
  refine J_cmp rfl rfl rfl rfl rfl ?_
  refine J_pick_false rfl rfl rfl rfl ?_
  refine J_nil3 ?_
  refine E_then ?_
  refine R_cond_false rfl ?_
  refine R_skip ?_
  refine E_then ?_
  refine R_seq ?_
  refine R_region ?_
  refine J_alloc rfl rfl ?_; intro
  refine J_nil ?_
  refine E_then ?_
  refine R_seq ?_
  refine R_seq ?_
  refine R_region ?_
  refine J_move rfl rfl rfl ?_
  refine J_move rfl rfl rfl ?_
  refine J_nil2 ?_
  refine E_then ?_
  refine R_block ?_
  refine R_loop (X := Unit) (fun _ => [(19, .int .i64 0), (18, .int .i64 2), (0, .pointer none), (1, .int .i64 a)]) (fun _ => F) (fun _ => 0) () (by exact sub_cons rfl (sub_cons rfl (sub_cons rfl (sub_cons rfl sub_nil)))) (by exact Gives.drop Gives.refl) ?_
  rintro ⟨⟩
  refine R_seq ?_
  refine R_region ?_
  refine J_cmp rfl rfl rfl rfl rfl ?_
  refine J_nil1 ?_
  refine E_then ?_
  refine R_seq ?_
  refine R_cond_true rfl ?_
  refine R_skip ?_
  refine E_then ?_
  refine R_seq ?_
  refine R_block ?_
  refine R_seq ?_
  refine R_region ?_
  refine J_move rfl rfl rfl ?_
  refine J_assign rfl rfl rfl ?_
  refine J_nil1 ?_
  refine E_then ?_
  refine R_seq ?_
  refine R_region ?_
  refine J_move rfl rfl rfl ?_
  refine J_move rfl rfl rfl ?_
  refine J_move rfl rfl rfl ?_
  refine J_ari64 rfl rfl rfl (by omega) rfl rfl ?_
  refine J_callr rfl (wal_Read0 _ _) (by exact Gives.refl) rfl rfl ?_
  refine J_move rfl rfl rfl ?_
  refine J_extract rfl rfl rfl rfl ?_
  refine J_extract rfl rfl rfl rfl ?_
  refine J_assign rfl rfl rfl ?_
  refine J_assign rfl rfl rfl ?_
  refine J_nil3 ?_
  refine E_then ?_
  refine R_seq ?_
  refine R_seq ?_
  refine R_region ?_
  refine J_move rfl rfl rfl ?_
  refine J_cmp rfl rfl rfl rfl rfl ?_
  refine J_nil2 ?_
  refine E_then ?_
  refine R_cond_true rfl ?_
  refine R_seq ?_
  refine R_region ?_
  refine J_move rfl rfl rfl ?_
  refine J_assign rfl rfl rfl ?_
  refine J_assign rfl rfl rfl ?_
  refine J_nil1 ?_
  refine E_then ?_
  refine R_ret ?_
  refine E_then_ret ?_
  refine E_block_ret ?_
  refine E_then_ret ?_
  refine E_then_ret ?_
  refine E_block_ret ?_
  refine E_then_ret ?_
  apply E_retP Tryz.results38
  · exact Res.tmp rfl (Res.tmp rfl (Res.nil))
  · exact Gives.refl
  rfl
end Go.Proofs.Sol

/- Extents. -/
namespace Go.Proofs.Sol
open Go Go.Proofs
set_option maxRecDepth 100000
set_option maxHeartbeats 4000000
set_option linter.unusedVariables false
set_option linter.unusedSimpArgs false
attribute [local irreducible] R J JW E D Fn Y clf mpI own Sat Exit.then Exit.inBlock bodyPost bodyPostM Code.wpIn wpL
theorem extent_Read (b : Nat) (W : Wl) (ok : WlOk W) (c : Cfg) (n : Int) (h : chk c n c.E = 0) (hk : W.k < 10000000) (F : List HP) :
    Fn Tryz.prog 39 [.pointer (some ⟨b, 0, none⟩), cfgV c, .int .i64 n] (wal b W :: F) (Pst (.tuple #[.string (S (if W.ldE (pExt c + n * 2) 2 = 0 then W.ld (pExt c + n * 2) 2 else [])), .int .i64 (W.ldE (pExt c + n * 2) 2)]) (wal b { W with k := W.k + 2 } :: F)) := by
  obtain ⟨hc, h1, h2⟩ := chk_ok h
  have h3 := cfgOk_spec hc
  have e : pExt c = 2 + (c.E + 1) / 2 := rfl
  refine Fn_enter Tryz.func39 rfl Tryz.ntmps39 rfl ?_
  refine R_seq ?_
  refine R_region ?_
  refine J_boxA rfl rfl rfl ?_; intro
  refine J_assign rfl rfl rfl ?_
  refine J_assign rfl rfl rfl ?_
  refine J_nil ?_
  refine E_then ?_
  refine R_seq ?_
  refine R_region ?_
  refine J_loadA rfl rfl rfl rfl ?_
  refine J_move rfl rfl rfl ?_
  refine J_callr rfl (layout_Extent c n _) (by exact Gives.refl) rfl rfl ?_
  rw [h, if_pos rfl]
  refine J_move rfl rfl rfl ?_
  refine J_extract rfl rfl rfl rfl ?_
  refine J_extract rfl rfl rfl rfl ?_
  refine J_assign rfl rfl rfl ?_
  refine J_assign rfl rfl rfl ?_
  refine J_nil3 ?_
  refine E_then ?_
  refine R_seq ?_
  refine R_seq ?_
  refine R_region ?_
  refine J_move rfl rfl rfl ?_
  refine J_cmp rfl rfl rfl rfl rfl ?_
  refine J_nil2 ?_
  refine E_then ?_
  refine R_cond_false rfl ?_
  refine R_skip ?_
  refine E_then ?_
  refine R_seq ?_
  refine R_region ?_
  refine J_move rfl rfl rfl ?_
  refine J_move rfl rfl rfl ?_
  refine J_callr rfl (extent_Load b W ok (pExt c + n * 2) (by omega) 2 (by omega) hk _) (by exact Gives.last (Take.next Take.here)) rfl rfl ?_
  refine J_extract rfl rfl rfl rfl ?_
  refine J_extract rfl rfl rfl rfl ?_
  refine J_assign rfl rfl rfl ?_
  refine J_assign rfl rfl rfl ?_
  refine J_nil3 ?_
  refine E_then ?_
  refine R_ret ?_
  apply E_retP Tryz.results39
  · exact Res.tmp rfl (Res.tmp rfl (Res.nil))
  · exact Gives.cons Take.here (Gives.drop Gives.refl)
  rfl
theorem extent_Read0 (c : Cfg) (n : Int) (F : List HP) : Fn Tryz.prog 39 [.pointer none, cfgV c, .int .i64 n] F (Pst (.tuple #[.string (S []), .int .i64 (if chk c n c.E = 0 then 10 else chk c n c.E)]) F) := by
  by_cases h : chk c n c.E = 0
  · obtain ⟨hc, h1, h2⟩ := chk_ok h
    have h3 := cfgOk_spec hc
    have e : pExt c = 2 + (c.E + 1) / 2 := rfl
    refine Fn_enter Tryz.func39 rfl Tryz.ntmps39 rfl ?_
    refine R_seq ?_
    refine R_region ?_
    refine J_boxA rfl rfl rfl ?_; intro
    refine J_assign rfl rfl rfl ?_
    refine J_assign rfl rfl rfl ?_
    refine J_nil ?_
    refine E_then ?_
    refine R_seq ?_
    refine R_region ?_
    refine J_loadA rfl rfl rfl rfl ?_
    refine J_move rfl rfl rfl ?_
    refine J_callr rfl (layout_Extent c n _) (by exact Gives.refl) rfl rfl ?_
    rw [h, if_pos rfl, if_pos rfl]
    refine J_move rfl rfl rfl ?_
    refine J_extract rfl rfl rfl rfl ?_
    refine J_extract rfl rfl rfl rfl ?_
    refine J_assign rfl rfl rfl ?_
    refine J_assign rfl rfl rfl ?_
    refine J_nil3 ?_
    refine E_then ?_
    refine R_seq ?_
    refine R_seq ?_
    refine R_region ?_
    refine J_move rfl rfl rfl ?_
    refine J_cmp rfl rfl rfl rfl rfl ?_
    refine J_nil2 ?_
    refine E_then ?_
    refine R_cond_false rfl ?_
    refine R_skip ?_
    refine E_then ?_
    refine R_seq ?_
    refine R_region ?_
    refine J_move rfl rfl rfl ?_
    refine J_move rfl rfl rfl ?_
    refine J_callr rfl (extent_Load0 (pExt c + n * 2) (by omega) _) (by exact Gives.refl) rfl rfl ?_
    refine J_extract rfl rfl rfl rfl ?_
    refine J_extract rfl rfl rfl rfl ?_
    refine J_assign rfl rfl rfl ?_
    refine J_assign rfl rfl rfl ?_
    refine J_nil3 ?_
    refine E_then ?_
    refine R_ret ?_
    apply E_retP Tryz.results39
    · exact Res.tmp rfl (Res.tmp rfl (Res.nil))
    · exact Gives.drop Gives.refl
    rfl
  · have h' := chk_no h
    rw [h', if_neg (by omega)]
    refine Fn_enter Tryz.func39 rfl Tryz.ntmps39 rfl ?_
    refine R_seq ?_
    refine R_region ?_
    refine J_boxA rfl rfl rfl ?_; intro
    refine J_assign rfl rfl rfl ?_
    refine J_assign rfl rfl rfl ?_
    refine J_nil ?_
    refine E_then ?_
    refine R_seq ?_
    refine R_region ?_
    refine J_loadA rfl rfl rfl rfl ?_
    refine J_move rfl rfl rfl ?_
    refine J_callr rfl (layout_Extent c n _) (by exact Gives.refl) rfl rfl ?_
    rw [h']
    refine J_move rfl rfl rfl ?_
    refine J_extract rfl rfl rfl rfl ?_
    refine J_extract rfl rfl rfl rfl ?_
    refine J_assign rfl rfl rfl ?_
    refine J_assign rfl rfl rfl ?_
    refine J_nil3 ?_
    refine E_then ?_
    refine R_seq ?_
    refine R_seq ?_
    refine R_region ?_
    refine J_move rfl rfl rfl ?_
    refine J_cmp rfl rfl rfl rfl rfl ?_
    refine J_nil2 ?_
    refine E_then ?_
    refine R_cond_true rfl ?_
    refine R_seq ?_
    refine R_region ?_
    refine J_move rfl rfl rfl ?_
    refine J_assign rfl rfl rfl ?_
    refine J_assign rfl rfl rfl ?_
    refine J_nil1 ?_
    refine E_then ?_
    refine R_ret ?_
    refine E_then_ret ?_
    apply E_retP Tryz.results39
    · exact Res.tmp rfl (Res.tmp rfl (Res.nil))
    · exact Gives.drop Gives.refl
    rfl
theorem extent_Stage (b : Nat) (W : Wl) (ok : WlOk W) (c : Cfg) (n : Int) (h : chk c n c.E = 0) (data : Bytes) (hd : data.length = 128) (F : List HP) :
    Fn Tryz.prog 41 [.pointer (some ⟨b, 0, none⟩), cfgV c, .int .i64 n, .string (S data)] (wal b W :: F) (Pst (.int .i64 (W.saveE (pExt c + n * 2) (chunks data 2))) (wal b (W.save (pExt c + n * 2) (chunks data 2)) :: F)) := by
  obtain ⟨hc, h1, h2⟩ := chk_ok h
  have h3 := cfgOk_spec hc
  have e : pExt c = 2 + (c.E + 1) / 2 := rfl
  refine Fn_enter Tryz.func41 rfl Tryz.ntmps41 rfl ?_
  refine R_seq ?_
  refine R_region ?_
  refine J_boxA rfl rfl rfl ?_; intro
  refine J_assign rfl rfl rfl ?_
  refine J_nil ?_
  refine E_then ?_
  refine R_seq ?_
  refine R_region ?_
  refine J_loadA rfl rfl rfl rfl ?_
  refine J_move rfl rfl rfl ?_
  refine J_callr rfl (layout_Extent c n _) (by exact Gives.refl) rfl rfl ?_
  rw [h, if_pos rfl]
  refine J_move rfl rfl rfl ?_
  refine J_extract rfl rfl rfl rfl ?_
  refine J_extract rfl rfl rfl rfl ?_
  refine J_assign rfl rfl rfl ?_
  refine J_assign rfl rfl rfl ?_
  refine J_nil3 ?_
  refine E_then ?_
  refine R_seq ?_
  refine R_block ?_
  refine R_seq ?_
  refine R_region ?_
  refine J_move rfl rfl rfl ?_
  refine J_cmp rfl rfl rfl rfl rfl ?_
  refine J_assign rfl rfl rfl ?_
  refine J_nil2 ?_
  refine E_then ?_
  refine R_cond_false rfl ?_
  refine R_seq ?_
  refine R_region ?_
  refine J_move rfl rfl rfl ?_
  refine J_len_str rfl rfl rfl ?_
  refine J_cmp rfl rfl rfl rfl rfl ?_
  refine J_assign rfl rfl rfl ?_
  refine J_nil3 ?_
  refine E_then ?_
  refine R_cond rfl (fun hh => ?_) (fun hh => ?_)
  simp only [decide_eq_true_eq, decide_eq_false_iff_not, Bool.and_eq_true, Bool.or_eq_true, Bool.not_eq_true', Bool.not_eq_false', beq_iff_eq, bne_iff_ne, beq_eq_false_iff_ne, bne_eq_false_iff_eq, ne_eq, ge_iff_le, gt_iff_lt, Int.not_le, Int.not_lt, Bool.and_eq_false_iff, Bool.or_eq_false_iff, Decidable.not_not] at hh
  exfalso; omega
  simp only [decide_eq_true_eq, decide_eq_false_iff_not, Bool.and_eq_true, Bool.or_eq_true, Bool.not_eq_true', Bool.not_eq_false', beq_iff_eq, bne_iff_ne, beq_eq_false_iff_ne, bne_eq_false_iff_eq, ne_eq, ge_iff_le, gt_iff_lt, Int.not_le, Int.not_lt, Bool.and_eq_false_iff, Bool.or_eq_false_iff, Decidable.not_not] at hh
  refine R_skip ?_
  refine E_block_normal ?_
  refine E_then ?_
  refine R_seq ?_
  refine R_region ?_
  refine J_move rfl rfl rfl ?_
  refine J_move rfl rfl rfl ?_
  refine J_move rfl rfl rfl ?_
  refine J_callr rfl (extent_Save b W ok (pExt c + n * 2) data (by omega) (by omega) 2 (by omega) (by omega) _) (by exact Gives.last (Take.next Take.here)) rfl rfl ?_
  refine J_assign rfl rfl rfl ?_
  refine J_nil3 ?_
  refine E_then ?_
  refine R_ret ?_
  apply E_retP Tryz.results41
  · exact Res.tmp rfl (Res.nil)
  · exact Gives.cons Take.here (Gives.drop Gives.refl)
  rfl
theorem extent_SaveN (a : Int) (data : Bytes) (hd : data.length = 128) (ha : 0 ≤ a ∧ a < 1000) (F : List HP) : Fn Tryz.prog 36 [.pointer none, .int .i64 a, .string (S data)] F (Pst (.int .i64 10) F) := by
  have e1 : (data.length : Int) / 64 = 2 := by omega
  refine Fn_enter Tryz.func36 rfl Tryz.ntmps36 rfl ?_
  refine R_seq ?_
  refine R_region ?_
  refine J_assign rfl rfl rfl ?_
  refine J_nil ?_
  refine E_then ?_
  refine R_seq ?_
  refine R_region ?_
  refine J_move rfl rfl rfl ?_
  refine J_len_str rfl rfl rfl ?_
  refine J_quo rfl rfl (by omega) (by omega) rfl rfl ?_
  refine J_assign rfl rfl rfl ?_
  refine J_nil3 ?_
  refine E_then ?_
  refine R_seq ?_
  refine R_seq ?_
  refine R_region ?_
  refine J_move rfl rfl rfl ?_
  refine J_cmp rfl rfl rfl rfl rfl ?_
  refine J_move rfl rfl rfl ?_
  refine J_guard_split rfl rfl (fun hh => ?_) (fun hh => ?_)
  simp only [decide_eq_true_eq, decide_eq_false_iff_not, Bool.and_eq_true, Bool.or_eq_true, Bool.not_eq_true', Bool.not_eq_false', beq_iff_eq, bne_iff_ne, beq_eq_false_iff_ne, bne_eq_false_iff_eq, ne_eq, ge_iff_le, gt_iff_lt, Int.not_le, Int.not_lt, Bool.and_eq_false_iff, Bool.or_eq_false_iff, Decidable.not_not] at hh
  exfalso; omega
  simp only [decide_eq_true_eq, decide_eq_false_iff_not, Bool.and_eq_true, Bool.or_eq_true, Bool.not_eq_true', Bool.not_eq_false', beq_iff_eq, bne_iff_ne, beq_eq_false_iff_ne, bne_eq_false_iff_eq, ne_eq, ge_iff_le, gt_iff_lt, Int.not_le, Int.not_lt, Bool.and_eq_false_iff, Bool.or_eq_false_iff, Decidable.not_not] at hh
  refine J_guard rfl rfl rfl ?_
  refine J_move rfl rfl rfl ?_
  refine J_guard rfl rfl rfl ?_
  refine J_cmp rfl rfl rfl rfl rfl ?_
  refine J_pick_false rfl rfl rfl rfl ?_
  refine J_move rfl rfl rfl ?_
  refine J_guard_split rfl rfl (fun hh => ?_) (fun hh => ?_)
  simp only [decide_eq_true_eq, decide_eq_false_iff_not, Bool.and_eq_true, Bool.or_eq_true, Bool.not_eq_true', Bool.not_eq_false', beq_iff_eq, bne_iff_ne, beq_eq_false_iff_ne, bne_eq_false_iff_eq, ne_eq, ge_iff_le, gt_iff_lt, Int.not_le, Int.not_lt, Bool.and_eq_false_iff, Bool.or_eq_false_iff, Decidable.not_not] at hh
  exfalso; omega
  simp only [decide_eq_true_eq, decide_eq_false_iff_not, Bool.and_eq_true, Bool.or_eq_true, Bool.not_eq_true', Bool.not_eq_false', beq_iff_eq, bne_iff_ne, beq_eq_false_iff_ne, bne_eq_false_iff_eq, ne_eq, ge_iff_le, gt_iff_lt, Int.not_le, Int.not_lt, Bool.and_eq_false_iff, Bool.or_eq_false_iff, Decidable.not_not] at hh
  refine J_guard rfl rfl rfl ?_
  refine J_move rfl rfl rfl ?_
  refine J_guard rfl rfl rfl ?_
  refine J_ari64 rfl rfl rfl (by omega) rfl rfl ?_
  refine J_guard rfl rfl rfl ?_
  refine J_move rfl rfl rfl ?_
  refine J_guard rfl rfl rfl ?_
  refine J_len_str rfl rfl rfl ?_
  refine J_guard rfl rfl rfl ?_
  refine J_cmp rfl rfl rfl rfl rfl ?_
  refine J_pick_false rfl rfl rfl rfl ?_
  refine J_nil3 ?_
  refine E_then ?_
  refine R_cond rfl (fun hh => ?_) (fun hh => ?_)
  simp only [decide_eq_true_eq, decide_eq_false_iff_not, Bool.and_eq_true, Bool.or_eq_true, Bool.not_eq_true', Bool.not_eq_false', beq_iff_eq, bne_iff_ne, beq_eq_false_iff_ne, bne_eq_false_iff_eq, ne_eq, ge_iff_le, gt_iff_lt, Int.not_le, Int.not_lt, Bool.and_eq_false_iff, Bool.or_eq_false_iff, Decidable.not_not] at hh
  exfalso; omega
  simp only [decide_eq_true_eq, decide_eq_false_iff_not, Bool.and_eq_true, Bool.or_eq_true, Bool.not_eq_true', Bool.not_eq_false', beq_iff_eq, bne_iff_ne, beq_eq_false_iff_ne, bne_eq_false_iff_eq, ne_eq, ge_iff_le, gt_iff_lt, Int.not_le, Int.not_lt, Bool.and_eq_false_iff, Bool.or_eq_false_iff, Decidable.not_not] at hh
  refine R_skip ?_
  refine E_then ?_
  refine R_seq ?_
  refine R_seq ?_
  refine R_region ?_
  refine J_move rfl rfl rfl ?_
  refine J_move rfl rfl rfl ?_
  refine J_nil2 ?_
  refine E_then ?_
  refine R_block ?_
  rw [e1]
  skip
  refine R_loop (X := Unit) (fun _ => [(27, .int .i64 0), (26, .int .i64 2), (0, .pointer none), (1, .int .i64 a), (2, .string (S data))]) (fun _ => F) (fun _ => 0) () (by exact sub_cons rfl (sub_cons rfl (sub_cons rfl (sub_cons rfl (sub_cons rfl sub_nil))))) (by exact Gives.refl) ?_
  rintro ⟨⟩
  have e2 : (data.drop ((0 : Int) * 64).toNat).length = data.length - ((0 : Int) * 64).toNat := List.length_drop
  refine R_seq ?_
  refine R_region ?_
  refine J_cmp rfl rfl rfl rfl rfl ?_
  refine J_nil1 ?_
  refine E_then ?_
  refine R_seq ?_
  refine R_cond_true rfl ?_
  refine R_skip ?_
  refine E_then ?_
  refine R_seq ?_
  refine R_block ?_
  refine R_seq ?_
  refine R_region ?_
  refine J_move rfl rfl rfl ?_
  refine J_assign rfl rfl rfl ?_
  refine J_nil1 ?_
  refine E_then ?_
  refine R_seq ?_
  refine R_region ?_
  refine J_move rfl rfl rfl ?_
  refine J_move rfl rfl rfl ?_
  refine J_move rfl rfl rfl ?_
  refine J_ari64 rfl rfl rfl (by omega) rfl rfl ?_
  refine J_move rfl rfl rfl ?_
  refine J_move rfl rfl rfl ?_
  refine J_ari64 rfl rfl rfl (by omega) rfl rfl ?_
  refine J_slice_lo rfl rfl (by omega) (by omega) rfl rfl ?_
  refine J_slice_hi rfl rfl (by omega) (by omega) rfl rfl ?_
  refine J_callr rfl (wal_Stage0 _ _ _) (by exact Gives.refl) rfl rfl ?_
  refine J_assign rfl rfl rfl ?_
  refine J_nil3 ?_
  refine E_then ?_
  refine R_seq ?_
  refine R_region ?_
  refine J_move rfl rfl rfl ?_
  refine J_cmp rfl rfl rfl rfl rfl ?_
  refine J_nil2 ?_
  refine E_then ?_
  refine R_cond_true rfl ?_
  refine R_seq ?_
  refine R_region ?_
  refine J_move rfl rfl rfl ?_
  refine J_assign rfl rfl rfl ?_
  refine J_nil1 ?_
  refine E_then ?_
  refine R_ret ?_
  refine E_block_ret ?_
  refine E_then_ret ?_
  refine E_then_ret ?_
  refine E_block_ret ?_
  refine E_then_ret ?_
  apply E_retP Tryz.results36
  · exact Res.tmp rfl (Res.nil)
  · exact Gives.refl
  rfl
theorem extent_Stage0 (c : Cfg) (n : Int) (data : Bytes) (F : List HP) :
    Fn Tryz.prog 41 [.pointer none, cfgV c, .int .i64 n, .string (S data)] F (Pst (.int .i64 (if chk c n c.E = 0 then (if data.length = 128 then 10 else 12) else chk c n c.E)) F) := by
  by_cases h : chk c n c.E = 0
  · obtain ⟨hc, h1, h2⟩ := chk_ok h
    have h3 := cfgOk_spec hc
    have e : pExt c = 2 + (c.E + 1) / 2 := rfl
    refine Fn_enter Tryz.func41 rfl Tryz.ntmps41 rfl ?_
    refine R_seq ?_
    refine R_region ?_
    refine J_boxA rfl rfl rfl ?_; intro
    refine J_assign rfl rfl rfl ?_
    refine J_nil ?_
    refine E_then ?_
    refine R_seq ?_
    refine R_region ?_
    refine J_loadA rfl rfl rfl rfl ?_
    refine J_move rfl rfl rfl ?_
    refine J_callr rfl (layout_Extent c n _) (by exact Gives.refl) rfl rfl ?_
    rw [h, if_pos rfl, if_pos rfl]
    refine J_move rfl rfl rfl ?_
    refine J_extract rfl rfl rfl rfl ?_
    refine J_extract rfl rfl rfl rfl ?_
    refine J_assign rfl rfl rfl ?_
    refine J_assign rfl rfl rfl ?_
    refine J_nil3 ?_
    refine E_then ?_
    refine R_seq ?_
    refine R_block ?_
    refine R_seq ?_
    refine R_region ?_
    refine J_move rfl rfl rfl ?_
    refine J_cmp rfl rfl rfl rfl rfl ?_
    refine J_assign rfl rfl rfl ?_
    refine J_nil2 ?_
    refine E_then ?_
    refine R_cond_false rfl ?_
    refine R_seq ?_
    refine R_region ?_
    refine J_move rfl rfl rfl ?_
    refine J_len_str rfl rfl rfl ?_
    refine J_cmp rfl rfl rfl rfl rfl ?_
    refine J_assign rfl rfl rfl ?_
    refine J_nil3 ?_
    refine E_then ?_
    refine R_cond rfl (fun hh => ?_) (fun hh => ?_)
    simp only [decide_eq_true_eq, decide_eq_false_iff_not, Bool.and_eq_true, Bool.or_eq_true, Bool.not_eq_true', Bool.not_eq_false', beq_iff_eq, bne_iff_ne, beq_eq_false_iff_ne, bne_eq_false_iff_eq, ne_eq, ge_iff_le, gt_iff_lt, Int.not_le, Int.not_lt, Bool.and_eq_false_iff, Bool.or_eq_false_iff, Decidable.not_not] at hh
    refine R_seq ?_
    refine R_region ?_
    refine J_assign rfl rfl rfl ?_
    refine J_nil ?_
    refine E_then ?_
    refine R_ret ?_
    refine E_block_ret ?_
    refine E_then_ret ?_
    rotate_left
    simp only [decide_eq_true_eq, decide_eq_false_iff_not, Bool.and_eq_true, Bool.or_eq_true, Bool.not_eq_true', Bool.not_eq_false', beq_iff_eq, bne_iff_ne, beq_eq_false_iff_ne, bne_eq_false_iff_eq, ne_eq, ge_iff_le, gt_iff_lt, Int.not_le, Int.not_lt, Bool.and_eq_false_iff, Bool.or_eq_false_iff, Decidable.not_not] at hh
    refine R_skip ?_
    refine E_block_normal ?_
    refine E_then ?_
    refine R_seq ?_
    refine R_region ?_
    refine J_move rfl rfl rfl ?_
    refine J_move rfl rfl rfl ?_
    refine J_move rfl rfl rfl ?_
    rotate_left
    · rw [if_neg (by omega)]
      apply E_retP Tryz.results41
      · exact Res.tmp rfl (Res.nil)
      · exact Gives.drop Gives.refl
      rfl
    · rw [if_pos (by omega)]
      refine J_callr rfl (extent_SaveN (pExt c + n * 2) data (by omega) (by omega) _) (by exact Gives.refl) rfl rfl ?_
      refine J_assign rfl rfl rfl ?_
      refine J_nil3 ?_
      refine E_then ?_
      refine R_ret ?_
      apply E_retP Tryz.results41
      · exact Res.tmp rfl (Res.nil)
      · exact Gives.drop Gives.refl
      rfl
  · have h' := chk_no h
    rw [h', if_neg (by omega)]
    refine Fn_enter Tryz.func41 rfl Tryz.ntmps41 rfl ?_
    refine R_seq ?_
    refine R_region ?_
    refine J_boxA rfl rfl rfl ?_; intro
    refine J_assign rfl rfl rfl ?_
    refine J_nil ?_
    refine E_then ?_
    refine R_seq ?_
    refine R_region ?_
    refine J_loadA rfl rfl rfl rfl ?_
    refine J_move rfl rfl rfl ?_
    refine J_callr rfl (layout_Extent c n _) (by exact Gives.refl) rfl rfl ?_
    rw [h']
    refine J_move rfl rfl rfl ?_
    refine J_extract rfl rfl rfl rfl ?_
    refine J_extract rfl rfl rfl rfl ?_
    refine J_assign rfl rfl rfl ?_
    refine J_assign rfl rfl rfl ?_
    refine J_nil3 ?_
    refine E_then ?_
    refine R_seq ?_
    refine R_block ?_
    refine R_seq ?_
    refine R_region ?_
    refine J_move rfl rfl rfl ?_
    refine J_cmp rfl rfl rfl rfl rfl ?_
    refine J_assign rfl rfl rfl ?_
    refine J_nil2 ?_
    refine E_then ?_
    refine R_cond_true rfl ?_
    refine R_seq ?_
    refine R_region ?_
    refine J_move rfl rfl rfl ?_
    refine J_assign rfl rfl rfl ?_
    refine J_nil1 ?_
    refine E_then ?_
    refine R_ret ?_
    refine E_block_ret ?_
    refine E_then_ret ?_
    apply E_retP Tryz.results41
    · exact Res.tmp rfl (Res.nil)
    · exact Gives.drop Gives.refl
    rfl
end Go.Proofs.Sol

/- A volume's disk begun; what was staged, committed. -/
namespace Go.Proofs.Sol
open Go Go.Proofs
set_option maxRecDepth 100000
set_option maxHeartbeats 4000000
set_option linter.unusedVariables false
set_option linter.unusedSimpArgs false
attribute [local irreducible] R J JW E D Fn Y clf mpI own Sat Exit.then Exit.inBlock bodyPost bodyPostM Code.wpIn wpL
theorem parts_le {c : Cfg} (hc : cfgOk c = true) : 0 ≤ pLog c ∧ pLog c + c.L = pEnd c ∧ pEnd c ≤ 500 := by
  have h3 := cfgOk_spec hc
  unfold pEnd pLog pSlot pExt
  omega
theorem law16_Begun (c : Cfg) (hc : cfgOk c = true) (F : List HP) : Fn Tryz.prog 35 [cfgV c] F (fun v w => ∃ d b, v = .tuple #[.pointer (some ⟨d, 0, none⟩), .pointer (some ⟨b, 0, none⟩)] ∧ Sat w (wal b (bW d (pEnd c).toNat (pLog c) c.L) :: F)) := by
  have h3 := cfgOk_spec hc
  have hp := parts_le hc
  have hE : cfgE c = 0 := by simp [cfgE, hc]
  have hs : pz c (pEnd c) = ((pEnd c).toNat : Int) := by simp only [pz, hc, if_true]; omega
  have hlg : pz c (pLog c) = pLog c := by simp only [pz, hc, if_true]
  have hmay : walMay (List.replicate (pEnd c).toNat zs64).length (pLog c) c.L = true := by simp [walMay, insB]; omega
  refine Fn_enter Tryz.func35 rfl Tryz.ntmps35 rfl ?_
  refine R_seq ?_
  refine R_region ?_
  refine J_boxA rfl rfl rfl ?_; intro
  refine J_assign rfl rfl rfl ?_
  refine J_assign rfl rfl rfl ?_
  refine J_nil ?_
  refine E_then ?_
  refine R_seq ?_
  refine R_region ?_
  refine J_loadA rfl rfl rfl rfl ?_
  rename_i t1
  refine J_callr rfl (layout_Sectors c _) (by exact Gives.refl) rfl rfl ?_
  rw [hs]
  refine J_callm rfl (diskv_New (pEnd c).toNat (by omega) _) Gives.refl rfl rfl ?_
  rintro v w ⟨d, rfl, s0⟩
  refine JW.of s0 ?_
  refine J_assign rfl rfl rfl ?_
  refine J_nil3 ?_
  refine E_then ?_
  refine R_seq ?_
  refine R_seq ?_
  refine R_draw ([cl t1 50 [.int .i64 c.E, .int .i64 c.S, .int .i64 c.L]]) [9] (by kernel_rfl) ?_
  (refine D_look (i := 0) rfl (by kernel_rfl) (by exact NP_then (NP_then NP_body)) (by exact Gives.cons (Take.next Take.here) Gives.nil) (by exact Y_loadA rfl rfl) rfl rfl ?_)
  refine D_try1 (i := 1) (by kernel_rfl) rfl ?_
  refine J_callr rfl (layout_Check c _) (by exact Gives.refl) rfl rfl ?_
  rw [hE]
  refine D_next (by exact Gives.cons (Take.next Take.here) Gives.nil) ?_
  (refine D_lookP (i := 2) rfl (by kernel_rfl) (by exact NP_then (NP_then NP_body)) (by exact Y_cmpF rfl rfl rfl (by first | rfl | (simp only [decide_eq_false_iff_not, ge_iff_le, gt_iff_lt, beq_eq_false_iff_ne, bne_eq_false_iff_eq, ne_eq]; omega))) rfl rfl ?_)
  (refine D_lookP (i := 3) rfl (by kernel_rfl) (by exact NP_then (NP_then NP_body)) (by exact Y_move rfl) rfl rfl ?_)
  (first | refine D_lookGP (i := 4) rfl (by kernel_rfl) (by exact NP_then (NP_then NP_body)) rfl rfl rfl (by exact Y_move rfl) rfl rfl ?_ | refine D_skipP (i := 4) rfl (by kernel_rfl) (by skip) rfl rfl rfl rfl rfl rfl ?_ | refine D_skipUP (i := 4) rfl (by kernel_rfl) (by skip) rfl rfl rfl rfl rfl ?_)
  (first | refine D_lookG (i := 5) rfl (by kernel_rfl) (by exact NP_then (NP_then NP_body)) (by exact Gives.cons (Take.next Take.here) Gives.nil) rfl rfl rfl (by exact Y_loadA rfl rfl) rfl rfl ?_ | refine D_skipP (i := 5) rfl (by kernel_rfl) (by skip) rfl rfl rfl rfl rfl rfl ?_ | refine D_skipUP (i := 5) rfl (by kernel_rfl) (by skip) rfl rfl rfl rfl rfl ?_)
  (first | refine D_lookGP (i := 7) rfl (by kernel_rfl) (by exact NP_then (NP_then NP_body)) rfl rfl rfl (by exact Y_fieldAddr0 rfl) rfl rfl ?_ | refine D_skipP (i := 7) rfl (by kernel_rfl) (by skip) rfl rfl rfl rfl rfl rfl ?_ | refine D_skipUP (i := 7) rfl (by kernel_rfl) (by skip) rfl rfl rfl rfl rfl ?_)
  (first | refine D_lookG (i := 8) rfl (by kernel_rfl) (by exact NP_then (NP_then NP_body)) (by exact Gives.cons (Take.next Take.here) Gives.nil) rfl rfl rfl (by exact Y_load rfl rfl) rfl rfl ?_ | refine D_skipP (i := 8) rfl (by kernel_rfl) (by skip) rfl rfl rfl rfl rfl rfl ?_ | refine D_skipUP (i := 8) rfl (by kernel_rfl) (by skip) rfl rfl rfl rfl rfl ?_)
  refine D_try1 (i := 6) (by kernel_rfl) rfl ?_
  refine J_guard rfl rfl rfl ?_
  refine J_callr rfl (layout_Log c _) (by exact Gives.refl) rfl rfl ?_
  rw [hlg]
  refine D_next (by exact Gives.cons (Take.next Take.here) Gives.nil) ?_
  refine D_try1 (i := 9) (by kernel_rfl) rfl ?_
  refine J_guard rfl rfl rfl ?_
  refine J_callr rfl (wal_Format d (List.replicate (pEnd c).toNat zs64) 0 (pLog c) c.L hmay (by simp; omega) (by omega) _) (by exact Gives.refl) rfl rfl ?_
  rw [fmtV_zero]
  refine D_last (by kernel_rfl) ?_
  (first | refine D_lookGP (i := 10) rfl (by kernel_rfl) (by exact NP_then (NP_then NP_body)) rfl rfl rfl (by exact Y_cmpF rfl rfl rfl (by first | rfl | (simp only [decide_eq_false_iff_not, ge_iff_le, gt_iff_lt, beq_eq_false_iff_ne, bne_eq_false_iff_eq, ne_eq]; omega))) rfl rfl ?_ | refine D_skipP (i := 10) rfl (by kernel_rfl) (by skip) rfl rfl rfl rfl rfl rfl ?_ | refine D_skipUP (i := 10) rfl (by kernel_rfl) (by skip) rfl rfl rfl rfl rfl ?_)
  (refine D_lookP (i := 11) rfl (by kernel_rfl) (by exact NP_then (NP_then NP_body)) (by exact Y_pick_false rfl rfl) rfl rfl ?_)
  (first | refine D_end1 (by kernel_rfl) ?_ | refine D_end (by kernel_rfl) ?_)
  refine E_then ?_
  refine R_cond_false rfl ?_
  refine R_skip ?_
  refine E_then ?_
  refine R_seq ?_
  refine R_draw ([cl t1 50 [.int .i64 c.E, .int .i64 c.S, .int .i64 c.L]]) [5, 9, 10] (by kernel_rfl) ?_
  (refine D_lookP (i := 0) rfl (by kernel_rfl) (by exact NP_then NP_body) (by exact Y_move rfl) rfl rfl ?_)
  (refine D_look (i := 1) rfl (by kernel_rfl) (by exact NP_then NP_body) (by exact Gives.cons (Take.next Take.here) Gives.nil) (by exact Y_loadA rfl rfl) rfl rfl ?_)
  (refine D_lookP (i := 3) rfl (by kernel_rfl) (by exact NP_then NP_body) (by exact Y_fieldAddr0 rfl) rfl rfl ?_)
  (refine D_look (i := 4) rfl (by kernel_rfl) (by exact NP_then NP_body) (by exact Gives.cons (Take.next Take.here) Gives.nil) (by exact Y_load rfl rfl) rfl rfl ?_)
  refine D_try1 (i := 2) (by kernel_rfl) rfl ?_
  refine J_callr rfl (layout_Log c _) (by exact Gives.refl) rfl rfl ?_
  rw [hlg]
  refine D_next (by exact Gives.cons (Take.next Take.here) Gives.nil) ?_
  refine D_try1 (i := 5) (by kernel_rfl) rfl ?_
  have hk : 0 + c.L.toNat + 2 = c.L.toNat + 2 := by omega
  rw [hk]
  refine J_callm rfl (wal_Open0 d (fV (pEnd c).toNat (pLog c)) (c.L.toNat + 2) (pLog c) c.L (1, 1, 0) (by simpa using hmay) (by simp; omega) (by omega) (fV_newer hp.1 (by omega)) (by dsimp only; omega) (by rw [fV_cat hp.1 (by omega)]; rfl) (by rw [fV_ring hp.1 (by omega) (by omega)]; rw [show zs64 = List.replicate 64 0 from rfl, recSize_zero]; decide) (cl t1 50 [.int .i64 c.E, .int .i64 c.S, .int .i64 c.L] :: F)) (by exact Gives.refl) rfl rfl ?_
  rintro v w ⟨b, rfl, s0⟩
  refine JW.of s0 ?_
  refine D_last (by kernel_rfl) ?_
  (refine D_lookP (i := 6) rfl (by kernel_rfl) (by exact NP_then NP_body) (by exact Y_move rfl) rfl rfl ?_)
  (refine D_lookP (i := 7) rfl (by kernel_rfl) (by exact NP_then NP_body) (by exact Y_extract rfl rfl) rfl rfl ?_)
  (refine D_lookP (i := 8) rfl (by kernel_rfl) (by exact NP_then NP_body) (by exact Y_extract rfl rfl) rfl rfl ?_)
  refine D_try1 (i := 9) (by kernel_rfl) rfl ?_
  refine J_assign rfl rfl rfl ?_
  refine D_last (by kernel_rfl) ?_
  refine D_try1 (i := 10) (by kernel_rfl) rfl ?_
  refine J_assign rfl rfl rfl ?_
  refine D_last (by kernel_rfl) ?_
  (first | refine D_end1 (by kernel_rfl) ?_ | refine D_end (by kernel_rfl) ?_)
  refine E_then ?_
  refine R_seq ?_
  refine R_seq ?_
  refine R_region ?_
  refine J_move rfl rfl rfl ?_
  refine J_cmp rfl rfl rfl rfl rfl ?_
  refine J_move rfl rfl rfl ?_
  refine J_guard rfl rfl rfl ?_
  refine J_move rfl rfl rfl ?_
  refine J_guard rfl rfl rfl ?_
  refine J_callr rfl (wal_Begin b _ _) (by exact Gives.refl) rfl rfl ?_
  rw [bW_eq]
  have hact : (Wl.anew d (pLog c) c.L (fV (pEnd c).toNat (pLog c)) (c.L.toNat + 2) (1, 1, 0)).act = false := rfl
  rw [hact]
  refine J_guard rfl rfl rfl ?_
  refine J_cmp rfl rfl rfl rfl rfl ?_
  refine J_pick_false rfl rfl rfl rfl ?_
  refine J_nil3 ?_
  refine E_then ?_
  refine R_cond_false rfl ?_
  refine R_skip ?_
  refine E_then ?_
  refine R_seq ?_
  refine R_region ?_
  refine J_move rfl rfl rfl ?_
  refine J_move rfl rfl rfl ?_
  refine J_assign rfl rfl rfl ?_
  refine J_assign rfl rfl rfl ?_
  refine J_nil2 ?_
  refine E_then ?_
  refine R_ret ?_
  apply E_ret Tryz.results35
  · exact Res.tmp rfl (Res.tmp rfl (Res.nil))
  · intro w s
    exact ⟨d, b, rfl, s.gives (by exact Gives.cons Take.here (Gives.drop Gives.refl))⟩
theorem law16_Next (b : Nat) (W : Wl) (ok : WlOk W) (ha : W.act = true) (hne : W.Lo ≠ []) (n : Nat) (hn : n = W.Lo.length + 1) (hr : W.used + n ≤ W.many - 2) (hk : W.k < 10000000) (F : List HP) :
    Fn Tryz.prog 71 [.pointer (some ⟨b, 0, none⟩)] (wal b W :: F) (Pst (.bool true) (wal b { W.comm n with act := true } :: F)) := by
  refine Fn_enter Tryz.func71 rfl Tryz.ntmps71 rfl ?_
  refine R_seq ?_
  refine R_region ?_
  refine J_assign rfl rfl rfl ?_
  refine J_nil ?_
  refine E_then ?_
  refine R_seq ?_
  refine R_region ?_
  refine J_move rfl rfl rfl ?_
  refine J_callr rfl (wal_Commit b W ok ha hne n hn hr hk _) (by exact Gives.refl) rfl rfl ?_
  refine J_assign rfl rfl rfl ?_
  refine J_nil2 ?_
  refine E_then ?_
  refine R_seq ?_
  refine R_seq ?_
  refine R_region ?_
  refine J_move rfl rfl rfl ?_
  refine J_cmp rfl rfl rfl rfl rfl ?_
  refine J_nil2 ?_
  refine E_then ?_
  refine R_cond_false rfl ?_
  refine R_skip ?_
  refine E_then ?_
  refine R_seq ?_
  refine R_region ?_
  refine J_move rfl rfl rfl ?_
  refine J_cmp rfl rfl rfl rfl rfl ?_
  refine J_move rfl rfl rfl ?_
  refine J_guard rfl rfl rfl ?_
  refine J_move rfl rfl rfl ?_
  refine J_guard rfl rfl rfl ?_
  refine J_callr rfl (wal_Begin b (W.comm n) _) (by exact Gives.refl) rfl rfl ?_
  have hact : (W.comm n).act = false := rfl
  rw [hact]
  refine J_guard rfl rfl rfl ?_
  refine J_cmp rfl rfl rfl rfl rfl ?_
  refine J_pick_true rfl rfl rfl rfl ?_
  refine J_assign rfl rfl rfl ?_
  refine J_nil3 ?_
  refine E_then ?_
  refine R_ret ?_
  apply E_retP Tryz.results71
  · exact Res.tmp rfl (Res.nil)
  · exact Gives.refl
  rfl
end Go.Proofs.Sol

/- Extents: the first law's parts. -/
namespace Go.Proofs.Sol
open Go Go.Proofs
set_option maxRecDepth 100000
set_option maxHeartbeats 4000000
set_option linter.unusedVariables false
set_option linter.unusedSimpArgs false
attribute [local irreducible] R J JW E D Fn Y clf mpI own Sat Exit.then Exit.inBlock bodyPost bodyPostM Code.wpIn wpL
theorem comm_ok {W : Wl} (ok : WlOk W) {n : Nat} (hr : W.used + n ≤ W.many - 2) (hs : W.seq < 90000000000) (hk : W.k + n < 10000000) : WlOk { W.comm n with act := true } := by
  have hm := ok.many
  have hu := ok.used
  have hl : (W.comm n).V.length = W.V.length := putV_length ..
  refine ⟨?_, ?_, ok.many, ?_, ?_, ok.gen, ?_, ?_, ?_, ?_, ?_, ?_⟩
  · show 0 ≤ W.fr ∧ W.fr + W.many ≤ ((W.comm n).V.length : Int)
    rw [hl]; exact ok.fr
  · show (W.comm n).V.length ≤ 1000
    rw [hl]; exact ok.n
  · exact ⟨Int.emod_nonneg _ (by omega), Int.emod_lt_of_pos _ (by omega)⟩
  · show 0 ≤ W.used + n ∧ W.used + n ≤ W.many - 2
    omega
  · show 0 ≤ W.seq + 1 ∧ W.seq + 1 < 100000000000
    have := ok.seq
    omega
  · exact Nat.zero_le _
  · intro p hp; cases hp
  · exact List.nodup_nil
  · intro p hp
    have hh : ({ W.comm n with act := true } : Wl).home p.1 = W.home p.1 := by
      show homeB (W.comm n).V.length W.fr W.many p.1 = homeB W.V.length W.fr W.many p.1
      rw [hl]
    rw [hh]
    rcases keep_mem hp with h | h
    · exact ok.kH p h
    · exact ok.loH p h
  · show W.k + n + 1 < 900000000
    omega
theorem save_seq (l : List Bytes) : ∀ (W : Wl) (a : Int), (W.save a l).seq = W.seq := by
  induction l with
  | nil => intro W a; rfl
  | cons s l ih =>
    intro W a
    unfold Wl.save
    split
    · rename_i h
      rw [ih, st_eq h]
    · rfl
theorem ld_comm {W : Wl} (ok : WlOk W) {a : Int} {l : List Bytes} (h : W.saveE a l = 0) (n : Nat) : ({ (W.save a l).comm n with act := true } : Wl).ld a l.length = l.flatten ∧ ({ (W.save a l).comm n with act := true } : Wl).ldE a l.length = 0 := by
  have okS := save_ok l ok a
  refine ld_of l fun i hi => ?_
  have hg := save_get l h (a + i)
  rw [if_pos (by omega)] at hg
  have e : (a + (i : Int) - a).toNat = i := by omega
  rw [e, List.getElem?_eq_getElem hi] at hg
  have hs : seen (keep (W.save a l).K (W.save a l).Lo) [] (a + i) = some l[i] := by
    rw [seen_keep okS.loN]
    unfold seen
    rw [hg]; rfl
  have hd : l.getD i [] = l[i] := by rw [List.getD_eq_getElem?_getD, List.getElem?_eq_getElem hi]; rfl
  rw [hd]
  unfold Wl.rd Wl.rdE
  show (match seen (keep (W.save a l).K (W.save a l).Lo) [] (a + i) with | some s => s | none => _) = _ ∧ (match seen (keep (W.save a l).K (W.save a l).Lo) [] (a + i) with | some _ => (0 : Int) | none => _) = 0
  rw [hs]
  exact ⟨rfl, rfl⟩
theorem save_ne {W : Wl} {a : Int} {l : List Bytes} (h : W.saveE a l = 0) (hl : 0 < l.length) : (W.save a l).Lo ≠ [] := by
  intro h0
  have := save_get l h a
  rw [h0, if_pos (by omega)] at this
  have e : (a - a).toNat = 0 := by omega
  rw [e, List.getElem?_eq_getElem hl] at this
  cases this
theorem bW_home (d n : Nat) (fr many i : Int) : (bW d n fr many).home i = homeB n fr many i := by
  have hl : (bW d n fr many).V.length = n := by simp [bW]
  unfold Wl.home
  rw [hl]; rfl
abbrev cfgA : Cfg := ⟨3, 1, 24⟩
theorem law20_works (F : List HP) : Fn Tryz.prog 34 [] F (Pst (.bool true) F) := by
  have hc : cfgOk cfgA = true := by decide
  refine Fn_enter Tryz.func34 rfl Tryz.ntmps34 rfl ?_
  refine R_seq ?_
  refine R_region ?_
  refine J_assign rfl rfl rfl ?_
  refine J_nil ?_
  refine E_then ?_
  refine R_seq ?_
  refine R_region ?_
  refine J_build rfl rfl rfl rfl ?_
  refine J_alloc rfl rfl ?_; intro
  refine J_storeA rfl rfl rfl rfl rfl rfl ?_
  refine J_nil1 ?_
  refine E_then ?_
  refine R_seq ?_
  refine R_region ?_
  refine J_loadA rfl rfl rfl rfl ?_
  rename_i t1
  refine J_callm rfl (law16_Begun cfgA hc _) Gives.refl rfl rfl ?_
  rintro v w ⟨d, b, rfl, s0⟩
  have okB := bW_ok d (pEnd cfgA).toNat (pLog cfgA) cfgA.L (by decide) (by decide) (by decide)
  refine JW.of s0 ?_
  refine J_move rfl rfl rfl ?_
  refine J_extract rfl rfl rfl rfl ?_
  refine J_extract rfl rfl rfl rfl ?_
  refine J_assign rfl rfl rfl ?_
  refine J_assign rfl rfl rfl ?_
  refine J_nil3 ?_
  refine E_then ?_
  refine R_seq ?_
  refine R_region ?_
  refine J_makeSlice rfl rfl (by omega) (by omega) (by omega) rfl rfl ?_
  intro bz
  rw [zeroRow_one]
  have hz : List.replicate (Int.toNat 127 * 1) (Value.int .u8 0) = (List.replicate 127 (0 : UInt8)).map byv := rfl
  have hz2 : List.replicate (Int.toNat 127) (Value.int .u8 0) = (List.replicate 127 (0 : UInt8)).map byv := rfl
  first
    | rw [hz]
    | rw [hz2]
  refine J_bytesToStr (cs := List.replicate 127 0) rfl (by simp) rfl rfl rfl ?_
  have hl0 : (List.replicate 127 (0 : UInt8)).length = 127 := rfl
  have hl1 : ([120] : List UInt8).length = 1 := rfl
  refine J_str_add rfl rfl (by omega) rfl rfl ?_
  refine J_assign rfl rfl rfl ?_
  refine J_nil3 ?_
  refine E_then ?_
  refine R_seq ?_
  refine R_seq ?_
  refine R_region ?_
  refine J_move rfl rfl rfl ?_
  refine J_ptr_nil rfl rfl rfl rfl ?_
  refine J_move rfl rfl rfl ?_
  refine J_guard rfl rfl rfl ?_
  refine J_move rfl rfl rfl ?_
  refine J_guard rfl rfl rfl ?_
  refine J_loadA rfl rfl rfl rfl ?_
  refine J_guard rfl rfl rfl ?_
  refine J_move rfl rfl rfl ?_
  refine J_guard rfl rfl rfl ?_
  generalize hW : bW d (pEnd cfgA).toNat (pLog cfgA) cfgA.L = W at *
  generalize hsx : List.replicate 127 (0 : UInt8) ++ [120] = sx
  have hsl : sx.length = 128 := by rw [← hsx]; rfl
  have hE : W.saveE (pExt cfgA + 2 * 2) (chunks sx 2) = 0 := by
    refine saveE_of _ ?_ ?_ (chunks_64 sx 2 (by omega)) ?_
    · rw [← hW]; rfl
    · intro i hi
      rw [chunks_length] at hi
      rw [← hW]
      have : i = 0 ∨ i = 1 := by omega
      rw [bW_home]
      rcases this with rfl | rfl <;> decide
    · rw [chunks_length, ← hW]; exact (by decide : 0 + 2 ≤ 16)
  have okS := save_ok (chunks sx 2) okB (pExt cfgA + 2 * 2)
  have hsm := save_same (chunks sx 2) W (pExt cfgA + 2 * 2)
  have hne := save_ne hE (by rw [chunks_length]; omega)
  have hfl := chunks_flatten sx 2 (by omega)
  have hWd : W.fr = 15 ∧ W.many = 24 ∧ W.used = 0 ∧ W.act = true ∧ W.seq = 25 ∧ W.k = 33 := by rw [← hW]; exact ⟨rfl, rfl, rfl, rfl, rfl, rfl⟩
  have hE0 : chk cfgA 2 cfgA.E = 0 := by decide
  refine J_callr rfl (extent_Stage b W okB cfgA 2 hE0 sx hsl _) (by exact Gives.last (Take.next Take.here)) rfl rfl ?_
  rw [hE]
  refine J_guard rfl rfl rfl ?_
  refine J_cmp rfl rfl rfl rfl rfl ?_
  refine J_pick_false rfl rfl rfl rfl ?_
  refine J_move rfl rfl rfl ?_
  refine J_guard rfl rfl rfl ?_
  refine J_move rfl rfl rfl ?_
  refine J_guard rfl rfl rfl ?_
  have hseq : (W.save (pExt cfgA + 2 * 2) (chunks sx 2)).seq = W.seq := save_seq _ _ _
  have hlo := okS.lo
  have hcm := ld_comm okB hE ((W.save (pExt cfgA + 2 * 2) (chunks sx 2)).Lo.length + 1)
  rw [chunks_length, hfl] at hcm
  generalize hW1 : W.save (pExt cfgA + 2 * 2) (chunks sx 2) = W1 at *
  refine J_callr rfl (law16_Next b W1 okS (by rw [hsm.2.2.2.2.1]; exact hWd.2.2.2.1) hne (W1.Lo.length + 1) rfl (by omega) (by omega) _) (by exact Gives.refl) rfl rfl ?_
  refine J_guard rfl rfl rfl ?_
  refine J_un_not rfl rfl rfl ?_
  refine J_pick_false rfl rfl rfl rfl ?_
  refine J_nil3 ?_
  refine E_then ?_
  refine R_cond_false rfl ?_
  refine R_skip ?_
  refine E_then ?_
  refine R_seq ?_
  refine R_region ?_
  refine J_move rfl rfl rfl ?_
  refine J_loadA rfl rfl rfl rfl ?_
  have okC := comm_ok okS (n := W1.Lo.length + 1) (by omega) (by omega) (by omega)
  refine J_callr rfl (extent_Read b _ okC cfgA 2 hE0 (by show W1.k + (W1.Lo.length + 1) + 1 < 10000000; omega) _) (by exact Gives.refl) rfl rfl ?_
  rw [hcm.2, hcm.1, if_pos rfl]
  refine J_move rfl rfl rfl ?_
  refine J_extract rfl rfl rfl rfl ?_
  refine J_extract rfl rfl rfl rfl ?_
  refine J_assign rfl rfl rfl ?_
  refine J_assign rfl rfl rfl ?_
  refine J_nil3 ?_
  refine E_then ?_
  refine R_seq ?_
  refine R_region ?_
  refine J_move rfl rfl rfl ?_
  refine J_move rfl rfl rfl ?_
  refine J_str_cmp rfl rfl rfl rfl rfl ?_
  refine J_move rfl rfl rfl ?_
  refine J_guard_split rfl rfl (fun hh => ?_) (fun hh => ?_)
  simp only [decide_eq_true_eq, decide_eq_false_iff_not, Bool.and_eq_true, Bool.or_eq_true, Bool.not_eq_true', Bool.not_eq_false', beq_iff_eq, bne_iff_ne, beq_eq_false_iff_ne, bne_eq_false_iff_eq, ne_eq, ge_iff_le, gt_iff_lt, Int.not_le, Int.not_lt, Bool.and_eq_false_iff, Bool.or_eq_false_iff, Decidable.not_not] at hh
  refine J_guard rfl rfl rfl ?_
  refine J_move rfl rfl rfl ?_
  refine J_guard rfl rfl rfl ?_
  refine J_cmp rfl rfl rfl rfl rfl ?_
  refine J_pick_true rfl rfl rfl rfl ?_
  refine J_assign rfl rfl rfl ?_
  refine J_nil3 ?_
  refine E_then ?_
  refine R_ret ?_
  rotate_left
  simp only [decide_eq_true_eq, decide_eq_false_iff_not, Bool.and_eq_true, Bool.or_eq_true, Bool.not_eq_true', Bool.not_eq_false', beq_iff_eq, bne_iff_ne, beq_eq_false_iff_ne, bne_eq_false_iff_eq, ne_eq, ge_iff_le, gt_iff_lt, Int.not_le, Int.not_lt, Bool.and_eq_false_iff, Bool.or_eq_false_iff, Decidable.not_not] at hh
  refine J_guard_not rfl rfl rfl rfl rfl rfl ?_
  refine J_guard_not rfl rfl rfl rfl rfl rfl ?_
  refine J_pick_false rfl rfl rfl rfl ?_
  refine J_assign rfl rfl rfl ?_
  refine J_nil3 ?_
  refine E_then ?_
  refine R_ret ?_
  rotate_left
  · apply E_retP Tryz.results34
    · exact Res.tmp rfl (Res.nil)
    · exact Gives.drop (Gives.drop (Gives.drop Gives.refl))
    rfl
  all_goals exact absurd trivial hh
end Go.Proofs.Sol
