/- Regions of a disk. -/
import Derived.Test.YtpemgmbfkobmeaaGreatDoorA3
namespace Go.Proofs.Sol
open Go Go.Proofs
set_option maxRecDepth 100000
set_option maxHeartbeats 4000000
set_option linter.unusedVariables false
set_option linter.unusedSimpArgs false
attribute [local irreducible] R J JW E D Fn Y clf mpI own Sat Exit.then Exit.inBlock bodyPost bodyPostM Code.wpIn wpL
/-- A region: of the disk d, from a sector on, so many. -/
abbrev reg (r d : Nat) (from_ many : Int) : HP := cl r 223 [.pointer (some ⟨d, 0, none⟩), .int .i64 from_, .int .i64 many]
theorem region_Many (r d : Nat) (f m : Int) (F : List HP) : Fn Tryz.prog 96 [.pointer (some ⟨r, 0, none⟩)] (reg r d f m :: F) (Pst (.int .i64 m) (reg r d f m :: F)) := by
  refine Fn_enter Tryz.func96 rfl Tryz.ntmps96 rfl ?_
  refine R_seq ?_
  refine R_region ?_
  refine J_assign rfl rfl rfl ?_
  refine J_nil ?_
  refine E_then ?_
  refine R_seq ?_
  refine R_seq ?_
  refine R_region ?_
  refine J_move rfl rfl rfl ?_
  refine J_ptr_nil rfl rfl rfl rfl ?_
  refine J_nil2 ?_
  refine E_then ?_
  refine R_cond_false rfl ?_
  refine R_skip ?_
  refine E_then ?_
  refine R_seq ?_
  refine R_region ?_
  refine J_move rfl rfl rfl ?_
  refine J_nilCheck rfl rfl rfl ?_
  refine J_fieldAddr0 rfl rfl rfl ?_
  refine J_load rfl rfl rfl rfl ?_
  refine J_assign rfl rfl rfl ?_
  refine J_nil3 ?_
  refine E_then ?_
  refine R_ret ?_
  apply E_retP Tryz.results96
  · exact Res.tmp rfl (Res.nil)
  · exact Gives.refl
  rfl
theorem region_New (d : Nat) (V : List Bytes) (k : Nat) (f m : Int) (hD : V.length ≤ 1000) (F : List HP) : Fn Tryz.prog 172 [.pointer (some ⟨d, 0, none⟩), .int .i64 f, .int .i64 m] (dvk d V k :: F)
    (fun v w => if insB f m V.length = true then ∃ r, v = .tuple #[.pointer (some ⟨r, 0, none⟩), .int .i64 0] ∧ Sat w (reg r d f m :: dvk d V k :: F) else v = .tuple #[.pointer none, .int .i64 3] ∧ Sat w (dvk d V k :: F)) := by
  refine Fn_enter Tryz.func172 rfl Tryz.ntmps172 rfl ?_
  refine R_seq ?_
  refine R_region ?_
  refine J_assign rfl rfl rfl ?_
  refine J_assign rfl rfl rfl ?_
  refine J_nil ?_
  refine E_then ?_
  refine R_seq ?_
  refine R_seq ?_
  refine R_region ?_
  refine J_move rfl rfl rfl ?_
  refine J_move rfl rfl rfl ?_
  refine J_move rfl rfl rfl ?_
  refine J_callr rfl (diskv_Sectors d V k _) (by exact Gives.refl) rfl rfl ?_
  skip
  refine J_callr rfl (region_inside f m V.length (by omega) _) (by exact Gives.refl) rfl rfl ?_
  by_cases h : insB f m V.length = true
  · simp only [h, if_true]
    refine J_un_not rfl rfl rfl ?_
    refine J_nil3 ?_
    refine E_then ?_
    refine R_cond_false rfl ?_
    refine R_skip ?_
    refine E_then ?_
    refine R_seq ?_
    refine R_region ?_
    refine J_move rfl rfl rfl ?_
    refine J_move rfl rfl rfl ?_
    refine J_move rfl rfl rfl ?_
    refine J_build rfl rfl rfl rfl ?_
    refine J_boxA rfl rfl rfl ?_; intro
    refine J_assign rfl rfl rfl ?_
    refine J_assign rfl rfl rfl ?_
    refine J_nil3 ?_
    refine E_then ?_
    refine R_ret ?_
    apply E_ret Tryz.results172
    · exact Res.tmp rfl (Res.tmp rfl (Res.nil))
    · intro w s
      exact ⟨_, rfl, s⟩
  · rw [Bool.not_eq_true] at h
    simp only [h, if_false, Bool.false_eq_true]
    refine J_un_not rfl rfl rfl ?_
    refine J_nil3 ?_
    refine E_then ?_
    refine R_cond_true rfl ?_
    refine R_seq ?_
    refine R_region ?_
    refine J_assign rfl rfl rfl ?_
    refine J_assign rfl rfl rfl ?_
    refine J_nil ?_
    refine E_then ?_
    refine R_ret ?_
    refine E_then_ret ?_
    apply E_ret Tryz.results172
    · exact Res.tmp rfl (Res.tmp rfl (Res.nil))
    · intro w s
      exact ⟨rfl, s⟩
theorem region_Flush (r d : Nat) (V : List Bytes) (k : Nat) (f m : Int) (hk : k < 1000000000) (F : List HP) : Fn Tryz.prog 171 [.pointer (some ⟨r, 0, none⟩)] (dvk d V k :: reg r d f m :: F) (Pst (.int .i64 0) (dvk d V (k + 1) :: reg r d f m :: F)) := by
  refine Fn_enter Tryz.func171 rfl Tryz.ntmps171 rfl ?_
  refine R_seq ?_
  refine R_region ?_
  refine J_assign rfl rfl rfl ?_
  refine J_nil ?_
  refine E_then ?_
  refine R_seq ?_
  refine R_seq ?_
  refine R_region ?_
  refine J_move rfl rfl rfl ?_
  refine J_ptr_nil rfl rfl rfl rfl ?_
  refine J_nil2 ?_
  refine E_then ?_
  refine R_cond_false rfl ?_
  refine R_skip ?_
  refine E_then ?_
  refine R_seq ?_
  refine R_region ?_
  refine J_move rfl rfl rfl ?_
  refine J_nilCheck rfl rfl rfl ?_
  refine J_fieldAddr0 rfl rfl rfl ?_
  refine J_load rfl rfl rfl rfl ?_
  refine J_callr rfl (diskv_Flush d V k hk _) (by exact Gives.refl) rfl rfl ?_
  refine J_assign rfl rfl rfl ?_
  refine J_nil3 ?_
  refine E_then ?_
  refine R_ret ?_
  apply E_retP Tryz.results171
  · exact Res.tmp rfl (Res.nil)
  · exact Gives.refl
  rfl
theorem insB_one {i m : Int} (h : 0 ≤ i ∧ i < m) : insB i 1 m = true := by simp [insB]; omega
theorem region_Split1 (r d : Nat) (f m i : Int) (s : Bytes) (hs : s.length = 64) (hi : 0 ≤ i ∧ i < m) (hf : 0 ≤ f ∧ f ≤ 1000 ∧ m ≤ 1000) (F : List HP) : Fn Tryz.prog 174 [.pointer (some ⟨r, 0, none⟩), .int .i64 i, .string (S s)] (reg r d f m :: F)
    (fun v w => ∃ x, v = .tuple #[x, .int .i64 0] ∧ Sat w (own x 164 2 [.int .i64 (f + i), .string (S s)] :: reg r d f m :: F)) := by
  refine Fn_enter Tryz.func174 rfl Tryz.ntmps174 rfl ?_
  refine R_seq ?_
  refine R_region ?_
  refine J_assign rfl rfl rfl ?_
  refine J_assign rfl rfl rfl ?_
  refine J_nil ?_
  refine E_then ?_
  refine R_seq ?_
  refine R_region ?_
  refine J_move rfl rfl rfl ?_
  refine J_len_str rfl rfl rfl ?_
  refine J_quo rfl rfl (by omega) (by omega) rfl rfl ?_
  refine J_assign rfl rfl rfl ?_
  refine J_nil3 ?_
  refine E_then ?_
  refine R_seq ?_
  refine R_block ?_
  refine R_seq ?_
  refine R_region ?_
  refine J_move rfl rfl rfl ?_
  refine J_ptr_nil rfl rfl rfl rfl ?_
  refine J_assign rfl rfl rfl ?_
  refine J_nil2 ?_
  refine E_then ?_
  refine R_cond_false rfl ?_
  refine R_seq ?_
  refine R_region ?_
  refine J_move rfl rfl rfl ?_
  refine J_ari64 rfl rfl rfl (by omega) rfl rfl ?_
  refine J_move rfl rfl rfl ?_
  refine J_len_str rfl rfl rfl ?_
  refine J_cmp rfl rfl rfl rfl rfl ?_
  refine J_assign rfl rfl rfl ?_
  refine J_nil3 ?_
  refine E_then ?_
  refine R_cond rfl (fun hh => ?_) (fun hh => ?_)
  simp only [decide_eq_true_eq, decide_eq_false_iff_not, Bool.and_eq_true, Bool.or_eq_true, Bool.not_eq_true', Bool.not_eq_false', beq_iff_eq, bne_iff_ne, beq_eq_false_iff_ne, bne_eq_false_iff_eq, ne_eq, ge_iff_le, gt_iff_lt, Int.not_le, Int.not_lt, Bool.and_eq_false_iff, Bool.or_eq_false_iff, Decidable.not_not] at hh
  exfalso; omega
  simp only [decide_eq_true_eq, decide_eq_false_iff_not, Bool.and_eq_true, Bool.or_eq_true, Bool.not_eq_true', Bool.not_eq_false', beq_iff_eq, bne_iff_ne, beq_eq_false_iff_ne, bne_eq_false_iff_eq, ne_eq, ge_iff_le, gt_iff_lt, Int.not_le, Int.not_lt, Bool.and_eq_false_iff, Bool.or_eq_false_iff, Decidable.not_not] at hh
  refine R_seq ?_
  refine R_region ?_
  refine J_move rfl rfl rfl ?_
  refine J_move rfl rfl rfl ?_
  refine J_move rfl rfl rfl ?_
  refine J_nilCheck rfl rfl rfl ?_
  refine J_fieldAddr0 rfl rfl rfl ?_
  refine J_load rfl rfl rfl rfl ?_
  refine J_callr rfl (region_inside i _ m (by omega) _) (by exact Gives.refl) rfl rfl ?_
  have e1 : (s.length : Int) / 64 = 1 := by omega
  have e2 : s.drop 64 = [] := List.eq_nil_of_length_eq_zero (by simp; omega)
  have e3 : s.take 64 = s := List.take_of_length_le (by omega)
  rw [e1, insB_one hi]
  refine J_un_not rfl rfl rfl ?_
  refine J_assign rfl rfl rfl ?_
  refine J_nil3 ?_
  refine E_then ?_
  refine R_cond_false rfl ?_
  refine R_skip ?_
  refine E_block_normal ?_
  refine E_then ?_
  refine R_seq ?_
  refine R_region ?_
  refine J_assign rfl rfl rfl ?_
  refine J_nil ?_
  refine E_then ?_
  refine R_seq ?_
  refine R_seq ?_
  refine R_region ?_
  refine J_move rfl rfl rfl ?_
  refine J_nilCheck rfl rfl rfl ?_
  refine J_fieldAddr0 rfl rfl rfl ?_
  refine J_load rfl rfl rfl rfl ?_
  refine J_move rfl rfl rfl ?_
  refine J_ari64 rfl rfl rfl (by omega) rfl rfl ?_
  refine J_assign rfl rfl rfl ?_
  refine J_nil3 ?_
  refine E_then ?_
  refine R_block ?_
  refine R_loop (X := {k : Nat // k ≤ 1} × {v : Value // single v = true}) (fun x => [(0, .pointer (some ⟨r, 0, none⟩)), (2, .string (S (if x.1.1 = 0 then s else []))), (9, x.2.1), (10, .int .i64 (f + i + x.1.1))])
    (fun x => own x.2.1 164 2 (if x.1.1 = 0 then [] else [.int .i64 (f + i), .string (S s)]) :: reg r d f m :: F) (fun x => 1 - x.1.1) (⟨0, by omega⟩, ⟨.slice none 0 0, rfl⟩) (by exact sub_cons rfl (sub_cons rfl (sub_cons rfl (sub_cons' rfl (by (simp; done)) sub_nil)))) (Gives.own_nil Gives.refl) ?_
  rintro ⟨⟨k, hk⟩, ⟨v, hv⟩⟩
  dsimp only
  rcases Nat.lt_or_ge k 1 with h0 | h0
  · have hk0 : k = 0 := by omega
    subst hk0
    simp only [if_true]
    have hne : s ≠ [] := by intro h; subst h; simp at hs
    have hb : (s == ([] : List UInt8)) = false := by simpa using hne
    refine R_seq ?_
    refine R_seq ?_
    refine R_region ?_
    refine J_move rfl rfl rfl ?_
    refine J_str_cmp rfl rfl rfl rfl rfl ?_
    refine J_nil2 ?_
    refine E_then ?_
    refine R_cond rfl (fun hh => ?_) (fun hh => ?_)
    simp only [decide_eq_true_eq, decide_eq_false_iff_not, Bool.and_eq_true, Bool.or_eq_true, Bool.not_eq_true', Bool.not_eq_false', beq_iff_eq, bne_iff_ne, beq_eq_false_iff_ne, bne_eq_false_iff_eq, ne_eq, ge_iff_le, gt_iff_lt, Int.not_le, Int.not_lt, Bool.and_eq_false_iff, Bool.or_eq_false_iff, Decidable.not_not] at hh
    refine R_skip ?_
    refine E_then ?_
    refine R_seq ?_
    refine R_block ?_
    refine R_seq ?_
    refine R_region ?_
    refine J_move rfl rfl rfl ?_
    refine J_move rfl rfl rfl ?_
    refine J_move rfl rfl rfl ?_
    refine J_slice_hi rfl rfl (by omega) (by omega) rfl rfl ?_
    refine J_build rfl rfl rfl rfl ?_
    refine J_buildSlice rfl rfl rfl rfl rfl rfl ?_; intro
    rotate_left
    simp only [decide_eq_true_eq, decide_eq_false_iff_not, Bool.and_eq_true, Bool.or_eq_true, Bool.not_eq_true', Bool.not_eq_false', beq_iff_eq, bne_iff_ne, beq_eq_false_iff_ne, bne_eq_false_iff_eq, ne_eq, ge_iff_le, gt_iff_lt, Int.not_le, Int.not_lt, Bool.and_eq_false_iff, Bool.or_eq_false_iff, Decidable.not_not] at hh
    refine R_exit ?_
    refine E_then_exit ?_
    refine E_then_exit ?_
    refine E_block_hit ?_
    refine E_then ?_
    refine R_seq ?_
    refine R_region ?_
    refine J_move rfl rfl rfl ?_
    refine J_assign rfl rfl rfl ?_
    refine J_assign rfl rfl rfl ?_
    refine J_nil1 ?_
    refine E_then ?_
    refine R_ret ?_
    rotate_left
    · refine J_append (m := 1) (k := 2) (xs := []) (ys := [.int .i64 (f + i), .string (S s)]) (E := 164) rfl rfl (by with_reducible exact Take.next Take.here) (by rintro k ⟨⟩) rfl (by omega) (by omega) (by simp) (by
        show [Value.int .i64 (f + i + 0), .string (S (s.take 64))] = _
        rw [e3, Int.add_zero]) (by simp) rfl rfl rfl ?_
      intro v' hsv
      refine J_assign rfl rfl rfl ?_
      refine J_nil3 ?_
      refine E_then ?_
      refine R_region ?_
      refine J_move rfl rfl rfl ?_
      refine J_slice_lo rfl rfl (by omega) (by omega) rfl rfl ?_
      refine J_assign rfl rfl rfl ?_
      refine J_nil2 ?_
      refine E_block_normal ?_
      refine E_then ?_
      refine R_region ?_
      refine J_move rfl rfl rfl ?_
      refine J_ari64 rfl rfl rfl (by omega) rfl rfl ?_
      refine J_assign rfl rfl rfl ?_
      refine J_nil2 ?_
      refine E_thenI fun a w he hs' => ⟨(⟨1, by omega⟩, ⟨v', hsv⟩), by simp, he.sub (by
        refine sub_cons rfl (sub_cons' rfl ?_ (sub_cons rfl (sub_cons' rfl ?_ sub_nil)))
        · show Value.string (S (s.drop 64)) = _
          rw [e2]; rfl
        · simp), ?_⟩
      simp only [Nat.one_ne_zero, if_false, List.nil_append] at hs' ⊢
      exact hs'.gives (by exact Gives.cons Take.here (Gives.cons (Take.next Take.here) (Gives.drop Gives.refl)))
    · exact absurd hh hne
  · have hk1 : k = 1 := by omega
    subst hk1
    simp only [Nat.one_ne_zero, if_false]
    refine R_seq ?_
    refine R_seq ?_
    refine R_region ?_
    refine J_move rfl rfl rfl ?_
    refine J_str_cmp rfl rfl rfl rfl rfl ?_
    refine J_nil2 ?_
    refine E_then ?_
    refine R_cond_false rfl ?_
    refine R_exit ?_
    refine E_then_exit ?_
    refine E_then_exit ?_
    refine E_block_hit ?_
    refine E_then ?_
    refine R_seq ?_
    refine R_region ?_
    refine J_move rfl rfl rfl ?_
    refine J_assign rfl rfl rfl ?_
    refine J_assign rfl rfl rfl ?_
    refine J_nil1 ?_
    refine E_then ?_
    refine R_ret ?_
    apply E_ret Tryz.results174
    · exact Res.tmp rfl (Res.tmp rfl (Res.nil))
    · intro w s
      exact ⟨_, rfl, s⟩
theorem wrV_in {V : List Bytes} {i : Int} {s : Bytes} (h : 0 ≤ i ∧ i < V.length) (hs : s.length = 64) : wrV V i s = V.set i.toNat s := by unfold wrV; rw [if_pos ⟨h.1, h.2, hs⟩]
theorem wrE_in {V : List Bytes} {i : Int} {s : Bytes} (h : 0 ≤ i ∧ i < V.length) (hs : s.length = 64) : wrE V i s = 0 := by unfold wrE; rw [if_pos h, if_pos hs]
theorem region_Write1 (r d : Nat) (V : List Bytes) (k : Nat) (f m i : Int) (s : Bytes) (hs : s.length = 64) (hi : 0 ≤ i ∧ i < m) (hf : 0 ≤ f ∧ f + m ≤ V.length) (hD : V.length ≤ 1000) (hk : k < 1000000000) (F : List HP) :
    Fn Tryz.prog 106 [.pointer (some ⟨r, 0, none⟩), .int .i64 i, .string (S s)] (dvk d V k :: reg r d f m :: F) (Pst (.int .i64 0) (dvk d (V.set (f + i).toNat s) (k + 1) :: reg r d f m :: F)) := by
  have hE : wrE V (f + i) s = 0 := wrE_in (by omega) hs
  have hW : wrV V (f + i) s = V.set (f + i).toNat s := wrV_in (by omega) hs
  refine Fn_enter Tryz.func106 rfl Tryz.ntmps106 rfl ?_
  refine R_seq ?_
  refine R_region ?_
  refine J_assign rfl rfl rfl ?_
  refine J_nil ?_
  refine E_then ?_
  refine R_seq ?_
  refine R_region ?_
  refine J_move rfl rfl rfl ?_
  refine J_move rfl rfl rfl ?_
  refine J_move rfl rfl rfl ?_
  refine J_callm rfl (region_Split1 r d f m i s hs hi (by omega) (dvk d V k :: F)) (by exact Gives.last (Take.next Take.here)) rfl rfl ?_
  rintro v w ⟨x, rfl, s0⟩
  refine JW.of s0 ?_
  refine J_move rfl rfl rfl ?_
  refine J_extract rfl rfl rfl rfl ?_
  refine J_extract rfl rfl rfl rfl ?_
  refine J_assign rfl rfl rfl ?_
  refine J_assign rfl rfl rfl ?_
  refine J_nil3 ?_
  refine E_then ?_
  refine R_seq ?_
  refine R_seq ?_
  refine R_region ?_
  refine J_move rfl rfl rfl ?_
  refine J_openOwn (by with_reducible exact Take.here) (fun hv0 hz0 => (by cases hz0)) (fun b2 len cap sp hv0 hz1 hz2 => ?_)
  have hl1 : len = 1 := by simp at hz1; omega
  subst hl1
  subst hv0
  refine J_len_slice rfl rfl rfl ?_
  refine J_move rfl rfl rfl ?_
  refine J_nil3 ?_
  refine E_then ?_
  refine R_block ?_
  refine R_loop (X := {k : Nat // k ≤ 1}) (fun j => [(21, .int .i64 (j.1 : Int)), (20, .int .i64 1), (19, .slice (some ⟨b2, 0, none⟩) 1 cap), (0, .pointer (some ⟨r, 0, none⟩)), (8, .int .i64 0)])
    (fun j => cl b2 164 ([.int .i64 (f + i), .string (S s)] ++ sp) :: reg r d f m :: dvk d (if j.1 = 0 then V else V.set (f + i).toNat s) (k + j.1) :: F) (fun j => 1 - j.1) ⟨0, by omega⟩ (by exact sub_cons rfl (sub_cons rfl (sub_cons rfl (sub_cons rfl (sub_cons rfl sub_nil))))) Gives.refl ?_
  rintro ⟨j, hj1⟩
  dsimp only
  rcases Nat.lt_or_ge j 1 with h0 | h0
  · have hj0 : j = 0 := by omega
    subst hj0
    simp only [if_true, Nat.add_zero]
    refine R_seq ?_
    refine R_region ?_
    refine J_cmp rfl rfl rfl rfl rfl ?_
    refine J_nil1 ?_
    refine E_then ?_
    refine R_seq ?_
    refine R_cond_true rfl ?_
    refine R_skip ?_
    refine E_then ?_
    refine R_seq ?_
    refine R_block ?_
    refine R_seq ?_
    refine R_region ?_
    refine J_indexAddr rfl rfl (by omega) (by omega) rfl rfl ?_
    refine J_loadAX (us := [.int .i64 (f + i), .string (S s)]) rfl (by simp) rfl rfl rfl ?_
    refine J_alloc rfl rfl ?_; intro
    refine J_storeA rfl rfl rfl rfl rfl rfl ?_
    refine J_nil2 ?_
    refine E_then ?_
    refine R_seq ?_
    rename_i b5
    refine R_draw ([cl b5 164 [.int .i64 (f + i), .string (S s)], reg r d f m]) [8, 9] (by kernel_rfl) ?_
    (refine D_lookP (i := 0) rfl (by kernel_rfl) (by exact NP_then (NP_block (NP_then (NP_then (NP_block (NP_then NP_body)))))) (by exact Y_move rfl) rfl rfl ?_)
    (refine D_lookP (i := 1) rfl (by kernel_rfl) (by exact NP_then (NP_block (NP_then (NP_then (NP_block (NP_then NP_body)))))) (by exact Y_nilCheck rfl) rfl rfl ?_)
    (refine D_lookP (i := 2) rfl (by kernel_rfl) (by exact NP_then (NP_block (NP_then (NP_then (NP_block (NP_then NP_body)))))) (by exact Y_fieldAddr0 rfl) rfl rfl ?_)
    (refine D_look (i := 3) rfl (by kernel_rfl) (by exact NP_then (NP_block (NP_then (NP_then (NP_block (NP_then NP_body)))))) (by exact Gives.cons Take.here (Gives.cons (Take.next Take.here) Gives.nil)) (by exact Y_load rfl rfl) rfl rfl ?_)
    (refine D_lookP (i := 4) rfl (by kernel_rfl) (by exact NP_then (NP_block (NP_then (NP_then (NP_block (NP_then NP_body)))))) (by exact Y_fieldAddr0 rfl) rfl rfl ?_)
    (refine D_look (i := 5) rfl (by kernel_rfl) (by exact NP_then (NP_block (NP_then (NP_then (NP_block (NP_then NP_body)))))) (by exact Gives.cons Take.here (Gives.cons (Take.next Take.here) Gives.nil)) (by exact Y_load rfl rfl) rfl rfl ?_)
    (refine D_lookP (i := 6) rfl (by kernel_rfl) (by exact NP_then (NP_block (NP_then (NP_then (NP_block (NP_then NP_body)))))) (by exact Y_fieldAddr0 rfl) rfl rfl ?_)
    (refine D_look (i := 7) rfl (by kernel_rfl) (by exact NP_then (NP_block (NP_then (NP_then (NP_block (NP_then NP_body)))))) (by exact Gives.cons Take.here (Gives.cons (Take.next Take.here) Gives.nil)) (by exact Y_load rfl rfl) rfl rfl ?_)
    refine D_try1 (i := 8) (by kernel_rfl) rfl ?_
    refine J_callr rfl (diskv_Write d V k (f + i) s hk _) (by exact Gives.last (Take.next (Take.next (Take.next Take.here)))) rfl rfl ?_
    rw [hE, hW]
    refine D_last (by kernel_rfl) ?_
    refine D_try1 (i := 9) (by kernel_rfl) rfl ?_
    refine J_assign rfl rfl rfl ?_
    refine D_last (by kernel_rfl) ?_
    (first | refine D_end1 (by kernel_rfl) ?_ | refine D_end (by kernel_rfl) ?_)
    refine E_then ?_
    refine R_seq ?_
    refine R_region ?_
    refine J_move rfl rfl rfl ?_
    refine J_cmp rfl rfl rfl rfl rfl ?_
    refine J_nil2 ?_
    refine E_then ?_
    refine R_cond_false rfl ?_
    refine R_skip ?_
    refine E_block_normal ?_
    refine E_then ?_
    refine R_region ?_
    refine J_ari64 rfl rfl rfl (by omega) rfl rfl ?_
    refine J_moveg rfl rfl rfl ?_
    refine J_nil1 ?_
    exact E_thenI fun a w he hs' => ⟨⟨1, by omega⟩, by simp, he.sub (by exact sub_cons rfl (sub_cons rfl (sub_cons rfl (sub_cons rfl (sub_cons rfl sub_nil))))), by
      dsimp only
      simp only [Nat.one_ne_zero, if_false]
      exact hs'.gives (by exact Gives.cons (Take.next (Take.next Take.here)) (Gives.cons (Take.next (Take.next Take.here)) (Gives.cons Take.here (Gives.drop Gives.refl))))⟩
  · have hj0 : j = 1 := by omega
    subst hj0
    simp only [Nat.one_ne_zero, if_false]
    refine R_seq ?_
    refine R_region ?_
    refine J_cmp rfl rfl rfl rfl rfl ?_
    refine J_nil1 ?_
    refine E_then ?_
    refine R_seq ?_
    refine R_cond_false rfl ?_
    refine R_exit ?_
    refine E_then_exit ?_
    refine E_then_exit ?_
    refine E_block_hit ?_
    refine E_then ?_
    refine R_seq ?_
    refine R_region ?_
    refine J_move rfl rfl rfl ?_
    refine J_assign rfl rfl rfl ?_
    refine J_nil1 ?_
    refine E_then ?_
    refine R_ret ?_
    apply E_retP Tryz.results106
    · exact Res.tmp rfl (Res.nil)
    · exact Gives.cons (Take.next (Take.next Take.here)) (Gives.cons (Take.next Take.here) (Gives.drop Gives.refl))
    rfl
theorem region_Place (r d : Nat) (f m i : Int) (hf : 0 ≤ f ∧ f ≤ 1000 ∧ m ≤ 1000) (F : List HP) :
    Fn Tryz.prog 213 [.pointer (some ⟨r, 0, none⟩), .int .i64 i] (reg r d f m :: F) (Pst (.tuple #[.int .i64 (if 0 ≤ i ∧ i < m then f + i else 0), .int .i64 (if 0 ≤ i ∧ i < m then 0 else 3)]) (reg r d f m :: F)) := by
  refine Fn_enter Tryz.func213 rfl Tryz.ntmps213 rfl ?_
  refine R_seq ?_
  refine R_region ?_
  refine J_assign rfl rfl rfl ?_
  refine J_assign rfl rfl rfl ?_
  refine J_nil ?_
  refine E_then ?_
  refine R_seq ?_
  refine R_block ?_
  refine R_seq ?_
  refine R_region ?_
  refine J_move rfl rfl rfl ?_
  refine J_ptr_nil rfl rfl rfl rfl ?_
  refine J_assign rfl rfl rfl ?_
  refine J_nil2 ?_
  refine E_then ?_
  refine R_cond_false rfl ?_
  refine R_seq ?_
  refine R_region ?_
  refine J_move rfl rfl rfl ?_
  refine J_cmp rfl rfl rfl rfl rfl ?_
  refine J_move rfl rfl rfl ?_
  refine J_guard_split rfl rfl (fun hh => ?_) (fun hh => ?_)
  simp only [decide_eq_true_eq, decide_eq_false_iff_not, Bool.and_eq_true, Bool.or_eq_true, Bool.not_eq_true', Bool.not_eq_false', beq_iff_eq, bne_iff_ne, beq_eq_false_iff_ne, bne_eq_false_iff_eq, ne_eq, ge_iff_le, gt_iff_lt, Int.not_le, Int.not_lt, Bool.and_eq_false_iff, Bool.or_eq_false_iff, Decidable.not_not] at hh
  refine J_guard_not rfl rfl rfl rfl rfl rfl ?_
  refine J_guard_not rfl rfl rfl rfl rfl rfl ?_
  refine J_guard_not rfl rfl rfl rfl rfl rfl ?_
  refine J_guard_not rfl rfl rfl rfl rfl rfl ?_
  refine J_guard_not rfl rfl rfl rfl rfl rfl ?_
  refine J_guard_not rfl rfl rfl rfl rfl rfl ?_
  refine J_pick_true rfl rfl rfl rfl ?_
  refine J_assign rfl rfl rfl ?_
  refine J_nil3 ?_
  refine E_then ?_
  refine R_cond_true rfl ?_
  refine R_seq ?_
  refine R_region ?_
  refine J_assign rfl rfl rfl ?_
  refine J_assign rfl rfl rfl ?_
  refine J_nil ?_
  refine E_then ?_
  refine R_ret ?_
  refine E_block_ret ?_
  refine E_then_ret ?_
  rotate_left
  simp only [decide_eq_true_eq, decide_eq_false_iff_not, Bool.and_eq_true, Bool.or_eq_true, Bool.not_eq_true', Bool.not_eq_false', beq_iff_eq, bne_iff_ne, beq_eq_false_iff_ne, bne_eq_false_iff_eq, ne_eq, ge_iff_le, gt_iff_lt, Int.not_le, Int.not_lt, Bool.and_eq_false_iff, Bool.or_eq_false_iff, Decidable.not_not] at hh
  refine J_guard rfl rfl rfl ?_
  refine J_move rfl rfl rfl ?_
  refine J_guard rfl rfl rfl ?_
  refine J_move rfl rfl rfl ?_
  refine J_guard rfl rfl rfl ?_
  refine J_nilCheck rfl rfl rfl ?_
  refine J_guard rfl rfl rfl ?_
  refine J_fieldAddr0 rfl rfl rfl ?_
  refine J_guard rfl rfl rfl ?_
  refine J_load rfl rfl rfl rfl ?_
  refine J_guard rfl rfl rfl ?_
  refine J_cmp rfl rfl rfl rfl rfl ?_
  refine J_pick_false rfl rfl rfl rfl ?_
  refine J_assign rfl rfl rfl ?_
  refine J_nil3 ?_
  refine E_then ?_
  refine R_cond rfl (fun hh => ?_) (fun hh => ?_)
  simp only [decide_eq_true_eq, decide_eq_false_iff_not, Bool.and_eq_true, Bool.or_eq_true, Bool.not_eq_true', Bool.not_eq_false', beq_iff_eq, bne_iff_ne, beq_eq_false_iff_ne, bne_eq_false_iff_eq, ne_eq, ge_iff_le, gt_iff_lt, Int.not_le, Int.not_lt, Bool.and_eq_false_iff, Bool.or_eq_false_iff, Decidable.not_not] at hh
  refine R_seq ?_
  refine R_region ?_
  refine J_assign rfl rfl rfl ?_
  refine J_assign rfl rfl rfl ?_
  refine J_nil ?_
  refine E_then ?_
  refine R_ret ?_
  refine E_block_ret ?_
  refine E_then_ret ?_
  rotate_left
  simp only [decide_eq_true_eq, decide_eq_false_iff_not, Bool.and_eq_true, Bool.or_eq_true, Bool.not_eq_true', Bool.not_eq_false', beq_iff_eq, bne_iff_ne, beq_eq_false_iff_ne, bne_eq_false_iff_eq, ne_eq, ge_iff_le, gt_iff_lt, Int.not_le, Int.not_lt, Bool.and_eq_false_iff, Bool.or_eq_false_iff, Decidable.not_not] at hh
  refine R_skip ?_
  refine E_block_normal ?_
  refine E_then ?_
  refine R_seq ?_
  refine R_region ?_
  refine J_move rfl rfl rfl ?_
  refine J_nilCheck rfl rfl rfl ?_
  refine J_fieldAddr0 rfl rfl rfl ?_
  refine J_load rfl rfl rfl rfl ?_
  refine J_move rfl rfl rfl ?_
  refine J_ari64 rfl rfl rfl (by omega) rfl rfl ?_
  refine J_assign rfl rfl rfl ?_
  refine J_assign rfl rfl rfl ?_
  refine J_nil3 ?_
  refine E_then ?_
  refine R_ret ?_
  rotate_left
  all_goals
    apply E_retP Tryz.results213
    · exact Res.tmp rfl (Res.tmp rfl (Res.nil))
    · (repeat (with_reducible exact Gives.refl))
    simp only [one]
    first
      | rw [if_pos (by omega), if_pos (by omega)]
      | rw [if_neg (by omega), if_neg (by omega)]
/-- What sectors that follow one another hold. -/
def cat (V : List Bytes) (a : Int) (n : Nat) : Bytes := ((V.drop a.toNat).take n).flatten
theorem cat_succ {V : List Bytes} {a : Int} {n : Nat} (h0 : 0 ≤ a) (h : a + n < V.length) : cat V a (n + 1) = cat V a n ++ V.getD (a + n).toNat [] := by
  unfold cat
  have h1 : n < (V.drop a.toNat).length := by simp; omega
  rw [List.take_succ_eq_append_getElem h1, List.flatten_append]
  have e : (a + (n : Int)).toNat = a.toNat + n := by omega
  rw [e, List.getElem_drop, List.getD_eq_getElem?_getD, List.getElem?_eq_getElem (by omega)]
  simp
theorem cat_length {V : List Bytes} (hV : ∀ s ∈ V, s.length = 64) (a : Int) (n : Nat) : (cat V a n).length ≤ 64 * n := by
  unfold cat
  have key : ∀ l : List Bytes, (∀ s ∈ l, s.length = 64) → l.flatten.length = 64 * l.length := by
    intro l hl
    induction l with
    | nil => rfl
    | cons s l ih =>
      have h1 := hl s List.mem_cons_self
      have h2 := ih fun t ht => hl t (List.mem_cons_of_mem _ ht)
      simp only [List.flatten_cons, List.length_append, List.length_cons]; omega
  rw [key _ fun s hs => hV s (List.mem_of_mem_drop (List.mem_of_mem_take hs))]
  have := List.length_take_le n (V.drop a.toNat)
  omega
theorem region_Read (r d : Nat) (V : List Bytes) (k : Nat) (f m i : Int) (n : Nat) (hi : 0 ≤ i ∧ i + n ≤ m) (hf : 0 ≤ f ∧ f + m ≤ V.length) (hk : k + n < 1000000000) (F : List HP) :
    Fn Tryz.prog 180 [.pointer (some ⟨r, 0, none⟩), .int .i64 i, .int .i64 (n : Int)] (dvk d V k :: reg r d f m :: F) (Pst (.tuple #[.string (S (cat V (f + i) n)), .int .i64 0]) (dvk d V (k + n) :: reg r d f m :: F)) := by
  refine Fn.know (fun w h => dvk_know h) ?_
  rintro ⟨hV, hV6⟩
  refine Fn_enter Tryz.func180 rfl Tryz.ntmps180 rfl ?_
  refine R_seq ?_
  refine R_region ?_
  refine J_assign rfl rfl rfl ?_
  refine J_assign rfl rfl rfl ?_
  refine J_nil ?_
  refine E_then ?_
  refine R_seq ?_
  refine R_block ?_
  refine R_seq ?_
  refine R_region ?_
  refine J_move rfl rfl rfl ?_
  refine J_ptr_nil rfl rfl rfl rfl ?_
  refine J_assign rfl rfl rfl ?_
  refine J_nil2 ?_
  refine E_then ?_
  refine R_cond_false rfl ?_
  refine R_seq ?_
  refine R_region ?_
  refine J_move rfl rfl rfl ?_
  refine J_move rfl rfl rfl ?_
  refine J_move rfl rfl rfl ?_
  refine J_nilCheck rfl rfl rfl ?_
  refine J_fieldAddr0 rfl rfl rfl ?_
  refine J_load rfl rfl rfl rfl ?_
  refine J_callr rfl (region_inside i n m (by omega) _) (by exact Gives.refl) rfl rfl ?_
  have e0 : insB i n m = true := by simp [insB]; omega
  rw [e0]
  refine J_un_not rfl rfl rfl ?_
  refine J_assign rfl rfl rfl ?_
  refine J_nil3 ?_
  refine E_then ?_
  refine R_cond_false rfl ?_
  refine R_skip ?_
  refine E_block_normal ?_
  refine E_then ?_
  refine R_seq ?_
  refine R_region ?_
  refine J_alloc rfl rfl ?_; intro
  refine J_nil ?_
  refine E_then ?_
  refine R_seq ?_
  refine R_seq ?_
  refine R_region ?_
  refine J_move rfl rfl rfl ?_
  refine J_move rfl rfl rfl ?_
  refine J_nil2 ?_
  refine E_then ?_
  refine R_block ?_
  rename_i b
  refine R.open_ (α := Unit) (M := fun _ => bldr b [] :: dvk d V k :: reg r d f m :: F) (fun w s => ⟨(), new_bldr s⟩) ?_
  rintro ⟨⟩
  refine R_loop (X := {j : Nat // j ≤ n}) (fun j => [(25, .int .i64 (j.1 : Int)), (24, .int .i64 (n : Int)), (0, .pointer (some ⟨r, 0, none⟩)), (1, .int .i64 i), (8, .pointer (some ⟨b, 0, none⟩))])
    (fun j => bldr b (cat V (f + i) j.1) :: dvk d V (k + j.1) :: reg r d f m :: F) (fun j => n - j.1) ⟨0, by omega⟩ (by exact sub_cons rfl (sub_cons rfl (sub_cons rfl (sub_cons rfl (sub_cons rfl sub_nil))))) Gives.refl ?_
  rintro ⟨j, hj⟩
  dsimp only
  refine R_seq ?_
  refine R_region ?_
  refine J_cmp rfl rfl rfl rfl rfl ?_
  refine J_nil1 ?_
  refine E_then ?_
  refine R_seq ?_
  refine R_cond rfl (fun hh => ?_) (fun hh => ?_)
  simp only [decide_eq_true_eq, decide_eq_false_iff_not, Bool.and_eq_true, Bool.or_eq_true, Bool.not_eq_true', Bool.not_eq_false', beq_iff_eq, bne_iff_ne, beq_eq_false_iff_ne, bne_eq_false_iff_eq, ne_eq, ge_iff_le, gt_iff_lt, Int.not_le, Int.not_lt, Bool.and_eq_false_iff, Bool.or_eq_false_iff, Decidable.not_not] at hh
  refine R_skip ?_
  refine E_then ?_
  refine R_seq ?_
  refine R_block ?_
  refine R_seq ?_
  refine R_region ?_
  refine J_move rfl rfl rfl ?_
  refine J_assign rfl rfl rfl ?_
  refine J_nil1 ?_
  refine E_then ?_
  refine R_seq ?_
  rotate_left
  simp only [decide_eq_true_eq, decide_eq_false_iff_not, Bool.and_eq_true, Bool.or_eq_true, Bool.not_eq_true', Bool.not_eq_false', beq_iff_eq, bne_iff_ne, beq_eq_false_iff_ne, bne_eq_false_iff_eq, ne_eq, ge_iff_le, gt_iff_lt, Int.not_le, Int.not_lt, Bool.and_eq_false_iff, Bool.or_eq_false_iff, Decidable.not_not] at hh
  refine R_exit ?_
  refine E_then_exit ?_
  refine E_then_exit ?_
  refine E_block_hit ?_
  refine E_then ?_
  refine R_seq ?_
  refine R_region ?_
  rotate_left
  · have hlt : j < n := by omega
    have e1 : rdV V (f + i + j) = V.getD (f + i + j).toNat [] := by unfold rdV; rw [if_pos (by omega)]
    have e2 : rdE V (f + i + j) = 0 := by unfold rdE; rw [if_pos (by omega)]
    refine R_draw ([reg r d f m]) [12, 16, 17] (by kernel_rfl) ?_
    (refine D_lookP (i := 0) rfl (by kernel_rfl) (by exact NP_then (NP_block (NP_then (NP_then (NP_block (NP_then NP_body)))))) (by exact Y_move rfl) rfl rfl ?_)
    (refine D_lookP (i := 1) rfl (by kernel_rfl) (by exact NP_then (NP_block (NP_then (NP_then (NP_block (NP_then NP_body)))))) (by exact Y_nilCheck rfl) rfl rfl ?_)
    (refine D_lookP (i := 2) rfl (by kernel_rfl) (by exact NP_then (NP_block (NP_then (NP_then (NP_block (NP_then NP_body)))))) (by exact Y_fieldAddr0 rfl) rfl rfl ?_)
    (refine D_look (i := 3) rfl (by kernel_rfl) (by exact NP_then (NP_block (NP_then (NP_then (NP_block (NP_then NP_body)))))) (by exact Gives.cons (Take.next (Take.next Take.here)) Gives.nil) (by exact Y_load rfl rfl) rfl rfl ?_)
    (refine D_lookP (i := 4) rfl (by kernel_rfl) (by exact NP_then (NP_block (NP_then (NP_then (NP_block (NP_then NP_body)))))) (by exact Y_move rfl) rfl rfl ?_)
    (refine D_lookP (i := 5) rfl (by kernel_rfl) (by exact NP_then (NP_block (NP_then (NP_then (NP_block (NP_then NP_body)))))) (by exact Y_nilCheck rfl) rfl rfl ?_)
    (refine D_lookP (i := 6) rfl (by kernel_rfl) (by exact NP_then (NP_block (NP_then (NP_then (NP_block (NP_then NP_body)))))) (by exact Y_fieldAddr0 rfl) rfl rfl ?_)
    (refine D_look (i := 7) rfl (by kernel_rfl) (by exact NP_then (NP_block (NP_then (NP_then (NP_block (NP_then NP_body)))))) (by exact Gives.cons (Take.next (Take.next Take.here)) Gives.nil) (by exact Y_load rfl rfl) rfl rfl ?_)
    (refine D_lookP (i := 8) rfl (by kernel_rfl) (by exact NP_then (NP_block (NP_then (NP_then (NP_block (NP_then NP_body)))))) (by exact Y_move rfl) rfl rfl ?_)
    (refine D_lookP (i := 9) rfl (by kernel_rfl) (by exact NP_then (NP_block (NP_then (NP_then (NP_block (NP_then NP_body)))))) (by exact Y_ari64 rfl rfl rfl (by omega)) rfl rfl ?_)
    (refine D_lookP (i := 10) rfl (by kernel_rfl) (by exact NP_then (NP_block (NP_then (NP_then (NP_block (NP_then NP_body)))))) (by exact Y_move rfl) rfl rfl ?_)
    (refine D_lookP (i := 11) rfl (by kernel_rfl) (by exact NP_then (NP_block (NP_then (NP_then (NP_block (NP_then NP_body)))))) (by exact Y_ari64 rfl rfl rfl (by omega)) rfl rfl ?_)
    refine D_try1 (i := 12) (by kernel_rfl) rfl ?_
    refine J_callr rfl (diskv_Read d V (k + j) (f + i + j) (by omega) _) (by exact Gives.last (Take.next Take.here)) rfl rfl ?_
    rw [e1, e2]
    refine D_last (by kernel_rfl) ?_
    (refine D_lookP (i := 13) rfl (by kernel_rfl) (by exact NP_then (NP_block (NP_then (NP_then (NP_block (NP_then NP_body)))))) (by exact Y_move rfl) rfl rfl ?_)
    (refine D_lookP (i := 14) rfl (by kernel_rfl) (by exact NP_then (NP_block (NP_then (NP_then (NP_block (NP_then NP_body)))))) (by exact Y_extract rfl rfl) rfl rfl ?_)
    (refine D_lookP (i := 15) rfl (by kernel_rfl) (by exact NP_then (NP_block (NP_then (NP_then (NP_block (NP_then NP_body)))))) (by exact Y_extract rfl rfl) rfl rfl ?_)
    refine D_try1 (i := 16) (by kernel_rfl) rfl ?_
    refine J_assign rfl rfl rfl ?_
    refine D_last (by kernel_rfl) ?_
    refine D_try1 (i := 17) (by kernel_rfl) rfl ?_
    refine J_assign rfl rfl rfl ?_
    refine D_last (by kernel_rfl) ?_
    (first | refine D_end1 (by kernel_rfl) ?_ | refine D_end (by kernel_rfl) ?_)
    refine E_then ?_
    refine R_seq ?_
    refine R_seq ?_
    refine R_region ?_
    refine J_move rfl rfl rfl ?_
    refine J_cmp rfl rfl rfl rfl rfl ?_
    refine J_nil2 ?_
    refine E_then ?_
    refine R_cond_false rfl ?_
    refine R_skip ?_
    refine E_then ?_
    refine R_region ?_
    refine J_move rfl rfl rfl ?_
    have hl := cat_length hV6 (f + i) j
    have hl2 : (V.getD (f + i + j).toNat []).length ≤ 64 := by
      rw [List.getD_eq_getElem?_getD, List.getElem?_eq_getElem (by omega)]
      have := hV6 (V[(f + i + (j : Int)).toNat]'(by omega)) (List.getElem_mem _)
      simp only [Option.getD_some]; omega
    refine J_callr rfl (Builder_WriteString b (cat V (f + i) j) (V.getD (f + i + j).toNat []) (by omega) _) (by exact Gives.last (Take.next Take.here)) rfl rfl ?_
    refine J_nil2 ?_
    refine E_block_normal ?_
    refine E_then ?_
    refine R_region ?_
    refine J_ari64 rfl rfl rfl (by omega) rfl rfl ?_
    refine J_moveg rfl rfl rfl ?_
    refine J_nil1 ?_
    exact E_thenI fun a w he hs => ⟨⟨j + 1, by omega⟩, by simp; omega, he.sub (by exact sub_cons rfl (sub_cons rfl (sub_cons rfl (sub_cons rfl (sub_cons rfl sub_nil))))), by
      rw [← cat_succ (by omega) (by omega)] at hs
      exact hs⟩
  · have e : j = n := by omega
    subst e
    have hl := cat_length hV6 (f + i) j
    refine J_callr rfl (Builder_String b (cat V (f + i) j) (by omega) _) (by exact Gives.refl) rfl rfl ?_
    refine J_assign rfl rfl rfl ?_
    refine J_assign rfl rfl rfl ?_
    refine J_nil1 ?_
    refine E_then ?_
    refine R_ret ?_
    apply E_retP Tryz.results180
    · exact Res.tmp rfl (Res.tmp rfl (Res.nil))
    · exact Gives.refl
    rfl
end Go.Proofs.Sol

/- Records of a log: what is looked for in slices; what may be a transaction; turns. -/
namespace Go.Proofs.Sol
open Go Go.Proofs
set_option maxRecDepth 100000
set_option maxHeartbeats 4000000
set_option linter.unusedVariables false
set_option linter.unusedSimpArgs false
attribute [local irreducible] R J JW E D Fn Y clf mpI own Sat Exit.then Exit.inBlock bodyPost bodyPostM Code.wpIn wpL
/-- A function of sectors that tells p. -/
def Tst (f : Nat) (cs : List Value) (C : List HP) (p : Int × Bytes → Bool) (x : Int × Bytes) : Prop := Fn Tryz.prog f (.agg #[.int .i64 x.1, .string (S x.2)] :: cs) C (Pst (.bool (p x)) C)
theorem slices_IndexFunc (f : Nat) [u : IsFn Tryz.prog f] (cs : List Value) (p : Int × Bytes → Bool) (b2 len cap : Nat) (l : List (Int × Bytes)) (sp : List Value) (C : List HP) (hl : l.length < 1000000)
    (hp : ∀ x ∈ l, Tst f cs (cl b2 164 (secs l ++ sp) :: C) p x) (hlen : len = l.length) :
    Fn Tryz.prog 241 [.slice (some ⟨b2, 0, none⟩) len cap, .func (.func f) #[] cs.toArray] (cl b2 164 (secs l ++ sp) :: C)
      (Pst (.int .i64 (match l.findIdx? p with | some i => (i : Int) | none => -1)) (cl b2 164 (secs l ++ sp) :: C)) := by
  subst hlen
  refine Fn_enter Tryz.func241 rfl Tryz.ntmps241 rfl ?_
  refine R_seq ?_
  refine R_region ?_
  refine J_assign rfl rfl rfl ?_
  refine J_nil ?_
  refine E_then ?_
  refine R_seq ?_
  refine R_seq ?_
  refine R_region ?_
  refine J_move rfl rfl rfl ?_
  refine J_len_slice rfl rfl rfl ?_
  refine J_move rfl rfl rfl ?_
  refine J_nil3 ?_
  refine E_then ?_
  refine R_block ?_
  refine R_loop (X := {j : Nat // j ≤ l.length ∧ ∀ i (h : i < l.length), i < j → p l[i] = false}) (fun j => [(8, .int .i64 (j.1 : Int)), (7, .int .i64 (l.length : Int)), (0, .slice (some ⟨b2, 0, none⟩) l.length cap), (1, .func (.func f) #[] cs.toArray)])
    (fun j => cl b2 164 (secs l ++ sp) :: C) (fun j => l.length - j.1) ⟨0, by omega, fun i _ h => by omega⟩ (by exact sub_cons rfl (sub_cons rfl (sub_cons rfl (sub_cons rfl sub_nil)))) Gives.refl ?_
  rintro ⟨j, hj, hn⟩
  dsimp only
  refine R_seq ?_
  refine R_region ?_
  refine J_cmp rfl rfl rfl rfl rfl ?_
  refine J_nil1 ?_
  refine E_then ?_
  refine R_seq ?_
  refine R_cond rfl (fun hh => ?_) (fun hh => ?_)
  simp only [decide_eq_true_eq, decide_eq_false_iff_not, Bool.and_eq_true, Bool.or_eq_true, Bool.not_eq_true', Bool.not_eq_false', beq_iff_eq, bne_iff_ne, beq_eq_false_iff_ne, bne_eq_false_iff_eq, ne_eq, ge_iff_le, gt_iff_lt, Int.not_le, Int.not_lt, Bool.and_eq_false_iff, Bool.or_eq_false_iff, Decidable.not_not] at hh
  refine R_skip ?_
  refine E_then ?_
  refine R_seq ?_
  refine R_block ?_
  refine R_seq ?_
  refine R_region ?_
  refine J_move rfl rfl rfl ?_
  refine J_assign rfl rfl rfl ?_
  refine J_nil1 ?_
  refine E_then ?_
  refine R_seq ?_
  refine R_region ?_
  refine J_move rfl rfl rfl ?_
  refine J_move rfl rfl rfl ?_
  refine J_move rfl rfl rfl ?_
  refine J_indexAddr rfl rfl (by omega) (by omega) rfl rfl ?_
  rotate_left
  simp only [decide_eq_true_eq, decide_eq_false_iff_not, Bool.and_eq_true, Bool.or_eq_true, Bool.not_eq_true', Bool.not_eq_false', beq_iff_eq, bne_iff_ne, beq_eq_false_iff_ne, bne_eq_false_iff_eq, ne_eq, ge_iff_le, gt_iff_lt, Int.not_le, Int.not_lt, Bool.and_eq_false_iff, Bool.or_eq_false_iff, Decidable.not_not] at hh
  refine R_exit ?_
  refine E_then_exit ?_
  refine E_then_exit ?_
  refine E_block_hit ?_
  refine E_then ?_
  refine R_seq ?_
  refine R_region ?_
  refine J_assign rfl rfl rfl ?_
  refine J_nil ?_
  refine E_then ?_
  refine R_ret ?_
  rotate_left
  · have hlt : j < l.length := by omega
    have e1 : 0 + (j : Int).toNat * 2 = j * 2 := by omega
    rw [e1]
    refine J_loadAX (us := [.int .i64 l[j].1, .string (S l[j].2)]) rfl (by simp [secs_length]; omega) (by
      have := secs_drop l j hlt
      rw [List.drop_append_of_le_length (by simp [secs_length]; omega), List.take_append_of_le_length (by simp [secs_length]; omega)]
      exact this) rfl rfl ?_
    refine J_callv (us := []) (cs := cs) (all := .agg #[.int .i64 l[j].1, .string (S l[j].2)] :: cs) rfl rfl rfl (hp l[j] (List.getElem_mem hlt)) rfl rfl ?_
    rintro v w ⟨rfl, s0⟩
    refine JW.of s0 ?_
    rcases Bool.eq_false_or_eq_true (p l[j]) with hx | hx
    · rw [hx]
      refine J_nil3 ?_
      refine E_then ?_
      refine R_cond_true rfl ?_
      refine R_seq ?_
      refine R_region ?_
      refine J_move rfl rfl rfl ?_
      refine J_assign rfl rfl rfl ?_
      refine J_nil1 ?_
      refine E_then ?_
      refine R_ret ?_
      refine E_block_ret ?_
      refine E_then_ret ?_
      refine E_then_ret ?_
      refine E_block_ret ?_
      refine E_then_ret ?_
      apply E_retP Tryz.results241
      · exact Res.tmp rfl (Res.nil)
      · exact Gives.refl
      have e : l.findIdx? p = some j := by
        rw [List.findIdx?_eq_some_iff_getElem]
        exact ⟨hlt, hx, fun i hi => by simpa using hn i (by omega) hi⟩
      rw [e]; rfl
    · rw [hx]
      refine J_nil3 ?_
      refine E_then ?_
      refine R_cond_false rfl ?_
      refine R_skip ?_
      refine E_block_normal ?_
      refine E_then ?_
      refine R_region ?_
      refine J_ari64 rfl rfl rfl (by omega) rfl rfl ?_
      refine J_moveg rfl rfl rfl ?_
      refine J_nil1 ?_
      exact E_thenI fun a w he hs => ⟨⟨j + 1, by omega, fun i h hi => by
        rcases Nat.lt_or_ge i j with h2 | h2
        · exact hn i h h2
        · have : i = j := by omega
          subst this; exact hx⟩, by simp; omega, he.sub (by exact sub_cons rfl (sub_cons rfl (sub_cons rfl (sub_cons rfl sub_nil)))), hs⟩
  · have e : j = l.length := by omega
    apply E_retP Tryz.results241
    · exact Res.tmp rfl (Res.nil)
    · exact Gives.refl
    have e2 : l.findIdx? p = none := by
      rw [List.findIdx?_eq_none_iff]
      intro x hx
      obtain ⟨i, hi, rfl⟩ := List.getElem_of_mem hx
      exact hn i hi (by omega)
    rw [e2]; rfl
theorem slices_ContainsFunc (f : Nat) [u : IsFn Tryz.prog f] (cs : List Value) (p : Int × Bytes → Bool) (b2 len cap : Nat) (l : List (Int × Bytes)) (sp : List Value) (C : List HP) (hl : l.length < 1000000)
    (hp : ∀ x ∈ l, Tst f cs (cl b2 164 (secs l ++ sp) :: C) p x) (hlen : len = l.length) :
    Fn Tryz.prog 210 [.slice (some ⟨b2, 0, none⟩) len cap, .func (.func f) #[] cs.toArray] (cl b2 164 (secs l ++ sp) :: C)
      (Pst (.bool (l.any p)) (cl b2 164 (secs l ++ sp) :: C)) := by
  refine Fn_enter Tryz.func210 rfl Tryz.ntmps210 rfl ?_
  refine R_seq ?_
  refine R_region ?_
  refine J_assign rfl rfl rfl ?_
  refine J_nil ?_
  refine E_then ?_
  refine R_seq ?_
  refine R_region ?_
  refine J_move rfl rfl rfl ?_
  refine J_move rfl rfl rfl ?_
  refine J_callr rfl (slices_IndexFunc f cs p b2 len cap l sp C hl hp hlen) (by exact Gives.refl) rfl rfl ?_
  refine J_cmp rfl rfl rfl rfl rfl ?_
  refine J_assign rfl rfl rfl ?_
  refine J_nil3 ?_
  refine E_then ?_
  refine R_ret ?_
  apply E_retP Tryz.results210
  · exact Res.tmp rfl (Res.nil)
  · exact Gives.refl
  simp only [one]
  congr 1
  cases e : l.findIdx? p with
  | none =>
    rw [List.findIdx?_eq_none_iff] at e
    have : l.any p = false := by rw [List.any_eq_false]; intro x hx; simpa using e x hx
    rw [this]; rfl
  | some i =>
    rw [List.findIdx?_eq_some_iff_getElem] at e
    obtain ⟨h1, h2, _⟩ := e
    have : l.any p = true := List.any_eq_true.2 ⟨_, List.getElem_mem h1, h2⟩
    rw [this]
    simp
theorem logrec_tail (a b : Bytes) (h : a.length + b.length < 1000000000000) (F : List HP) : Fn Tryz.prog 167 [.string (S a), .string (S b)] F (Pst (.string (S (tail (a ++ b)))) F) := by
  refine Fn_enter Tryz.func167 rfl Tryz.ntmps167 rfl ?_
  refine R_seq ?_
  refine R_region ?_
  refine J_assign rfl rfl rfl ?_
  refine J_nil ?_
  refine E_then ?_
  refine R_seq ?_
  refine R_region ?_
  refine J_move rfl rfl rfl ?_
  refine J_move rfl rfl rfl ?_
  refine J_str_add rfl rfl (by omega) rfl rfl ?_
  refine J_callr rfl (cyclic_Tail (a ++ b) (by simp; omega) _) (by exact Gives.refl) rfl rfl ?_
  refine J_assign rfl rfl rfl ?_
  refine J_nil3 ?_
  refine E_then ?_
  refine R_ret ?_
  apply E_retP Tryz.results167
  · exact Res.tmp rfl (Res.nil)
  · exact Gives.refl
  rfl
end Go.Proofs.Sol

/- Records of a log: what may be a transaction; turns. -/
namespace Go.Proofs.Sol
open Go Go.Proofs
set_option maxRecDepth 100000
set_option maxHeartbeats 4000000
set_option linter.unusedVariables false
set_option linter.unusedSimpArgs false
attribute [local irreducible] R J JW E D Fn Y clf mpI own Sat Exit.then Exit.inBlock bodyPost bodyPostM Code.wpIn wpL
theorem logrec_Check1 (b4 b2 : Nat) (x y : Int × Bytes) (vs : List Value) (F : List HP) : Tst 211 [.pointer (some ⟨b4, 0, none⟩)] (cl b2 164 vs :: cl b4 164 [.int .i64 y.1, .string (S y.2)] :: F) (fun x => x.1 == y.1) x := by
  unfold Tst
  refine Fn_enter Tryz.func211 rfl Tryz.ntmps211 rfl ?_
  refine R_seq ?_
  refine R_region ?_
  refine J_boxA rfl rfl rfl ?_; intro
  refine J_assign rfl rfl rfl ?_
  refine J_nil ?_
  refine E_then ?_
  refine R_seq ?_
  refine R_region ?_
  refine J_fieldAddr0 rfl rfl rfl ?_
  refine J_load rfl rfl rfl rfl ?_
  refine J_fieldAddr0 rfl rfl rfl ?_
  refine J_load rfl rfl rfl rfl ?_
  refine J_cmp rfl rfl rfl rfl rfl ?_
  refine J_assign rfl rfl rfl ?_
  refine J_nil3 ?_
  refine E_then ?_
  refine R_ret ?_
  apply E_retP Tryz.results211
  · exact Res.tmp rfl (Res.nil)
  · exact Gives.cons (Take.next Take.here) (Gives.cons (Take.next Take.here) (Gives.drop Gives.refl))
  rfl
theorem logrec_turn1 (b3 b2 n : Nat) (x : Int × Bytes) (hx : x.2.length = 64) (vs : List Value) (F : List HP) : Tst 212 [.pointer (some ⟨b3, 0, none⟩)] (cl b2 164 vs :: cl b3 3 [.int .i64 (n : Int)] :: F) (fun x => x.2.headD 0 ^^^ UInt8.ofNat n == 82) x := by
  unfold Tst
  obtain ⟨i, s⟩ := x
  dsimp only at hx ⊢
  obtain ⟨c, s', rfl⟩ : ∃ c s', s = c :: s' := by
    cases s with
    | nil => simp at hx
    | cons c s' => exact ⟨c, s', rfl⟩
  have hc : (c :: s')[0]? = some c := rfl
  refine Fn_enter Tryz.func212 rfl Tryz.ntmps212 rfl ?_
  refine R_seq ?_
  refine R_region ?_
  refine J_boxA rfl rfl rfl ?_; intro
  refine J_assign rfl rfl rfl ?_
  refine J_nil ?_
  refine E_then ?_
  refine R_seq ?_
  refine R_draw0 [8] (by kernel_rfl) ?_
  (refine D_lookP (i := 0) rfl (by kernel_rfl) (by exact NP_then NP_body) (by exact Y_fieldAddr0 rfl) rfl rfl ?_)
  (refine D_look (i := 1) rfl (by kernel_rfl) (by exact NP_then NP_body) (by exact Gives.refl) (by exact Y_load rfl rfl) rfl rfl ?_)
  (refine D_lookP (i := 2) rfl (by kernel_rfl) (by exact NP_then NP_body) (by exact Y_index_str rfl rfl (by omega) (by first | assumption | rfl)) rfl rfl ?_)
  (refine D_look (i := 3) rfl (by kernel_rfl) (by exact NP_then NP_body) (by exact Gives.refl) (by exact Y_load rfl rfl) rfl rfl ?_)
  (refine D_look (i := 4) rfl (by kernel_rfl) (by exact NP_then NP_body) (by exact Gives.refl) (by exact Y_conv8 rfl (by omega)) rfl rfl ?_)
  (refine D_lookP (i := 5) rfl (by kernel_rfl) (by exact NP_then NP_body) (by exact Y_xor8 rfl rfl) rfl rfl ?_)
  (refine D_lookP (i := 6) rfl (by kernel_rfl) (by exact NP_then NP_body) (by exact Y_index_str rfl rfl (by omega) (by first | assumption | rfl)) rfl rfl ?_)
  (refine D_lookP (i := 7) rfl (by kernel_rfl) (by exact NP_then NP_body) (by exact Y_cmp rfl rfl rfl) rfl rfl ?_)
  refine D_try1 (i := 8) (by kernel_rfl) rfl ?_
  refine J_assign rfl rfl rfl ?_
  refine D_last (by kernel_rfl) ?_
  (first | refine D_end1 (by kernel_rfl) ?_ | refine D_end (by kernel_rfl) ?_)
  refine E_then ?_
  refine R_ret ?_
  apply E_retP Tryz.results212
  · exact Res.tmp rfl (Res.nil)
  · exact Gives.cons (Take.next Take.here) (Gives.cons (Take.next Take.here) (Gives.drop Gives.refl))
  have e : (n : Int).toNat = n := by omega
  simp only [one, e, List.headD_cons]
  congr 1
  rw [Bool.eq_iff_iff]
  simp
  rw [← UInt8.toNat_inj]
  simp
  omega
theorem logrec_turned (s : Bytes) (hs : s.length = 64) (n : Int) (hn : 0 ≤ n ∧ n < 256) (F : List HP) : Fn Tryz.prog 166 [.string (S s), .int .i64 n] F (Pst (.string (S (turnB s n))) F) := by
  obtain ⟨c, s', rfl⟩ : ∃ c s', s = c :: s' := by
    cases s with
    | nil => simp at hs
    | cons c s' => exact ⟨c, s', rfl⟩
  have hc : (c :: s')[0]? = some c := rfl
  have h1 : [c ^^^ UInt8.ofNat n.toNat].length = 1 := rfl
  have h2 : ((c :: s').drop 1).length = 63 := by simp at hs ⊢; omega
  have h3 : ((c :: s').drop (Int.toNat 1)).length = 63 := h2
  refine Fn_enter Tryz.func166 rfl Tryz.ntmps166 rfl ?_
  refine R_seq ?_
  refine R_region ?_
  refine J_assign rfl rfl rfl ?_
  refine J_nil ?_
  refine E_then ?_
  refine R_seq ?_
  refine R_draw (F) [10] (by kernel_rfl) ?_
  (refine D_lookP (i := 0) rfl (by kernel_rfl) (by exact NP_then NP_body) (by exact Y_move rfl) rfl rfl ?_)
  (refine D_lookP (i := 1) rfl (by kernel_rfl) (by exact NP_then NP_body) (by exact Y_index_str rfl rfl (by omega) (by first | assumption | rfl)) rfl rfl ?_)
  (refine D_lookP (i := 2) rfl (by kernel_rfl) (by exact NP_then NP_body) (by exact Y_move rfl) rfl rfl ?_)
  (refine D_look (i := 3) rfl (by kernel_rfl) (by exact NP_then NP_body) (by exact Gives.refl) (by exact Y_conv8 rfl (by omega)) rfl rfl ?_)
  (refine D_lookP (i := 4) rfl (by kernel_rfl) (by exact NP_then NP_body) (by exact Y_xor8 rfl rfl) rfl rfl ?_)
  (refine D_lookP (i := 7) rfl (by kernel_rfl) (by exact NP_then NP_body) (by exact Y_move rfl) rfl rfl ?_)
  (refine D_look (i := 8) rfl (by kernel_rfl) (by exact NP_then NP_body) (by exact Gives.refl) (by exact Y_slice_lo rfl rfl (by omega) (by omega)) rfl rfl ?_)
  refine D_try1 (i := 5) (by kernel_rfl) rfl ?_
  (refine J_buildSlice rfl rfl rfl rfl rfl rfl ?_; intro)
  refine D_next (by exact Gives.drop Gives.refl) ?_
  refine D_try1 (i := 6) (by kernel_rfl) rfl ?_
  refine J_bytesToStr (cs := [c ^^^ UInt8.ofNat n.toNat]) rfl (by simp) rfl rfl rfl ?_
  refine D_next (by exact Gives.drop Gives.refl) ?_
  (refine D_lookP (i := 9) rfl (by kernel_rfl) (by exact NP_then NP_body) (by exact Y_str_add rfl rfl (by omega)) rfl rfl ?_)
  refine D_try1 (i := 10) (by kernel_rfl) rfl ?_
  refine J_assign rfl rfl rfl ?_
  refine D_last (by kernel_rfl) ?_
  (first | refine D_end1 (by kernel_rfl) ?_ | refine D_end (by kernel_rfl) ?_)
  refine E_then ?_
  refine R_ret ?_
  apply E_retP Tryz.results166
  · exact Res.tmp rfl (Res.nil)
  · exact Gives.drop Gives.refl
  rfl
end Go.Proofs.Sol

/- Records of a log: what may be a transaction; the least turn; a record's size. -/
namespace Go.Proofs.Sol
open Go Go.Proofs
set_option maxRecDepth 100000
set_option maxHeartbeats 4000000
set_option linter.unusedVariables false
set_option linter.unusedSimpArgs false
attribute [local irreducible] R J JW E D Fn Y clf mpI own Sat Exit.then Exit.inBlock bodyPost bodyPostM Code.wpIn wpL
theorem logrec_Check (b2 cap : Nat) (l : List (Int × Bytes)) (sp : List Value) (hcap : l.length ≤ cap) (h : RecOk l) (hne : l ≠ []) (F : List HP) : Fn Tryz.prog 164 [.slice (some ⟨b2, 0, none⟩) l.length cap] (cl b2 164 (secs l ++ sp) :: F) (Pst (.int .i64 0) (cl b2 164 (secs l ++ sp) :: F)) := by
  have hm := h.many
  have h0 : 0 < l.length := List.length_pos_iff.2 hne
  refine Fn_enter Tryz.func164 rfl Tryz.ntmps164 rfl ?_
  refine R_seq ?_
  refine R_region ?_
  refine J_assign rfl rfl rfl ?_
  refine J_nil ?_
  refine E_then ?_
  refine R_seq ?_
  refine R_block ?_
  refine R_seq ?_
  refine R_region ?_
  refine J_move rfl rfl rfl ?_
  refine J_len_slice rfl rfl rfl ?_
  refine J_cmp rfl rfl rfl rfl rfl ?_
  refine J_assign rfl rfl rfl ?_
  refine J_nil3 ?_
  refine E_then ?_
  refine R_cond rfl (fun hh => ?_) (fun hh => ?_)
  simp only [decide_eq_true_eq, decide_eq_false_iff_not, Bool.and_eq_true, Bool.or_eq_true, Bool.not_eq_true', Bool.not_eq_false', beq_iff_eq, bne_iff_ne, beq_eq_false_iff_ne, bne_eq_false_iff_eq, ne_eq, ge_iff_le, gt_iff_lt, Int.not_le, Int.not_lt, Bool.and_eq_false_iff, Bool.or_eq_false_iff, Decidable.not_not] at hh
  exfalso; omega
  simp only [decide_eq_true_eq, decide_eq_false_iff_not, Bool.and_eq_true, Bool.or_eq_true, Bool.not_eq_true', Bool.not_eq_false', beq_iff_eq, bne_iff_ne, beq_eq_false_iff_ne, bne_eq_false_iff_eq, ne_eq, ge_iff_le, gt_iff_lt, Int.not_le, Int.not_lt, Bool.and_eq_false_iff, Bool.or_eq_false_iff, Decidable.not_not] at hh
  refine R_seq ?_
  refine R_region ?_
  refine J_move rfl rfl rfl ?_
  refine J_len_slice rfl rfl rfl ?_
  refine J_cmp rfl rfl rfl rfl rfl ?_
  refine J_assign rfl rfl rfl ?_
  refine J_nil3 ?_
  refine E_then ?_
  refine R_cond rfl (fun hh => ?_) (fun hh => ?_)
  simp only [decide_eq_true_eq, decide_eq_false_iff_not, Bool.and_eq_true, Bool.or_eq_true, Bool.not_eq_true', Bool.not_eq_false', beq_iff_eq, bne_iff_ne, beq_eq_false_iff_ne, bne_eq_false_iff_eq, ne_eq, ge_iff_le, gt_iff_lt, Int.not_le, Int.not_lt, Bool.and_eq_false_iff, Bool.or_eq_false_iff, Decidable.not_not] at hh
  exfalso; omega
  simp only [decide_eq_true_eq, decide_eq_false_iff_not, Bool.and_eq_true, Bool.or_eq_true, Bool.not_eq_true', Bool.not_eq_false', beq_iff_eq, bne_iff_ne, beq_eq_false_iff_ne, bne_eq_false_iff_eq, ne_eq, ge_iff_le, gt_iff_lt, Int.not_le, Int.not_lt, Bool.and_eq_false_iff, Bool.or_eq_false_iff, Decidable.not_not] at hh
  refine R_skip ?_
  refine E_block_normal ?_
  refine E_then ?_
  refine R_seq ?_
  refine R_seq ?_
  refine R_region ?_
  refine J_move rfl rfl rfl ?_
  refine J_len_slice rfl rfl rfl ?_
  refine J_move rfl rfl rfl ?_
  refine J_nil3 ?_
  refine E_then ?_
  refine R_block ?_
  refine R_loop (X := {j : Nat // j ≤ l.length}) (fun j => [(15, .int .i64 (j.1 : Int)), (14, .int .i64 (l.length : Int)), (13, .slice (some ⟨b2, 0, none⟩) l.length cap), (0, .slice (some ⟨b2, 0, none⟩) l.length cap)])
    (fun j => cl b2 164 (secs l ++ sp) :: F) (fun j => l.length - j.1) ⟨0, by omega⟩ (by exact sub_cons rfl (sub_cons rfl (sub_cons rfl (sub_cons rfl sub_nil)))) Gives.refl ?_
  rintro ⟨j, hj⟩
  dsimp only
  refine R_seq ?_
  refine R_region ?_
  refine J_cmp rfl rfl rfl rfl rfl ?_
  refine J_nil1 ?_
  refine E_then ?_
  refine R_seq ?_
  refine R_cond rfl (fun hh => ?_) (fun hh => ?_)
  simp only [decide_eq_true_eq, decide_eq_false_iff_not, Bool.and_eq_true, Bool.or_eq_true, Bool.not_eq_true', Bool.not_eq_false', beq_iff_eq, bne_iff_ne, beq_eq_false_iff_ne, bne_eq_false_iff_eq, ne_eq, ge_iff_le, gt_iff_lt, Int.not_le, Int.not_lt, Bool.and_eq_false_iff, Bool.or_eq_false_iff, Decidable.not_not] at hh
  refine R_skip ?_
  refine E_then ?_
  refine R_seq ?_
  refine R_block ?_
  refine R_seq ?_
  refine R_region ?_
  refine J_move rfl rfl rfl ?_
  refine J_indexAddr rfl rfl (by omega) (by omega) rfl rfl ?_
  rotate_left
  simp only [decide_eq_true_eq, decide_eq_false_iff_not, Bool.and_eq_true, Bool.or_eq_true, Bool.not_eq_true', Bool.not_eq_false', beq_iff_eq, bne_iff_ne, beq_eq_false_iff_ne, bne_eq_false_iff_eq, ne_eq, ge_iff_le, gt_iff_lt, Int.not_le, Int.not_lt, Bool.and_eq_false_iff, Bool.or_eq_false_iff, Decidable.not_not] at hh
  refine R_exit ?_
  refine E_then_exit ?_
  refine E_then_exit ?_
  refine E_block_hit ?_
  refine E_then ?_
  refine R_seq ?_
  refine R_region ?_
  refine J_assign rfl rfl rfl ?_
  refine J_nil ?_
  refine E_then ?_
  refine R_ret ?_
  rotate_left
  · have hlt : j < l.length := by omega
    have e1 : 0 + (j : Int).toNat * 2 = j * 2 := by omega
    rw [e1]
    refine J_loadAX (us := [.int .i64 l[j].1, .string (S l[j].2)]) rfl (by simp [secs_length]; omega) (by
      have := secs_drop l j hlt
      rw [List.drop_append_of_le_length (by simp [secs_length]; omega), List.take_append_of_le_length (by simp [secs_length]; omega)]
      exact this) rfl rfl ?_
    have ha := h.at_ l[j] (List.getElem_mem hlt)
    have hd := h.data l[j] (List.getElem_mem hlt)
    generalize hx : l[j] = x at ha hd ⊢
    refine J_alloc rfl rfl ?_; intro
    refine J_assign rfl rfl rfl ?_
    refine J_storeA rfl rfl rfl rfl rfl rfl ?_
    refine J_nil3 ?_
    refine E_then ?_
    refine R_block ?_
    refine R_seq ?_
    refine R_region ?_
    refine J_fieldAddr0 rfl rfl rfl ?_
    refine J_load rfl rfl rfl rfl ?_
    refine J_cmp rfl rfl rfl rfl rfl ?_
    refine J_move rfl rfl rfl ?_
    refine J_guard_split rfl rfl (fun hh => ?_) (fun hh => ?_)
    simp only [decide_eq_true_eq, decide_eq_false_iff_not, Bool.and_eq_true, Bool.or_eq_true, Bool.not_eq_true', Bool.not_eq_false', beq_iff_eq, bne_iff_ne, beq_eq_false_iff_ne, bne_eq_false_iff_eq, ne_eq, ge_iff_le, gt_iff_lt, Int.not_le, Int.not_lt, Bool.and_eq_false_iff, Bool.or_eq_false_iff, Decidable.not_not] at hh
    exfalso; omega
    simp only [decide_eq_true_eq, decide_eq_false_iff_not, Bool.and_eq_true, Bool.or_eq_true, Bool.not_eq_true', Bool.not_eq_false', beq_iff_eq, bne_iff_ne, beq_eq_false_iff_ne, bne_eq_false_iff_eq, ne_eq, ge_iff_le, gt_iff_lt, Int.not_le, Int.not_lt, Bool.and_eq_false_iff, Bool.or_eq_false_iff, Decidable.not_not] at hh
    refine J_guard rfl rfl rfl ?_
    refine J_fieldAddr0 rfl rfl rfl ?_
    refine J_guard rfl rfl rfl ?_
    refine J_load rfl rfl rfl rfl ?_
    refine J_guard rfl rfl rfl ?_
    refine J_cmp rfl rfl rfl rfl rfl ?_
    refine J_pick_false rfl rfl rfl rfl ?_
    refine J_assign rfl rfl rfl ?_
    refine J_nil3 ?_
    refine E_then ?_
    refine R_cond rfl (fun hh => ?_) (fun hh => ?_)
    simp only [decide_eq_true_eq, decide_eq_false_iff_not, Bool.and_eq_true, Bool.or_eq_true, Bool.not_eq_true', Bool.not_eq_false', beq_iff_eq, bne_iff_ne, beq_eq_false_iff_ne, bne_eq_false_iff_eq, ne_eq, ge_iff_le, gt_iff_lt, Int.not_le, Int.not_lt, Bool.and_eq_false_iff, Bool.or_eq_false_iff, Decidable.not_not] at hh
    exfalso; omega
    simp only [decide_eq_true_eq, decide_eq_false_iff_not, Bool.and_eq_true, Bool.or_eq_true, Bool.not_eq_true', Bool.not_eq_false', beq_iff_eq, bne_iff_ne, beq_eq_false_iff_ne, bne_eq_false_iff_eq, ne_eq, ge_iff_le, gt_iff_lt, Int.not_le, Int.not_lt, Bool.and_eq_false_iff, Bool.or_eq_false_iff, Decidable.not_not] at hh
    refine R_seq ?_
    refine R_region ?_
    refine J_fieldAddr0 rfl rfl rfl ?_
    refine J_load rfl rfl rfl rfl ?_
    refine J_len_str rfl rfl rfl ?_
    refine J_cmp rfl rfl rfl rfl rfl ?_
    refine J_assign rfl rfl rfl ?_
    refine J_nil3 ?_
    refine E_then ?_
    refine R_cond rfl (fun hh => ?_) (fun hh => ?_)
    simp only [decide_eq_true_eq, decide_eq_false_iff_not, Bool.and_eq_true, Bool.or_eq_true, Bool.not_eq_true', Bool.not_eq_false', beq_iff_eq, bne_iff_ne, beq_eq_false_iff_ne, bne_eq_false_iff_eq, ne_eq, ge_iff_le, gt_iff_lt, Int.not_le, Int.not_lt, Bool.and_eq_false_iff, Bool.or_eq_false_iff, Decidable.not_not] at hh
    exfalso; omega
    simp only [decide_eq_true_eq, decide_eq_false_iff_not, Bool.and_eq_true, Bool.or_eq_true, Bool.not_eq_true', Bool.not_eq_false', beq_iff_eq, bne_iff_ne, beq_eq_false_iff_ne, bne_eq_false_iff_eq, ne_eq, ge_iff_le, gt_iff_lt, Int.not_le, Int.not_lt, Bool.and_eq_false_iff, Bool.or_eq_false_iff, Decidable.not_not] at hh
    refine R_seq ?_
    refine R_region ?_
    refine J_move rfl rfl rfl ?_
    refine J_move rfl rfl rfl ?_
    refine J_sliceTo rfl rfl rfl (by omega) (by omega) rfl rfl ?_
    refine J_makeFunc rfl rfl rfl rfl ?_
    rename_i b4 hq1 hq2
    have e2 : secs l ++ sp = secs (l.take j) ++ (secs (l.drop j) ++ sp) := by
      rw [← List.append_assoc]; congr 1
      unfold secs
      rw [← List.flatMap_append, List.take_append_drop]
    have e3 : (j : Int).toNat = (l.take j).length := by simp; omega
    have hc := slices_ContainsFunc 211 [.pointer (some ⟨b4, 0, none⟩)] (fun y => y.1 == x.1) b2 (j : Int).toNat cap (l.take j) (secs (l.drop j) ++ sp) (cl b4 164 [.int .i64 x.1, .string (S x.2)] :: F) (by simp; omega)
      (fun y _ => logrec_Check1 b4 b2 y x _ F) e3
    rw [← e2] at hc
    refine J_callr rfl (hc) (by exact Gives.last (Take.next Take.here)) rfl rfl ?_
    have e4 : (l.take j).any (fun y => y.1 == x.1) = false := by
      rw [List.any_eq_false]
      intro y hy he
      have he' : y.1 = x.1 := by simpa using he
      have hn := h.nd
      rw [← List.take_append_drop j l, List.map_append, List.nodup_append] at hn
      refine hn.2.2 y.1 (List.mem_map.2 ⟨y, hy, rfl⟩) x.1 (List.mem_map.2 ⟨x, ?_, rfl⟩) he'
      rw [← hx, List.drop_eq_getElem_cons hlt]
      exact List.mem_cons_self
    rw [e4]
    refine J_assign rfl rfl rfl ?_
    refine J_nil3 ?_
    refine E_then ?_
    refine R_cond_false rfl ?_
    refine R_skip ?_
    refine E_block_normal ?_
    refine E_block_normal ?_
    refine E_then ?_
    refine R_region ?_
    refine J_ari64 rfl rfl rfl (by omega) rfl rfl ?_
    refine J_moveg rfl rfl rfl ?_
    refine J_nil1 ?_
    exact E_thenI fun a w he hs => ⟨⟨j + 1, by omega⟩, by simp; omega, he.sub (by exact sub_cons rfl (sub_cons rfl (sub_cons rfl (sub_cons rfl sub_nil)))), hs.gives (by exact Gives.cons Take.here (Gives.drop Gives.refl))⟩
  · apply E_retP Tryz.results164
    · exact Res.tmp rfl (Res.nil)
    · exact Gives.refl
    rfl
/-- The least turn. -/
def turnOf (l : List (Int × Bytes)) : Nat := ((List.range 257).find? fun n => !meets l n).getD 0
theorem turnOf_eq {l : List (Int × Bytes)} {n : Nat} (hn : n < 257) (h1 : ∀ j, j < n → meets l j = true) (h2 : meets l n = false) : turnOf l = n := by
  unfold turnOf
  have : (List.range 257).find? (fun n => !meets l n) = some n := by
    rw [List.find?_range_eq_some]
    exact ⟨by simp [h2], List.mem_range.2 hn, fun j hj => by simp [h1 j hj]⟩
  rw [this]; rfl
theorem logrec_turn (b2 cap : Nat) (l : List (Int × Bytes)) (sp : List Value) (h : RecOk l) (F : List HP) : Fn Tryz.prog 165 [.slice (some ⟨b2, 0, none⟩) l.length cap] (cl b2 164 (secs l ++ sp) :: F)
    (fun v w => v = .int .i64 (turnOf l : Int) ∧ turnOf l ≤ 16 ∧ Sat w (cl b2 164 (secs l ++ sp) :: F)) := by
  have hm := h.many
  refine Fn_enter Tryz.func165 rfl Tryz.ntmps165 rfl ?_
  refine R_seq ?_
  refine R_region ?_
  refine J_assign rfl rfl rfl ?_
  refine J_nil ?_
  refine E_then ?_
  refine R_seq ?_
  refine R_region ?_
  refine J_alloc rfl rfl ?_; intro
  refine J_store rfl rfl rfl rfl ?_
  refine J_nil ?_
  refine E_then ?_
  refine R_seq ?_
  refine R_block ?_
  rename_i b3
  refine R_loop (X := {n : Nat // n ≤ l.length ∧ ∀ j, j < n → meets l j = true}) (fun n => [(3, .pointer (some ⟨b3, 0, none⟩)), (0, .slice (some ⟨b2, 0, none⟩) l.length cap)])
    (fun n => cl b3 3 [.int .i64 (n.1 : Int)] :: cl b2 164 (secs l ++ sp) :: F) (fun n => l.length + 1 - n.1) ⟨0, by omega, fun j hj => by omega⟩ (by exact sub_cons rfl (sub_cons rfl sub_nil)) Gives.refl ?_
  rintro ⟨n, hn, hall⟩
  dsimp only
  refine R_seq ?_
  refine R_seq ?_
  refine R_region ?_
  refine J_move rfl rfl rfl ?_
  refine J_makeFunc rfl rfl rfl rfl ?_
  refine J_callr rfl (slices_ContainsFunc 212 [.pointer (some ⟨b3, 0, none⟩)] (fun x => x.2.headD 0 ^^^ UInt8.ofNat n == 82) b2 l.length cap l sp (cl b3 3 [.int .i64 (n : Int)] :: F) (by omega) (fun x hx => logrec_turn1 b3 b2 n x (h.data x hx) _ F) rfl) (by exact Gives.last (Take.next Take.here)) rfl rfl ?_
  rcases Bool.eq_false_or_eq_true (l.any fun x => x.2.headD 0 ^^^ UInt8.ofNat n == 82) with hx | hx
  · rw [hx]
    have hall' : ∀ j, j < n + 1 → meets l j = true := fun j hj => by
      rcases Nat.lt_or_ge j n with h2 | h2
      · exact hall j h2
      · have : j = n := by omega
        subst this; exact hx
    have hle := meets_le (by omega) hall'
    refine J_nil3 ?_
    refine E_then ?_
    refine R_cond_true rfl ?_
    refine R_skip ?_
    refine E_then ?_
    refine R_block ?_
    refine R_region ?_
    refine J_load rfl rfl rfl rfl ?_
    refine J_ari64 rfl rfl rfl (by omega) rfl rfl ?_
    refine J_store rfl rfl rfl rfl ?_
    refine J_nil2 ?_
    refine E_block_normal ?_
    exact E_thenI fun a w he hs => ⟨⟨n + 1, hle, hall'⟩, by simp; omega, he.sub (by exact sub_cons rfl (sub_cons rfl sub_nil)), hs.gives (by exact Gives.last (Take.next Take.here))⟩
  · rw [hx]
    have e := turnOf_eq (l := l) (n := n) (by omega) hall hx
    refine J_nil3 ?_
    refine E_then ?_
    refine R_cond_false rfl ?_
    refine R_exit ?_
    refine E_then_exit ?_
    refine E_then_exit ?_
    refine E_block_hit ?_
    refine E_then ?_
    refine R_seq ?_
    refine R_region ?_
    refine J_load rfl rfl rfl rfl ?_
    refine J_assign rfl rfl rfl ?_
    refine J_nil1 ?_
    refine E_then ?_
    refine R_ret ?_
    apply E_ret Tryz.results165
    · exact Res.tmp rfl (Res.nil)
    · intro w s
      rw [e]
      exact ⟨rfl, by omega, s.gives (by exact Gives.cons Take.here (Gives.drop Gives.refl))⟩
end Go.Proofs.Sol

/- Records, laid into a log. -/
namespace Go.Proofs.Sol
open Go Go.Proofs
set_option maxRecDepth 100000
set_option maxHeartbeats 4000000
set_option linter.unusedVariables false
set_option linter.unusedSimpArgs false
attribute [local irreducible] R J JW E D Fn Y clf mpI own Sat Exit.then Exit.inBlock bodyPost bodyPostM Code.wpIn wpL
theorem logscan_wrap (r d : Nat) (f m i : Int) (hm : 0 < m) (hi : 0 ≤ i) (F : List HP) : Fn Tryz.prog 170 [.pointer (some ⟨r, 0, none⟩), .int .i64 i] (reg r d f m :: F) (Pst (.int .i64 (i % m)) (reg r d f m :: F)) := by
  refine Fn_enter Tryz.func170 rfl Tryz.ntmps170 rfl ?_
  refine R_seq ?_
  refine R_region ?_
  refine J_assign rfl rfl rfl ?_
  refine J_nil ?_
  refine E_then ?_
  refine R_seq ?_
  refine R_region ?_
  refine J_move rfl rfl rfl ?_
  refine J_move rfl rfl rfl ?_
  refine J_callr rfl (region_Many r d f m _) (by exact Gives.refl) rfl rfl ?_
  refine J_rem rfl rfl (by omega) (by omega) rfl rfl ?_
  refine J_assign rfl rfl rfl ?_
  refine J_nil3 ?_
  refine E_then ?_
  refine R_ret ?_
  apply E_retP Tryz.results170
  · exact Res.tmp rfl (Res.nil)
  · exact Gives.refl
  rfl
theorem logscan_there (r d : Nat) (f m i : Int) (hi : 0 ≤ i ∧ i < m) (hf : 0 ≤ f ∧ f ≤ 1000 ∧ m ≤ 1000) (F : List HP) : Fn Tryz.prog 168 [.pointer (some ⟨r, 0, none⟩), .int .i64 i] (reg r d f m :: F) (Pst (.int .i64 0) (reg r d f m :: F)) := by
  refine Fn_enter Tryz.func168 rfl Tryz.ntmps168 rfl ?_
  refine R_seq ?_
  refine R_region ?_
  refine J_assign rfl rfl rfl ?_
  refine J_nil ?_
  refine E_then ?_
  refine R_seq ?_
  refine R_region ?_
  refine J_move rfl rfl rfl ?_
  refine J_move rfl rfl rfl ?_
  refine J_callr rfl (region_Place r d f m i hf _) (by exact Gives.refl) rfl rfl ?_
  rw [if_pos hi, if_pos hi]
  refine J_move rfl rfl rfl ?_
  refine J_extract rfl rfl rfl rfl ?_
  refine J_extract rfl rfl rfl rfl ?_
  refine J_assign rfl rfl rfl ?_
  refine J_assign rfl rfl rfl ?_
  refine J_nil3 ?_
  refine E_then ?_
  refine R_seq ?_
  refine R_region ?_
  refine J_move rfl rfl rfl ?_
  refine J_assign rfl rfl rfl ?_
  refine J_nil1 ?_
  refine E_then ?_
  refine R_ret ?_
  apply E_retP Tryz.results168
  · exact Res.tmp rfl (Res.nil)
  · exact Gives.refl
  rfl
/-- A sector of a record, laid. -/
def layV (V : List Bytes) (f m a : Int) (s : Bytes) (k : Nat) : List Bytes := V.set (f + (a + k) % m).toNat ((s.drop (64 * k)).take 64)
theorem layV_length (V : List Bytes) (f m a : Int) (s : Bytes) (k : Nat) : (layV V f m a s k).length = V.length := by simp [layV]
theorem logscan_Put1 (b1 b2 b3 r d : Nat) (V : List Bytes) (k : Nat) (f m a : Int) (s : Bytes) (j : Nat) (hj : 64 * (j + 1) ≤ s.length) (hs : s.length ≤ 100000) (ha : 0 ≤ a ∧ a < m) (hf : 0 ≤ f ∧ f + m ≤ V.length) (hD : V.length ≤ 1000) (hk : k < 1000000000) (F : List HP) :
    Fn Tryz.prog 169 [.int .i64 (j : Int), .pointer (some ⟨b1, 0, none⟩), .pointer (some ⟨b2, 0, none⟩), .pointer (some ⟨b3, 0, none⟩)]
      (cl b1 150 [.pointer (some ⟨r, 0, none⟩)] :: cl b2 3 [.int .i64 a] :: cl b3 9 [.string (S s)] :: dvk d V k :: reg r d f m :: F)
      (Pst (.int .i64 0) (cl b1 150 [.pointer (some ⟨r, 0, none⟩)] :: cl b2 3 [.int .i64 a] :: cl b3 9 [.string (S s)] :: dvk d (layV V f m a s j) (k + 1) :: reg r d f m :: F)) := by
  unfold layV
  have hm : 0 < m := by omega
  have h1 : 0 ≤ (a + j) % m := Int.emod_nonneg _ (by omega)
  have h2 : (a + j) % m < m := Int.emod_lt_of_pos _ hm
  have e1 : ((j : Int) * 64).toNat = 64 * j := by omega
  have e2 : (s.drop ((j : Int) * 64).toNat).length = s.length - ((j : Int) * 64).toNat := List.length_drop
  refine Fn_enter Tryz.func169 rfl Tryz.ntmps169 rfl ?_
  refine R_seq ?_
  refine R_region ?_
  refine J_assign rfl rfl rfl ?_
  refine J_nil ?_
  refine E_then ?_
  refine R_seq ?_
  refine R_draw ([cl b1 150 [.pointer (some ⟨r, 0, none⟩)], cl b2 3 [.int .i64 a], cl b3 9 [.string (S s)]]) [11, 12] (by kernel_rfl) ?_
  (refine D_look (i := 0) rfl (by kernel_rfl) (by exact NP_then NP_body) (by exact Gives.cons Take.here (Gives.cons Take.here (Gives.cons Take.here Gives.nil))) (by exact Y_load rfl rfl) rfl rfl ?_)
  (refine D_look (i := 1) rfl (by kernel_rfl) (by exact NP_then NP_body) (by exact Gives.cons Take.here (Gives.cons Take.here (Gives.cons Take.here Gives.nil))) (by exact Y_load rfl rfl) rfl rfl ?_)
  (refine D_look (i := 2) rfl (by kernel_rfl) (by exact NP_then NP_body) (by exact Gives.cons Take.here (Gives.cons Take.here (Gives.cons Take.here Gives.nil))) (by exact Y_load rfl rfl) rfl rfl ?_)
  (refine D_lookP (i := 3) rfl (by kernel_rfl) (by exact NP_then NP_body) (by exact Y_move rfl) rfl rfl ?_)
  (refine D_lookP (i := 4) rfl (by kernel_rfl) (by exact NP_then NP_body) (by exact Y_ari64 rfl rfl rfl (by omega)) rfl rfl ?_)
  (refine D_look (i := 6) rfl (by kernel_rfl) (by exact NP_then NP_body) (by exact Gives.cons Take.here (Gives.cons Take.here (Gives.cons Take.here Gives.nil))) (by exact Y_load rfl rfl) rfl rfl ?_)
  (refine D_lookP (i := 7) rfl (by kernel_rfl) (by exact NP_then NP_body) (by exact Y_move rfl) rfl rfl ?_)
  (refine D_lookP (i := 8) rfl (by kernel_rfl) (by exact NP_then NP_body) (by exact Y_ari64 rfl rfl rfl (by omega)) rfl rfl ?_)
  (refine D_look (i := 9) rfl (by kernel_rfl) (by exact NP_then NP_body) (by exact Gives.cons Take.here (Gives.cons Take.here (Gives.cons Take.here Gives.nil))) (by exact Y_slice_lo rfl rfl (by omega) (by omega)) rfl rfl ?_)
  (refine D_look (i := 10) rfl (by kernel_rfl) (by exact NP_then NP_body) (by exact Gives.cons Take.here (Gives.cons Take.here (Gives.cons Take.here Gives.nil))) (by exact Y_slice_hi rfl rfl (by omega) (by omega)) rfl rfl ?_)
  refine D_try1 (i := 5) (by kernel_rfl) rfl ?_
  refine J_callr rfl (logscan_wrap r d f m (a + j) hm (by omega) _) (by exact Gives.last (Take.next (Take.next (Take.next (Take.next Take.here))))) rfl rfl ?_
  refine D_next (by exact Gives.cons (Take.next Take.here) (Gives.cons (Take.next Take.here) (Gives.cons (Take.next Take.here) Gives.nil))) ?_
  refine D_try1 (i := 11) (by kernel_rfl) rfl ?_
  have e3 : ((s.drop ((j : Int) * 64).toNat).take (Int.toNat 64)) = (s.drop (64 * j)).take 64 := by rw [e1]; rfl
  rw [e3]
  refine J_callr rfl (region_Write1 r d V k f m ((a + j) % m) ((s.drop (64 * j)).take 64) (by simp; omega) ⟨h1, h2⟩ hf hD hk _) (by exact Gives.last (Take.next (Take.next (Take.next (Take.next Take.here))))) rfl rfl ?_
  refine D_last (by kernel_rfl) ?_
  refine D_try1 (i := 12) (by kernel_rfl) rfl ?_
  refine J_assign rfl rfl rfl ?_
  refine D_last (by kernel_rfl) ?_
  (first | refine D_end1 (by kernel_rfl) ?_ | refine D_end (by kernel_rfl) ?_)
  refine E_then ?_
  refine R_ret ?_
  apply E_retP Tryz.results169
  · exact Res.tmp rfl (Res.nil)
  · exact Gives.cons (Take.next (Take.next Take.here)) (Gives.cons (Take.next (Take.next Take.here)) (Gives.last (Take.next (Take.next Take.here))))
  rfl
def layC (V : List Bytes) (f m a : Int) (s : Bytes) : Nat → List Bytes
  | 0 => V
  | c + 1 => layV (layC V f m a s c) f m a s (c + 1)
theorem layC_length (V : List Bytes) (f m a : Int) (s : Bytes) (c : Nat) : (layC V f m a s c).length = V.length := by
  induction c with
  | zero => rfl
  | succ c ih => simp only [layC, layV_length, ih]
/-- A log's sectors, a record laid into them. -/
def putV (V : List Bytes) (f m a : Int) (s : Bytes) (n : Nat) : List Bytes := layV (layC V f m a s (n - 1)) f m a s 0
theorem putV_length (V : List Bytes) (f m a : Int) (s : Bytes) (n : Nat) : (putV V f m a s n).length = V.length := by simp only [putV, layV_length, layC_length]
theorem logscan_Put (r d : Nat) (V : List Bytes) (k : Nat) (f m a : Int) (s : Bytes) (n : Nat) (hs : s.length = 64 * n) (hn : 2 ≤ n ∧ n ≤ m) (ha : 0 ≤ a ∧ a < m) (hf : 0 ≤ f ∧ f + m ≤ V.length) (hD : V.length ≤ 1000) (hk : k < 100000000) (F : List HP) :
    Fn Tryz.prog 103 [.pointer (some ⟨r, 0, none⟩), .int .i64 a, .string (S s)] (dvk d V k :: reg r d f m :: F) (Pst (.int .i64 0) (dvk d (putV V f m a s n) (k + n + 1) :: reg r d f m :: F)) := by
  have e1 : (s.length : Int) / 64 = (n : Int) := by omega
  refine Fn_enter Tryz.func103 rfl Tryz.ntmps103 rfl ?_
  refine R_seq ?_
  refine R_region ?_
  refine J_box rfl rfl rfl rfl ?_; intro
  refine J_box rfl rfl rfl rfl ?_; intro
  refine J_box rfl rfl rfl rfl ?_; intro
  refine J_assign rfl rfl rfl ?_
  refine J_nil ?_
  refine E_then ?_
  refine R_seq ?_
  refine R_region ?_
  refine J_load rfl rfl rfl rfl ?_
  refine J_len_str rfl rfl rfl ?_
  refine J_quo rfl rfl (by omega) (by omega) rfl rfl ?_
  refine J_assign rfl rfl rfl ?_
  refine J_nil3 ?_
  refine E_then ?_
  refine R_seq ?_
  refine R_seq ?_
  refine R_region ?_
  refine J_load rfl rfl rfl rfl ?_
  refine J_load rfl rfl rfl rfl ?_
  rename_i b1 b2 b3
  rw [e1]
  refine J_callr rfl (logscan_there r d f m a ha (by omega) _) (by exact Gives.last (Take.next (Take.next (Take.next (Take.next Take.here))))) rfl rfl ?_
  refine J_assign rfl rfl rfl ?_
  refine J_nil3 ?_
  refine E_then ?_
  refine R_block ?_
  refine R_seq ?_
  refine R_region ?_
  refine J_move rfl rfl rfl ?_
  refine J_cmp rfl rfl rfl rfl rfl ?_
  refine J_assign rfl rfl rfl ?_
  refine J_nil2 ?_
  refine E_then ?_
  refine R_cond_false rfl ?_
  refine R_seq ?_
  refine R_region ?_
  refine J_move rfl rfl rfl ?_
  refine J_cmp rfl rfl rfl rfl rfl ?_
  refine J_move rfl rfl rfl ?_
  refine J_guard_split rfl rfl (fun hh => ?_) (fun hh => ?_)
  simp only [decide_eq_true_eq, decide_eq_false_iff_not, Bool.and_eq_true, Bool.or_eq_true, Bool.not_eq_true', Bool.not_eq_false', beq_iff_eq, bne_iff_ne, beq_eq_false_iff_ne, bne_eq_false_iff_eq, ne_eq, ge_iff_le, gt_iff_lt, Int.not_le, Int.not_lt, Bool.and_eq_false_iff, Bool.or_eq_false_iff, Decidable.not_not] at hh
  exfalso; omega
  simp only [decide_eq_true_eq, decide_eq_false_iff_not, Bool.and_eq_true, Bool.or_eq_true, Bool.not_eq_true', Bool.not_eq_false', beq_iff_eq, bne_iff_ne, beq_eq_false_iff_ne, bne_eq_false_iff_eq, ne_eq, ge_iff_le, gt_iff_lt, Int.not_le, Int.not_lt, Bool.and_eq_false_iff, Bool.or_eq_false_iff, Decidable.not_not] at hh
  refine J_guard rfl rfl rfl ?_
  refine J_load rfl rfl rfl rfl ?_
  refine J_guard rfl rfl rfl ?_
  refine J_len_str rfl rfl rfl ?_
  refine J_guard rfl rfl rfl ?_
  refine J_move rfl rfl rfl ?_
  refine J_guard rfl rfl rfl ?_
  refine J_ari64 rfl rfl rfl (by omega) rfl rfl ?_
  refine J_guard rfl rfl rfl ?_
  refine J_cmp rfl rfl rfl rfl rfl ?_
  refine J_pick_false rfl rfl rfl rfl ?_
  refine J_assign rfl rfl rfl ?_
  refine J_nil3 ?_
  refine E_then ?_
  refine R_cond rfl (fun hh => ?_) (fun hh => ?_)
  simp only [decide_eq_true_eq, decide_eq_false_iff_not, Bool.and_eq_true, Bool.or_eq_true, Bool.not_eq_true', Bool.not_eq_false', beq_iff_eq, bne_iff_ne, beq_eq_false_iff_ne, bne_eq_false_iff_eq, ne_eq, ge_iff_le, gt_iff_lt, Int.not_le, Int.not_lt, Bool.and_eq_false_iff, Bool.or_eq_false_iff, Decidable.not_not] at hh
  exfalso; omega
  simp only [decide_eq_true_eq, decide_eq_false_iff_not, Bool.and_eq_true, Bool.or_eq_true, Bool.not_eq_true', Bool.not_eq_false', beq_iff_eq, bne_iff_ne, beq_eq_false_iff_ne, bne_eq_false_iff_eq, ne_eq, ge_iff_le, gt_iff_lt, Int.not_le, Int.not_lt, Bool.and_eq_false_iff, Bool.or_eq_false_iff, Decidable.not_not] at hh
  refine R_seq ?_
  refine R_region ?_
  refine J_move rfl rfl rfl ?_
  refine J_cmp rfl rfl rfl rfl rfl ?_
  refine J_move rfl rfl rfl ?_
  refine J_guard rfl rfl rfl ?_
  refine J_move rfl rfl rfl ?_
  refine J_guard rfl rfl rfl ?_
  refine J_load rfl rfl rfl rfl ?_
  refine J_guard rfl rfl rfl ?_
  refine J_callr rfl (region_Many r d f m _) (by exact Gives.refl) rfl rfl ?_
  refine J_guard rfl rfl rfl ?_
  refine J_cmp rfl rfl rfl rfl rfl ?_
  refine J_pick_false rfl rfl rfl rfl ?_
  refine J_assign rfl rfl rfl ?_
  refine J_nil3 ?_
  refine E_then ?_
  refine R_cond rfl (fun hh => ?_) (fun hh => ?_)
  simp only [decide_eq_true_eq, decide_eq_false_iff_not, Bool.and_eq_true, Bool.or_eq_true, Bool.not_eq_true', Bool.not_eq_false', beq_iff_eq, bne_iff_ne, beq_eq_false_iff_ne, bne_eq_false_iff_eq, ne_eq, ge_iff_le, gt_iff_lt, Int.not_le, Int.not_lt, Bool.and_eq_false_iff, Bool.or_eq_false_iff, Decidable.not_not] at hh
  exfalso; omega
  simp only [decide_eq_true_eq, decide_eq_false_iff_not, Bool.and_eq_true, Bool.or_eq_true, Bool.not_eq_true', Bool.not_eq_false', beq_iff_eq, bne_iff_ne, beq_eq_false_iff_ne, bne_eq_false_iff_eq, ne_eq, ge_iff_le, gt_iff_lt, Int.not_le, Int.not_lt, Bool.and_eq_false_iff, Bool.or_eq_false_iff, Decidable.not_not] at hh
  refine R_skip ?_
  refine E_block_normal ?_
  refine E_then ?_
  refine R_seq ?_
  refine R_region ?_
  refine J_makeFunc rfl rfl rfl rfl ?_
  refine J_assign rfl rfl rfl ?_
  refine J_nil1 ?_
  refine E_then ?_
  refine R_seq ?_
  refine R_seq ?_
  refine R_region ?_
  refine J_assign rfl rfl rfl ?_
  refine J_nil ?_
  refine E_then ?_
  refine R_block ?_
  refine R_loop (X := {c : Nat // c + 1 ≤ n}) (fun c => [(10, .int .i64 ((c.1 : Int) + 1)), (7, .int .i64 (n : Int)), (9, .func (.func 169) #[] #[.pointer (some ⟨b1, 0, none⟩), .pointer (some ⟨b2, 0, none⟩), .pointer (some ⟨b3, 0, none⟩)]), (3, .pointer (some ⟨b1, 0, none⟩))])
    (fun c => cl b1 150 [.pointer (some ⟨r, 0, none⟩)] :: cl b2 3 [.int .i64 a] :: cl b3 9 [.string (S s)] :: dvk d (layC V f m a s c.1) (k + c.1) :: reg r d f m :: F) (fun c => n - c.1) ⟨0, by omega⟩ (by exact sub_cons rfl (sub_cons rfl (sub_cons rfl (sub_cons rfl sub_nil)))) (by exact Gives.cons (Take.next (Take.next (Take.next Take.here))) (Gives.cons (Take.next (Take.next Take.here)) (Gives.cons (Take.next Take.here) (Gives.last (Take.next Take.here))))) ?_
  rintro ⟨c, hc⟩
  dsimp only
  have hl := layC_length V f m a s c
  refine R_seq ?_
  refine R_seq ?_
  refine R_region ?_
  refine J_move rfl rfl rfl ?_
  refine J_move rfl rfl rfl ?_
  refine J_cmp rfl rfl rfl rfl rfl ?_
  refine J_nil3 ?_
  refine E_then ?_
  refine R_cond rfl (fun hh => ?_) (fun hh => ?_)
  simp only [decide_eq_true_eq, decide_eq_false_iff_not, Bool.and_eq_true, Bool.or_eq_true, Bool.not_eq_true', Bool.not_eq_false', beq_iff_eq, bne_iff_ne, beq_eq_false_iff_ne, bne_eq_false_iff_eq, ne_eq, ge_iff_le, gt_iff_lt, Int.not_le, Int.not_lt, Bool.and_eq_false_iff, Bool.or_eq_false_iff, Decidable.not_not] at hh
  refine R_skip ?_
  refine E_then ?_
  refine R_seq ?_
  refine R_block ?_
  refine R_seq ?_
  refine R_region ?_
  refine J_move rfl rfl rfl ?_
  refine J_move rfl rfl rfl ?_
  rotate_left
  simp only [decide_eq_true_eq, decide_eq_false_iff_not, Bool.and_eq_true, Bool.or_eq_true, Bool.not_eq_true', Bool.not_eq_false', beq_iff_eq, bne_iff_ne, beq_eq_false_iff_ne, bne_eq_false_iff_eq, ne_eq, ge_iff_le, gt_iff_lt, Int.not_le, Int.not_lt, Bool.and_eq_false_iff, Bool.or_eq_false_iff, Decidable.not_not] at hh
  refine R_exit ?_
  refine E_then_exit ?_
  refine E_then_exit ?_
  refine E_block_hit ?_
  refine E_then ?_
  refine R_seq ?_
  refine R_seq ?_
  refine R_region ?_
  refine J_move rfl rfl rfl ?_
  refine J_cmp rfl rfl rfl rfl rfl ?_
  refine J_nil2 ?_
  refine E_then ?_
  refine R_cond rfl (fun hh => ?_) (fun hh => ?_)
  simp only [decide_eq_true_eq, decide_eq_false_iff_not, Bool.and_eq_true, Bool.or_eq_true, Bool.not_eq_true', Bool.not_eq_false', beq_iff_eq, bne_iff_ne, beq_eq_false_iff_ne, bne_eq_false_iff_eq, ne_eq, ge_iff_le, gt_iff_lt, Int.not_le, Int.not_lt, Bool.and_eq_false_iff, Bool.or_eq_false_iff, Decidable.not_not] at hh
  refine R_seq ?_
  refine R_region ?_
  refine J_load rfl rfl rfl rfl ?_
  rotate_left
  simp only [decide_eq_true_eq, decide_eq_false_iff_not, Bool.and_eq_true, Bool.or_eq_true, Bool.not_eq_true', Bool.not_eq_false', beq_iff_eq, bne_iff_ne, beq_eq_false_iff_ne, bne_eq_false_iff_eq, ne_eq, ge_iff_le, gt_iff_lt, Int.not_le, Int.not_lt, Bool.and_eq_false_iff, Bool.or_eq_false_iff, Decidable.not_not] at hh
  exfalso; omega
  · have e2 : (c : Int) + 1 = ((c + 1 : Nat) : Int) := by omega
    have hput := logscan_Put1 b1 b2 b3 r d (layC V f m a s c) (k + c) f m a s (c + 1) (by omega) (by omega) ha (by omega) (by omega) (by omega) F
    rw [← e2] at hput
    refine J_callvr (us := []) (cs := [.pointer (some ⟨b1, 0, none⟩), .pointer (some ⟨b2, 0, none⟩), .pointer (some ⟨b3, 0, none⟩)]) rfl rfl rfl hput Gives.refl rfl rfl ?_
    refine J_assign rfl rfl rfl ?_
    refine J_nil3 ?_
    refine E_then ?_
    refine R_seq ?_
    refine R_region ?_
    refine J_move rfl rfl rfl ?_
    refine J_cmp rfl rfl rfl rfl rfl ?_
    refine J_nil2 ?_
    refine E_then ?_
    refine R_cond_false rfl ?_
    refine R_skip ?_
    refine E_block_normal ?_
    refine E_then ?_
    refine R_region ?_
    refine J_move rfl rfl rfl ?_
    refine J_ari64 rfl rfl rfl (by omega) rfl rfl ?_
    refine J_assign rfl rfl rfl ?_
    refine J_nil2 ?_
    exact E_thenI fun a w he hs => ⟨⟨c + 1, by omega⟩, by simp; omega, he.sub (by exact sub_cons rfl (sub_cons rfl (sub_cons rfl (sub_cons rfl sub_nil)))), hs⟩
  · have ec : c = n - 1 := by omega
    refine J_callr rfl (region_Flush r d (layC V f m a s c) (k + c) f m (by omega) _) (by exact Gives.cons (Take.next (Take.next (Take.next Take.here))) (Gives.last (Take.next (Take.next (Take.next Take.here))))) rfl rfl ?_
    refine J_assign rfl rfl rfl ?_
    refine J_nil2 ?_
    refine E_then ?_
    refine R_seq ?_
    refine R_region ?_
    refine J_move rfl rfl rfl ?_
    refine J_cmp rfl rfl rfl rfl rfl ?_
    refine J_nil2 ?_
    refine E_then ?_
    refine R_cond_false rfl ?_
    refine R_skip ?_
    refine E_then ?_
    refine R_seq ?_
    refine R_region ?_
    refine J_move rfl rfl rfl ?_
    have hput := logscan_Put1 b1 b2 b3 r d (layC V f m a s c) (k + c + 1) f m a s 0 (by omega) (by omega) ha (by omega) (by omega) (by omega) F
    refine J_callvr (us := []) (cs := [.pointer (some ⟨b1, 0, none⟩), .pointer (some ⟨b2, 0, none⟩), .pointer (some ⟨b3, 0, none⟩)]) rfl rfl rfl hput (by exact Gives.cons (Take.next (Take.next Take.here)) (Gives.cons (Take.next (Take.next Take.here)) (Gives.last (Take.next (Take.next Take.here))))) rfl rfl ?_
    refine J_assign rfl rfl rfl ?_
    refine J_nil2 ?_
    refine E_then ?_
    refine R_ret ?_
    have e3 : k + c + 1 + 1 = k + n + 1 := by omega
    rw [e3, ec]
    apply E_retP Tryz.results103
    · exact Res.tmp rfl (Res.nil)
    · exact Gives.cons (Take.next (Take.next (Take.next Take.here))) (Gives.cons (Take.next (Take.next (Take.next Take.here))) (Gives.drop (Gives.drop (Gives.drop Gives.refl))))
    rfl
end Go.Proofs.Sol

/- Records of a log, looked for. -/
namespace Go.Proofs.Sol
open Go Go.Proofs
set_option maxRecDepth 100000
set_option maxHeartbeats 4000000
set_option linter.unusedVariables false
set_option linter.unusedSimpArgs false
attribute [local irreducible] R J JW E D Fn Y clf mpI own Sat Exit.then Exit.inBlock bodyPost bodyPostM Code.wpIn wpL
theorem rd_step {s : Bytes} {n : Int} (h : 0 ≤ n ∧ n ≤ s.length) : Rd.next ⟨s, 0⟩ n = ⟨s.drop n.toNat, 0⟩ ∧ Rd.got ⟨s, 0⟩ n = s.take n.toNat := by
  unfold Rd.next Rd.got
  rw [if_pos rfl, if_neg (by omega), if_pos h.2, if_pos ⟨rfl, h.1, h.2⟩]
  exact ⟨rfl, rfl⟩
theorem rd_num {s : Bytes} {n : Int} (h : 0 ≤ n ∧ n ≤ s.length) : Rd.num ⟨s, 0⟩ n = (num (s.take n.toNat) : Int) := by
  unfold Rd.num
  rw [(rd_step h).2]
theorem logrec_Size (s : Bytes) (q : Int) (F : List HP) : Fn Tryz.prog 264 [.string (S s), .int .i64 q] F (Pst (.tuple #[.int .i64 (recSize s q).1, .int .i64 (recSize s q).2]) F) := by
  by_cases h64 : s.length = 64
  · refine Fn_enter Tryz.func264 rfl Tryz.ntmps264 rfl ?_
    refine R_seq ?_
    refine R_region ?_
    refine J_assign rfl rfl rfl ?_
    refine J_assign rfl rfl rfl ?_
    refine J_nil ?_
    refine E_then ?_
    refine R_seq ?_
    refine R_seq ?_
    refine R_region ?_
    refine J_move rfl rfl rfl ?_
    refine J_len_str rfl rfl rfl ?_
    refine J_cmp rfl rfl rfl rfl rfl ?_
    refine J_nil3 ?_
    refine E_then ?_
    refine R_cond rfl (fun hh => ?_) (fun hh => ?_)
    simp only [decide_eq_true_eq, decide_eq_false_iff_not, Bool.and_eq_true, Bool.or_eq_true, Bool.not_eq_true', Bool.not_eq_false', beq_iff_eq, bne_iff_ne, beq_eq_false_iff_ne, bne_eq_false_iff_eq, ne_eq, ge_iff_le, gt_iff_lt, Int.not_le, Int.not_lt, Bool.and_eq_false_iff, Bool.or_eq_false_iff, Decidable.not_not] at hh
    exfalso; omega
    simp only [decide_eq_true_eq, decide_eq_false_iff_not, Bool.and_eq_true, Bool.or_eq_true, Bool.not_eq_true', Bool.not_eq_false', beq_iff_eq, bne_iff_ne, beq_eq_false_iff_ne, bne_eq_false_iff_eq, ne_eq, ge_iff_le, gt_iff_lt, Int.not_le, Int.not_lt, Bool.and_eq_false_iff, Bool.or_eq_false_iff, Decidable.not_not] at hh
    refine R_skip ?_
    refine E_then ?_
    refine R_seq ?_
    refine R_region ?_
    refine J_move rfl rfl rfl ?_
    refine J_callm rfl (field_New s F) (by exact Gives.refl) rfl rfl ?_
    rintro v w ⟨b, rfl, s0⟩
    refine JW.of s0 ?_
    refine J_assign rfl rfl rfl ?_
    refine J_nil2 ?_
    refine E_then ?_
    refine R_seq ?_
    refine R_region ?_
    refine J_move rfl rfl rfl ?_
    refine J_callr rfl (field_Bytes b _ 1 _) (by exact Gives.refl) rfl rfl ?_
    rw [(rd_step (s := s) (n := 1) (by omega)).1, (rd_step (s := s) (n := 1) (by omega)).2]
    refine J_move rfl rfl rfl ?_
    have l1 : (s.drop (Int.toNat 1)).length = 63 := by simp; omega
    refine J_callr rfl (field_Num b _ 6 (by omega) _) (by exact Gives.refl) rfl rfl ?_
    rw [(rd_step (s := s.drop (Int.toNat 1)) (n := 6) (by omega)).1, rd_num (s := s.drop (Int.toNat 1)) (n := 6) (by omega)]
    refine J_move rfl rfl rfl ?_
    have l2 : ((s.drop (Int.toNat 1)).drop (Int.toNat 6)).length = 57 := by simp; omega
    refine J_callr rfl (field_Num b _ 1 (by omega) _) (by exact Gives.refl) rfl rfl ?_
    rw [rd_num (s := (s.drop (Int.toNat 1)).drop (Int.toNat 6)) (n := 1) (by omega)]
    have e1 : s.drop (Int.toNat 1) = s.drop 1 := rfl
    have e2 : (s.drop 1).drop (Int.toNat 6) = s.drop 7 := by rw [List.drop_drop]; rfl
    have e3 : s.take (Int.toNat 1) = s.take 1 := rfl
    rw [e1, e2, e3]
    generalize hn1 : (num ((s.drop 1).take (Int.toNat 6)) : Int) = x1
    generalize hn2 : (num ((s.drop 7).take (Int.toNat 1)) : Int) = x2
    have hx2 : 0 ≤ x2 ∧ x2 < 256 := by
      rw [← hn2]
      have h1 := num_lt ((s.drop 7).take (Int.toNat 1))
      have h2 : ((s.drop 7).take (Int.toNat 1)).length ≤ 1 := List.length_take_le ..
      have h3 : 256 ^ ((s.drop 7).take (Int.toNat 1)).length ≤ 256 ^ 1 := Nat.pow_le_pow_right (by omega) h2
      omega
    have hr : recSize s q = if s.take 1 ≠ [82] ∨ x1 ≠ q ∨ x2 < 1 ∨ 16 < x2 then (0, 8) else (x2 + 1, 0) := by
      unfold recSize
      rw [if_neg (by simp [h64]), ← hn1, ← hn2]; rfl
    rw [hr]
    refine J_assign rfl rfl rfl ?_
    refine J_assign rfl rfl rfl ?_
    refine J_assign rfl rfl rfl ?_
    refine J_nil3 ?_
    refine E_then ?_
    refine R_seq ?_
    refine R_seq ?_
    refine R_region ?_
    refine J_move rfl rfl rfl ?_
    refine J_str_cmp rfl rfl rfl rfl rfl ?_
    refine J_move rfl rfl rfl ?_
    refine J_guard_split rfl rfl (fun hh => ?_) (fun hh => ?_)
    simp only [decide_eq_true_eq, decide_eq_false_iff_not, Bool.and_eq_true, Bool.or_eq_true, Bool.not_eq_true', Bool.not_eq_false', beq_iff_eq, bne_iff_ne, beq_eq_false_iff_ne, bne_eq_false_iff_eq, ne_eq, ge_iff_le, gt_iff_lt, Int.not_le, Int.not_lt, Bool.and_eq_false_iff, Bool.or_eq_false_iff, Decidable.not_not] at hh
    refine J_guard_not rfl rfl rfl rfl rfl rfl ?_
    refine J_guard_not rfl rfl rfl rfl rfl rfl ?_
    refine J_guard_not rfl rfl rfl rfl rfl rfl ?_
    refine J_pick_true rfl rfl rfl rfl ?_
    refine J_move rfl rfl rfl ?_
    refine J_guard_not rfl rfl rfl rfl rfl rfl ?_
    refine J_guard_not rfl rfl rfl rfl rfl rfl ?_
    refine J_pick_true rfl rfl rfl rfl ?_
    refine J_move rfl rfl rfl ?_
    refine J_guard_not rfl rfl rfl rfl rfl rfl ?_
    refine J_guard_not rfl rfl rfl rfl rfl rfl ?_
    refine J_pick_true rfl rfl rfl rfl ?_
    refine J_nil3 ?_
    refine E_then ?_
    refine R_cond_true rfl ?_
    refine R_seq ?_
    refine R_region ?_
    refine J_assign rfl rfl rfl ?_
    refine J_assign rfl rfl rfl ?_
    refine J_nil ?_
    refine E_then ?_
    refine R_ret ?_
    refine E_then_ret ?_
    rotate_left
    simp only [decide_eq_true_eq, decide_eq_false_iff_not, Bool.and_eq_true, Bool.or_eq_true, Bool.not_eq_true', Bool.not_eq_false', beq_iff_eq, bne_iff_ne, beq_eq_false_iff_ne, bne_eq_false_iff_eq, ne_eq, ge_iff_le, gt_iff_lt, Int.not_le, Int.not_lt, Bool.and_eq_false_iff, Bool.or_eq_false_iff, Decidable.not_not] at hh
    refine J_guard rfl rfl rfl ?_
    refine J_move rfl rfl rfl ?_
    refine J_guard rfl rfl rfl ?_
    refine J_move rfl rfl rfl ?_
    refine J_guard rfl rfl rfl ?_
    refine J_cmp rfl rfl rfl rfl rfl ?_
    refine J_pick_false rfl rfl rfl rfl ?_
    refine J_move rfl rfl rfl ?_
    refine J_guard_split rfl rfl (fun hh => ?_) (fun hh => ?_)
    simp only [decide_eq_true_eq, decide_eq_false_iff_not, Bool.and_eq_true, Bool.or_eq_true, Bool.not_eq_true', Bool.not_eq_false', beq_iff_eq, bne_iff_ne, beq_eq_false_iff_ne, bne_eq_false_iff_eq, ne_eq, ge_iff_le, gt_iff_lt, Int.not_le, Int.not_lt, Bool.and_eq_false_iff, Bool.or_eq_false_iff, Decidable.not_not] at hh
    refine J_guard_not rfl rfl rfl rfl rfl rfl ?_
    refine J_guard_not rfl rfl rfl rfl rfl rfl ?_
    refine J_pick_true rfl rfl rfl rfl ?_
    refine J_move rfl rfl rfl ?_
    refine J_guard_not rfl rfl rfl rfl rfl rfl ?_
    refine J_guard_not rfl rfl rfl rfl rfl rfl ?_
    refine J_pick_true rfl rfl rfl rfl ?_
    refine J_nil3 ?_
    refine E_then ?_
    refine R_cond_true rfl ?_
    refine R_seq ?_
    refine R_region ?_
    refine J_assign rfl rfl rfl ?_
    refine J_assign rfl rfl rfl ?_
    refine J_nil ?_
    refine E_then ?_
    refine R_ret ?_
    refine E_then_ret ?_
    rotate_left
    simp only [decide_eq_true_eq, decide_eq_false_iff_not, Bool.and_eq_true, Bool.or_eq_true, Bool.not_eq_true', Bool.not_eq_false', beq_iff_eq, bne_iff_ne, beq_eq_false_iff_ne, bne_eq_false_iff_eq, ne_eq, ge_iff_le, gt_iff_lt, Int.not_le, Int.not_lt, Bool.and_eq_false_iff, Bool.or_eq_false_iff, Decidable.not_not] at hh
    refine J_guard rfl rfl rfl ?_
    refine J_move rfl rfl rfl ?_
    refine J_guard rfl rfl rfl ?_
    refine J_cmp rfl rfl rfl rfl rfl ?_
    refine J_pick_false rfl rfl rfl rfl ?_
    refine J_move rfl rfl rfl ?_
    refine J_guard_split rfl rfl (fun hh => ?_) (fun hh => ?_)
    simp only [decide_eq_true_eq, decide_eq_false_iff_not, Bool.and_eq_true, Bool.or_eq_true, Bool.not_eq_true', Bool.not_eq_false', beq_iff_eq, bne_iff_ne, beq_eq_false_iff_ne, bne_eq_false_iff_eq, ne_eq, ge_iff_le, gt_iff_lt, Int.not_le, Int.not_lt, Bool.and_eq_false_iff, Bool.or_eq_false_iff, Decidable.not_not] at hh
    refine J_guard_not rfl rfl rfl rfl rfl rfl ?_
    refine J_guard_not rfl rfl rfl rfl rfl rfl ?_
    refine J_pick_true rfl rfl rfl rfl ?_
    refine J_nil3 ?_
    refine E_then ?_
    refine R_cond_true rfl ?_
    refine R_seq ?_
    refine R_region ?_
    refine J_assign rfl rfl rfl ?_
    refine J_assign rfl rfl rfl ?_
    refine J_nil ?_
    refine E_then ?_
    refine R_ret ?_
    refine E_then_ret ?_
    rotate_left
    simp only [decide_eq_true_eq, decide_eq_false_iff_not, Bool.and_eq_true, Bool.or_eq_true, Bool.not_eq_true', Bool.not_eq_false', beq_iff_eq, bne_iff_ne, beq_eq_false_iff_ne, bne_eq_false_iff_eq, ne_eq, ge_iff_le, gt_iff_lt, Int.not_le, Int.not_lt, Bool.and_eq_false_iff, Bool.or_eq_false_iff, Decidable.not_not] at hh
    refine J_guard rfl rfl rfl ?_
    refine J_move rfl rfl rfl ?_
    refine J_guard rfl rfl rfl ?_
    refine J_cmp rfl rfl rfl rfl rfl ?_
    refine J_pick_false rfl rfl rfl rfl ?_
    refine J_nil3 ?_
    refine E_then ?_
    refine R_cond rfl (fun hh => ?_) (fun hh => ?_)
    simp only [decide_eq_true_eq, decide_eq_false_iff_not, Bool.and_eq_true, Bool.or_eq_true, Bool.not_eq_true', Bool.not_eq_false', beq_iff_eq, bne_iff_ne, beq_eq_false_iff_ne, bne_eq_false_iff_eq, ne_eq, ge_iff_le, gt_iff_lt, Int.not_le, Int.not_lt, Bool.and_eq_false_iff, Bool.or_eq_false_iff, Decidable.not_not] at hh
    refine R_seq ?_
    refine R_region ?_
    refine J_assign rfl rfl rfl ?_
    refine J_assign rfl rfl rfl ?_
    refine J_nil ?_
    refine E_then ?_
    refine R_ret ?_
    refine E_then_ret ?_
    rotate_left
    simp only [decide_eq_true_eq, decide_eq_false_iff_not, Bool.and_eq_true, Bool.or_eq_true, Bool.not_eq_true', Bool.not_eq_false', beq_iff_eq, bne_iff_ne, beq_eq_false_iff_ne, bne_eq_false_iff_eq, ne_eq, ge_iff_le, gt_iff_lt, Int.not_le, Int.not_lt, Bool.and_eq_false_iff, Bool.or_eq_false_iff, Decidable.not_not] at hh
    refine R_skip ?_
    refine E_then ?_
    refine R_seq ?_
    refine R_region ?_
    refine J_move rfl rfl rfl ?_
    refine J_ari64 rfl rfl rfl (by omega) rfl rfl ?_
    refine J_assign rfl rfl rfl ?_
    refine J_assign rfl rfl rfl ?_
    refine J_nil2 ?_
    refine E_then ?_
    refine R_ret ?_
    rotate_left
    all_goals
      apply E_retP Tryz.results264
      · exact Res.tmp rfl (Res.tmp rfl (Res.nil))
      · (repeat (first | ((fail_if_success (apply Gives.cons)); refine Gives.drop ?_) | with_reducible exact Gives.refl))
      first
        | (rw [if_pos (by first | exact .inl hh | exact .inr (.inl hh) | exact .inr (.inr (.inl hh)) | exact .inr (.inr (.inr hh)))]; rfl)
        | (rw [if_neg (by
            rintro (h | h | h | h)
            · exact h (by assumption)
            · exact h (by assumption)
            · omega
            · omega)]; rfl)
  · refine Fn_enter Tryz.func264 rfl Tryz.ntmps264 rfl ?_
    refine R_seq ?_
    refine R_region ?_
    refine J_assign rfl rfl rfl ?_
    refine J_assign rfl rfl rfl ?_
    refine J_nil ?_
    refine E_then ?_
    refine R_seq ?_
    refine R_seq ?_
    refine R_region ?_
    refine J_move rfl rfl rfl ?_
    refine J_len_str rfl rfl rfl ?_
    refine J_cmp rfl rfl rfl rfl rfl ?_
    refine J_nil3 ?_
    refine E_then ?_
    refine R_cond rfl (fun hh => ?_) (fun hh => ?_)
    simp only [decide_eq_true_eq, decide_eq_false_iff_not, Bool.and_eq_true, Bool.or_eq_true, Bool.not_eq_true', Bool.not_eq_false', beq_iff_eq, bne_iff_ne, beq_eq_false_iff_ne, bne_eq_false_iff_eq, ne_eq, ge_iff_le, gt_iff_lt, Int.not_le, Int.not_lt, Bool.and_eq_false_iff, Bool.or_eq_false_iff, Decidable.not_not] at hh
    refine R_seq ?_
    refine R_region ?_
    refine J_assign rfl rfl rfl ?_
    refine J_assign rfl rfl rfl ?_
    refine J_nil ?_
    refine E_then ?_
    refine R_ret ?_
    refine E_then_ret ?_
    rotate_left
    simp only [decide_eq_true_eq, decide_eq_false_iff_not, Bool.and_eq_true, Bool.or_eq_true, Bool.not_eq_true', Bool.not_eq_false', beq_iff_eq, bne_iff_ne, beq_eq_false_iff_ne, bne_eq_false_iff_eq, ne_eq, ge_iff_le, gt_iff_lt, Int.not_le, Int.not_lt, Bool.and_eq_false_iff, Bool.or_eq_false_iff, Decidable.not_not] at hh
    exfalso; omega
    have hr : recSize s q = (0, 12) := by unfold recSize; rw [if_pos h64]
    rw [hr]
    apply E_retP Tryz.results264
    · exact Res.tmp rfl (Res.tmp rfl (Res.nil))
    · exact Gives.refl
    rfl
end Go.Proofs.Sol

/- Entries of a table: what a sector says. -/
namespace Go.Proofs.Sol
open Go Go.Proofs
set_option maxRecDepth 100000
set_option maxHeartbeats 4000000
set_option linter.unusedVariables false
set_option linter.unusedSimpArgs false
attribute [local irreducible] R J JW E D Fn Y clf mpI own Sat Exit.then Exit.inBlock bodyPost bodyPostM Code.wpIn wpL
def ent0 : Ent := ⟨0, 0, 0⟩
def entN (t : Bytes) (o : Nat) : Ent := ⟨(num ((t.drop o).take 7) : Int), (num ((t.drop (o + 7)).take 7) : Int), (num ((t.drop (o + 14)).take 1) : Int) - 1⟩
open Classical in
noncomputable def entGet (t : Bytes) : (Ent × Ent) × Int :=
  if t.length ≠ 64 then ((ent0, ent0), 12) else if t.take 1 ≠ [69] then ((ent0, ent0), 4)
  else if (t.drop 31).take 4 ≠ tail (t.take 31) then ((ent0, ent0), 5)
  else if (entOk (entN t 1) && entOk (entN t 16)) = true ∧ entB (entN t 1) (entN t 16) = t then ((entN t 1, entN t 16), 0) else ((ent0, ent0), 4)
theorem entT_length {x y : Ent} (hx : entOk x = true) (hy : entOk y = true) : (entT x y).length = 31 := by
  unfold entT; rw [entP_length hy, entP_length hx]; rfl
theorem entB_length {x y : Ent} (hx : entOk x = true) (hy : entOk y = true) : (entB x y).length = 64 := by
  unfold entB
  exact pad_len (by simp [tail_length, entT_length hx hy])
theorem entB_eq {x y : Ent} (hx : entOk x = true) (hy : entOk y = true) : entB x y = 69 :: (be x.a.toNat 7 ++ (be x.b.toNat 7 ++ (be (x.slot + 1).toNat 1 ++ (be y.a.toNat 7 ++ (be y.b.toNat 7 ++ (be (y.slot + 1).toNat 1 ++ (tail (entT x y) ++ List.replicate 29 0))))))) := by
  have hl := entT_length hx hy
  have he : entT x y = 69 :: (be x.a.toNat 7 ++ (be x.b.toNat 7 ++ (be (x.slot + 1).toNat 1 ++ (be y.a.toNat 7 ++ (be y.b.toNat 7 ++ be (y.slot + 1).toNat 1))))) := by
    unfold entT
    rw [entP_eq hy, entP_eq hx]; simp
  unfold entB
  rw [pad_of (by simp [tail_length, hl])]
  have e : 64 - (entT x y ++ tail (entT x y)).length = 29 := by simp [tail_length, hl]
  rw [e]
  conv => lhs; rw [List.append_assoc]; arg 1; rw [he]
  simp
theorem entN_put {x y : Ent} (hx : entOk x = true) (hy : entOk y = true) : entN (entB x y) 1 = x ∧ entN (entB x y) 16 = y ∧ (entB x y).drop 31 = tail (entT x y) ++ List.replicate 29 0 := by
  have sx := entOk_spec hx
  have sy := entOk_spec hy
  have e0 := entB_eq hx hy
  have h1 : (entB x y).drop 1 = be x.a.toNat 7 ++ (be x.b.toNat 7 ++ (be (x.slot + 1).toNat 1 ++ (be y.a.toNat 7 ++ (be y.b.toNat 7 ++ (be (y.slot + 1).toNat 1 ++ (tail (entT x y) ++ List.replicate 29 0)))))) := by rw [e0]; rfl
  have h8 := drop_add (l := entB x y) 1 7
  rw [h1, drop_app (be_length _ _)] at h8
  have h15 := drop_add (l := entB x y) 8 7
  rw [h8, drop_app (be_length _ _)] at h15
  have h16 := drop_add (l := entB x y) 15 1
  rw [h15, drop_app (be_length _ _)] at h16
  have h23 := drop_add (l := entB x y) 16 7
  rw [h16, drop_app (be_length _ _)] at h23
  have h30 := drop_add (l := entB x y) 23 7
  rw [h23, drop_app (be_length _ _)] at h30
  have h31 := drop_add (l := entB x y) 30 1
  rw [h30, drop_app (be_length _ _)] at h31
  obtain ⟨a, b, s⟩ := x
  obtain ⟨a2, b2, s2⟩ := y
  dsimp only at sx sy h1 h8 h15 h16 h23 h30 h31
  refine ⟨?_, ?_, h31⟩
  · unfold entN
    rw [h1, h8, h15]
    simp only [take_app (be_length _ _)]
    rw [num_be _ _ (by omega), num_be _ _ (by omega), num_be _ _ (by omega)]
    congr 1 <;> omega
  · unfold entN
    rw [h16, h23, h30]
    simp only [take_app (be_length _ _)]
    rw [num_be _ _ (by omega), num_be _ _ (by omega), num_be _ _ (by omega)]
    congr 1 <;> omega
theorem entGet_put {x y : Ent} (hx : entOk x = true) (hy : entOk y = true) : entGet (entB x y) = ((x, y), 0) := by
  obtain ⟨h1, h2, h3⟩ := entN_put hx hy
  have hP : (entB x y).take 31 = entT x y := by
    unfold entB
    rw [pad_of (by simp [tail_length, entT_length hx hy]), List.append_assoc]
    exact take_app (entT_length hx hy)
  unfold entGet
  rw [if_neg (by simp [entB_length hx hy]), if_neg (by rw [entB_eq hx hy]; simp), if_neg (by rw [h3, hP, take_app (tail_length _)]; simp), h1, h2, if_pos ⟨by rw [hx, hy]; rfl, rfl⟩]
theorem num7 (s : Bytes) : num (s.take 7) < 72057594037927936 := by
  have h1 := num_lt (s.take 7)
  have h2 : (s.take 7).length ≤ 7 := List.length_take_le ..
  have h3 : 256 ^ (s.take 7).length ≤ 256 ^ 7 := Nat.pow_le_pow_right (by omega) h2
  omega
theorem num1' (s : Bytes) : num (s.take 1) < 256 := by
  have h1 := num_lt (s.take 1)
  have h2 : (s.take 1).length ≤ 1 := List.length_take_le ..
  have h3 : 256 ^ (s.take 1).length ≤ 256 ^ 1 := Nat.pow_le_pow_right (by omega) h2
  omega
abbrev pairV (p : Ent × Ent) : Value := .agg (pairL p.1 p.2).toArray
theorem entry_Get (s : Bytes) (F : List HP) : Fn Tryz.prog 196 [.string (S s)] F (Pst (.tuple #[pairV (entGet s).1, .int .i64 (entGet s).2]) F) := by
  by_cases h64 : s.length = 64
  · refine Fn_enter Tryz.func196 rfl Tryz.ntmps196 rfl ?_
    refine R_seq ?_
    refine R_region ?_
    refine J_alloc rfl rfl ?_; intro
    refine J_assign rfl rfl rfl ?_
    refine J_nil ?_
    refine E_then ?_
    refine R_seq ?_
    refine R_region ?_
    refine J_alloc rfl rfl ?_; intro
    refine J_alloc rfl rfl ?_; intro
    refine J_nil ?_
    refine E_then ?_
    refine R_seq ?_
    refine R_seq ?_
    refine R_region ?_
    refine J_move rfl rfl rfl ?_
    refine J_len_str rfl rfl rfl ?_
    refine J_cmp rfl rfl rfl rfl rfl ?_
    refine J_nil3 ?_
    refine E_then ?_
    refine R_cond rfl (fun hh => ?_) (fun hh => ?_)
    simp only [decide_eq_true_eq, decide_eq_false_iff_not, Bool.and_eq_true, Bool.or_eq_true, Bool.not_eq_true', Bool.not_eq_false', beq_iff_eq, bne_iff_ne, beq_eq_false_iff_ne, bne_eq_false_iff_eq, ne_eq, ge_iff_le, gt_iff_lt, Int.not_le, Int.not_lt, Bool.and_eq_false_iff, Bool.or_eq_false_iff, Decidable.not_not] at hh
    exfalso; omega
    simp only [decide_eq_true_eq, decide_eq_false_iff_not, Bool.and_eq_true, Bool.or_eq_true, Bool.not_eq_true', Bool.not_eq_false', beq_iff_eq, bne_iff_ne, beq_eq_false_iff_ne, bne_eq_false_iff_eq, ne_eq, ge_iff_le, gt_iff_lt, Int.not_le, Int.not_lt, Bool.and_eq_false_iff, Bool.or_eq_false_iff, Decidable.not_not] at hh
    refine R_skip ?_
    refine E_then ?_
    refine R_seq ?_
    refine R_region ?_
    refine J_move rfl rfl rfl ?_
    rename_i t2 t4 t5
    refine J_callm rfl (field_New s _) Gives.refl rfl rfl ?_
    rintro v w ⟨b, rfl, s0⟩
    refine JW.of s0 ?_
    refine J_assign rfl rfl rfl ?_
    refine J_nil2 ?_
    refine E_then ?_
    refine R_seq ?_
    refine R_seq ?_
    refine R_region ?_
    refine J_move rfl rfl rfl ?_
    refine J_callr rfl (field_Bytes b _ 1 _) (by exact Gives.refl) rfl rfl ?_
    rw [(rd_step (s := s) (n := 1) (by omega)).1, (rd_step (s := s) (n := 1) (by omega)).2]
    have e3 : s.take (Int.toNat 1) = s.take 1 := rfl
    have e4 : s.drop (Int.toNat 1) = s.drop 1 := rfl
    rw [e3, e4]
    by_cases h1 : s.take 1 = [69]
    · have hg : entGet s = if (s.drop 31).take 4 ≠ tail (s.take 31) then ((ent0, ent0), 5) else (open Classical in if (entOk (entN s 1) && entOk (entN s 16)) = true ∧ entB (entN s 1) (entN s 16) = s then ((entN s 1, entN s 16), 0) else ((ent0, ent0), 4)) := by
        conv => lhs; unfold entGet
        rw [if_neg (by simp [h64]), if_neg (by simp [h1])]
      rw [h1, hg]
      clear hg e3 e4
      refine J_str_cmp rfl rfl rfl rfl rfl ?_
      refine J_nil3 ?_
      refine E_then ?_
      refine R_cond_false rfl ?_
      refine R_skip ?_
      refine E_then ?_
      refine R_seq ?_
      refine R_seq ?_
      refine R_region ?_
      refine J_move rfl rfl rfl ?_
      refine J_nil1 ?_
      refine E_then ?_
      refine R_block ?_
      all_goals try exact absurd trivial hh
      refine R_loop (X := {x : Nat × Ent × Ent // x.1 ≤ 2 ∧ (x.1 = 0 → x.2 = (ent0, ent0)) ∧ (x.1 = 1 → x.2 = (entN s 1, ent0)) ∧ (x.1 = 2 → x.2 = (entN s 1, entN s 16))})
        (fun x => [(21, .int .i64 (x.1.1 : Int)), (5, .pointer (some ⟨t5, 0, none⟩)), (4, .pointer (some ⟨t4, 0, none⟩)), (2, .pointer (some ⟨t2, 0, none⟩)), (0, .string (S s)), (6, .pointer (some ⟨b, 0, none⟩))])
        (fun x => rdr b ⟨s.drop (1 + 15 * x.1.1), 0⟩ :: cl t5 193 (pairL x.1.2.1 x.1.2.2) :: cl t4 193 (pairL ent0 ent0) :: cl t2 193 (pairL ent0 ent0) :: F) (fun x => 2 - x.1.1)
        ⟨(0, ent0, ent0), by omega, fun _ => rfl, fun h => (by cases h), fun h => (by cases h)⟩ (by exact sub_cons rfl (sub_cons rfl (sub_cons rfl (sub_cons rfl (sub_cons rfl (sub_cons rfl sub_nil)))))) ⟨fun _ s => s⟩ ?_
      rintro ⟨⟨j, x, y⟩, hj, h0, h1', h2⟩
      dsimp only at hj h0 h1' h2 ⊢
      have hj3 : j = 0 ∨ j = 1 ∨ j = 2 := by omega
      rcases hj3 with rfl | rfl | rfl
      · obtain ⟨rfl, rfl⟩ : x = ent0 ∧ y = ent0 := by simpa using h0 rfl
        have l1 : (s.drop (1 + 15 * 0)).length = 63 := by simp; omega
        have l8 : (s.drop 8).length = 56 := by simp; omega
        have l15 : (s.drop 15).length = 49 := by simp; omega
        have d8 : (s.drop (1 + 15 * 0)).drop (Int.toNat 7) = s.drop 8 := by rw [List.drop_drop]; rfl
        have d15 : (s.drop 8).drop (Int.toNat 7) = s.drop 15 := by rw [List.drop_drop]; rfl
        have d16 : (s.drop 15).drop (Int.toNat 1) = s.drop (1 + 15 * (0 + 1)) := by rw [List.drop_drop]; rfl
        have n1 := num7 (s.drop 1)
        have n2 := num7 (s.drop 8)
        have n3 := num1' (s.drop 15)
        refine R_seq ?_
        refine R_region ?_
        refine J_cmp rfl rfl rfl rfl rfl ?_
        refine J_nil1 ?_
        refine E_then ?_
        refine R_seq ?_
        refine R_cond_true rfl ?_
        refine R_skip ?_
        refine E_then ?_
        refine R_seq ?_
        refine R_block ?_
        refine R_seq ?_
        refine R_region ?_
        refine J_move rfl rfl rfl ?_
        refine J_assign rfl rfl rfl ?_
        refine J_nil1 ?_
        refine E_then ?_
        refine R_seq ?_
        refine R_region ?_
        refine J_move rfl rfl rfl ?_
        refine J_move rfl rfl rfl ?_
        refine J_callr rfl (field_Num b _ 7 (by omega) _) (by exact Gives.refl) rfl rfl ?_
        rw [(rd_step (s := s.drop (1 + 15 * 0)) (n := 7) (by omega)).1, rd_num (s := s.drop (1 + 15 * 0)) (n := 7) (by omega), d8]
        refine J_move rfl rfl rfl ?_
        refine J_callr rfl (field_Num b _ 7 (by omega) _) (by exact Gives.refl) rfl rfl ?_
        rw [(rd_step (s := s.drop 8) (n := 7) (by omega)).1, rd_num (s := s.drop 8) (n := 7) (by omega), d15]
        refine J_build rfl rfl rfl rfl ?_
        refine J_indexAddrA rfl rfl (by omega) (by omega) rfl rfl ?_
        refine J_fieldAddr0 rfl rfl rfl ?_
        refine J_storeA rfl rfl rfl rfl rfl rfl ?_
        refine J_nil3 ?_
        refine E_then ?_
        refine R_region ?_
        refine J_move rfl rfl rfl ?_
        refine J_move rfl rfl rfl ?_
        refine J_callr rfl (field_Num b _ 1 (by omega) _) (by exact Gives.refl) rfl rfl ?_
        rw [(rd_step (s := s.drop 15) (n := 1) (by omega)).1, rd_num (s := s.drop 15) (n := 1) (by omega), d16]
        have t15 : (s.drop 15).take (Int.toNat 1) = (s.drop 15).take 1 := rfl
        rw [t15]
        refine J_ari64 rfl rfl rfl (by omega) rfl rfl ?_
        refine J_indexAddrA rfl rfl (by omega) (by omega) rfl rfl ?_
        refine J_fieldAddr0 rfl rfl rfl ?_
        refine J_store rfl rfl rfl rfl ?_
        refine J_nil3 ?_
        refine E_block_normal ?_
        refine E_then ?_
        refine R_region ?_
        refine J_ari64 rfl rfl rfl (by omega) rfl rfl ?_
        refine J_moveg rfl rfl rfl ?_
        refine J_nil1 ?_
        exact E_thenI fun a' w he hs => ⟨⟨(1, entN s 1, ent0), by omega, fun h => (by cases h), fun _ => rfl, fun h => (by cases h)⟩, by simp, he.sub (by exact sub_cons rfl (sub_cons rfl (sub_cons rfl (sub_cons rfl (sub_cons rfl (sub_cons rfl sub_nil)))))), by
          have hs2 := hs.gives (M := rdr b ⟨s.drop (1 + 15 * (0 + 1)), 0⟩ :: cl t5 193 _ :: cl t4 193 (pairL ent0 ent0) :: cl t2 193 (pairL ent0 ent0) :: F) (by exact Gives.refl)
          exact hs2⟩
      · obtain ⟨rfl, rfl⟩ : x = entN s 1 ∧ y = ent0 := by simpa using h1' rfl
        have l1 : (s.drop (1 + 15 * 1)).length = 48 := by simp; omega
        have l8 : (s.drop 23).length = 41 := by simp; omega
        have l15 : (s.drop 30).length = 34 := by simp; omega
        have d8 : (s.drop (1 + 15 * 1)).drop (Int.toNat 7) = s.drop 23 := by rw [List.drop_drop]; rfl
        have d15 : (s.drop 23).drop (Int.toNat 7) = s.drop 30 := by rw [List.drop_drop]; rfl
        have d16 : (s.drop 30).drop (Int.toNat 1) = s.drop (1 + 15 * (1 + 1)) := by rw [List.drop_drop]; rfl
        have n1 := num7 (s.drop 16)
        have n2 := num7 (s.drop 23)
        have n3 := num1' (s.drop 30)
        refine R_seq ?_
        refine R_region ?_
        refine J_cmp rfl rfl rfl rfl rfl ?_
        refine J_nil1 ?_
        refine E_then ?_
        refine R_seq ?_
        refine R_cond_true rfl ?_
        refine R_skip ?_
        refine E_then ?_
        refine R_seq ?_
        refine R_block ?_
        refine R_seq ?_
        refine R_region ?_
        refine J_move rfl rfl rfl ?_
        refine J_assign rfl rfl rfl ?_
        refine J_nil1 ?_
        refine E_then ?_
        refine R_seq ?_
        refine R_region ?_
        refine J_move rfl rfl rfl ?_
        refine J_move rfl rfl rfl ?_
        refine J_callr rfl (field_Num b _ 7 (by omega) _) (by exact Gives.refl) rfl rfl ?_
        rw [(rd_step (s := s.drop (1 + 15 * 1)) (n := 7) (by omega)).1, rd_num (s := s.drop (1 + 15 * 1)) (n := 7) (by omega), d8]
        refine J_move rfl rfl rfl ?_
        refine J_callr rfl (field_Num b _ 7 (by omega) _) (by exact Gives.refl) rfl rfl ?_
        rw [(rd_step (s := s.drop 23) (n := 7) (by omega)).1, rd_num (s := s.drop 23) (n := 7) (by omega), d15]
        refine J_build rfl rfl rfl rfl ?_
        refine J_indexAddrA rfl rfl (by omega) (by omega) rfl rfl ?_
        refine J_fieldAddr rfl rfl rfl rfl ?_
        refine J_storeA rfl rfl rfl rfl rfl rfl ?_
        refine J_nil3 ?_
        refine E_then ?_
        refine R_region ?_
        refine J_move rfl rfl rfl ?_
        refine J_move rfl rfl rfl ?_
        refine J_callr rfl (field_Num b _ 1 (by omega) _) (by exact Gives.refl) rfl rfl ?_
        rw [(rd_step (s := s.drop 30) (n := 1) (by omega)).1, rd_num (s := s.drop 30) (n := 1) (by omega), d16]
        have t15 : (s.drop 30).take (Int.toNat 1) = (s.drop 30).take 1 := rfl
        rw [t15]
        refine J_ari64 rfl rfl rfl (by omega) rfl rfl ?_
        refine J_indexAddrA rfl rfl (by omega) (by omega) rfl rfl ?_
        refine J_fieldAddr rfl rfl rfl rfl ?_
        refine J_store rfl rfl rfl rfl ?_
        refine J_nil3 ?_
        refine E_block_normal ?_
        refine E_then ?_
        refine R_region ?_
        refine J_ari64 rfl rfl rfl (by omega) rfl rfl ?_
        refine J_moveg rfl rfl rfl ?_
        refine J_nil1 ?_
        exact E_thenI fun a' w he hs => ⟨⟨(2, entN s 1, entN s 16), by omega, fun h => (by cases h), fun h => (by cases h), fun _ => rfl⟩, by simp, he.sub (by exact sub_cons rfl (sub_cons rfl (sub_cons rfl (sub_cons rfl (sub_cons rfl (sub_cons rfl sub_nil)))))), by
          have hs2 := hs.gives (M := rdr b ⟨s.drop (1 + 15 * (1 + 1)), 0⟩ :: cl t5 193 _ :: cl t4 193 (pairL ent0 ent0) :: cl t2 193 (pairL ent0 ent0) :: F) (by exact Gives.refl)
          exact hs2⟩
      · obtain ⟨rfl, rfl⟩ : x = entN s 1 ∧ y = entN s 16 := by simpa using h2 rfl
        have l31 : (s.drop (1 + 15 * 2)).length = 33 := by simp; omega
        have t31 : s.take (Int.toNat 31) = s.take 31 := rfl
        generalize entN s 1 = x
        generalize entN s 16 = y
        refine R_seq ?_
        refine R_region ?_
        refine J_cmp rfl rfl rfl rfl rfl ?_
        refine J_nil1 ?_
        refine E_then ?_
        refine R_seq ?_
        refine R_cond_false rfl ?_
        refine R_exit ?_
        refine E_then_exit ?_
        refine E_then_exit ?_
        refine E_block_hit ?_
        refine E_then ?_
        refine R_seq ?_
        refine R_seq ?_
        refine R_region ?_
        refine J_move rfl rfl rfl ?_
        refine J_slice_hi rfl rfl (by omega) (by omega) rfl rfl ?_
        rw [t31]
        refine J_callr rfl (cyclic_Tail (s.take 31) (by simp; omega) _) (by exact Gives.refl) rfl rfl ?_
        have lt := tail_length (s.take 31)
        refine J_assign rfl rfl rfl ?_
        refine J_nil3 ?_
        refine E_then ?_
        refine R_seq ?_
        refine R_region ?_
        refine J_move rfl rfl rfl ?_
        refine J_move rfl rfl rfl ?_
        refine J_len_str rfl rfl rfl ?_
        refine J_callr rfl (field_Bytes b _ _ _) (by exact Gives.refl) rfl rfl ?_
        have t5' : (s.drop (1 + 15 * 2)).take ((tail (s.take 31)).length : Int).toNat = (s.drop 31).take 4 := by rw [lt]; rfl
        rw [(rd_step (s := s.drop (1 + 15 * 2)) (n := ((tail (s.take 31)).length : Int)) (by omega)).1, (rd_step (s := s.drop (1 + 15 * 2)) (n := ((tail (s.take 31)).length : Int)) (by omega)).2, t5']
        by_cases h2' : (s.drop 31).take 4 = tail (s.take 31)
        · rw [h2', if_neg (by simp)]
          refine J_move rfl rfl rfl ?_
          refine J_str_cmp rfl rfl rfl rfl rfl ?_
          refine J_nil3 ?_
          refine E_then ?_
          refine R_cond rfl (fun hh => ?_) (fun hh => ?_)
          simp only [decide_eq_true_eq, decide_eq_false_iff_not, Bool.and_eq_true, Bool.or_eq_true, Bool.not_eq_true', Bool.not_eq_false', beq_iff_eq, bne_iff_ne, beq_eq_false_iff_ne, bne_eq_false_iff_eq, ne_eq, ge_iff_le, gt_iff_lt, Int.not_le, Int.not_lt, Bool.and_eq_false_iff, Bool.or_eq_false_iff, Decidable.not_not] at hh
          refine R_seq ?_
          refine R_region ?_
          refine J_loadA rfl rfl rfl rfl ?_
          refine J_storeA rfl rfl rfl rfl rfl rfl ?_
          refine J_assign rfl rfl rfl ?_
          refine J_nil1 ?_
          refine E_then ?_
          refine R_ret ?_
          refine E_then_ret ?_
          rotate_left
          simp only [decide_eq_true_eq, decide_eq_false_iff_not, Bool.and_eq_true, Bool.or_eq_true, Bool.not_eq_true', Bool.not_eq_false', beq_iff_eq, bne_iff_ne, beq_eq_false_iff_ne, bne_eq_false_iff_eq, ne_eq, ge_iff_le, gt_iff_lt, Int.not_le, Int.not_lt, Bool.and_eq_false_iff, Bool.or_eq_false_iff, Decidable.not_not] at hh
          refine R_skip ?_
          refine E_then ?_
          refine R_seq ?_
          refine R_seq ?_
          refine R_region ?_
          refine J_loadA rfl rfl rfl rfl ?_
          rotate_left
          · exact absurd trivial hh
          · refine J_callr rfl (entry_Put x y _) (by exact Gives.refl) rfl rfl ?_
            rcases Bool.eq_false_or_eq_true (entOk x && entOk y) with h3 | h3
            · rw [h3]
              simp only [if_true, true_and]
              by_cases h4 : entB x y = s
              · rw [if_pos h4, h4]
                refine J_move rfl rfl rfl ?_
                refine J_extract rfl rfl rfl rfl ?_
                refine J_extract rfl rfl rfl rfl ?_
                refine J_assign rfl rfl rfl ?_
                refine J_assign rfl rfl rfl ?_
                refine J_nil3 ?_
                refine E_then ?_
                refine R_seq ?_
                refine R_region ?_
                refine J_move rfl rfl rfl ?_
                refine J_cmp rfl rfl rfl rfl rfl ?_
                refine J_move rfl rfl rfl ?_
                refine J_guard rfl rfl rfl ?_
                refine J_move rfl rfl rfl ?_
                refine J_guard rfl rfl rfl ?_
                refine J_move rfl rfl rfl ?_
                refine J_guard rfl rfl rfl ?_
                refine J_str_cmp rfl rfl rfl rfl rfl ?_
                refine J_pick_false rfl rfl rfl rfl ?_
                refine J_nil3 ?_
                refine E_then ?_
                refine R_cond rfl (fun hh => ?_) (fun hh => ?_)
                simp only [decide_eq_true_eq, decide_eq_false_iff_not, Bool.and_eq_true, Bool.or_eq_true, Bool.not_eq_true', Bool.not_eq_false', beq_iff_eq, bne_iff_ne, beq_eq_false_iff_ne, bne_eq_false_iff_eq, ne_eq, ge_iff_le, gt_iff_lt, Int.not_le, Int.not_lt, Bool.and_eq_false_iff, Bool.or_eq_false_iff, Decidable.not_not] at hh
                refine R_seq ?_
                refine R_region ?_
                refine J_loadA rfl rfl rfl rfl ?_
                refine J_storeA rfl rfl rfl rfl rfl rfl ?_
                refine J_assign rfl rfl rfl ?_
                refine J_nil1 ?_
                refine E_then ?_
                refine R_ret ?_
                refine E_then_ret ?_
                rotate_left
                simp only [decide_eq_true_eq, decide_eq_false_iff_not, Bool.and_eq_true, Bool.or_eq_true, Bool.not_eq_true', Bool.not_eq_false', beq_iff_eq, bne_iff_ne, beq_eq_false_iff_ne, bne_eq_false_iff_eq, ne_eq, ge_iff_le, gt_iff_lt, Int.not_le, Int.not_lt, Bool.and_eq_false_iff, Bool.or_eq_false_iff, Decidable.not_not] at hh
                refine R_skip ?_
                refine E_then ?_
                refine R_seq ?_
                refine R_region ?_
                refine J_loadA rfl rfl rfl rfl ?_
                refine J_storeA rfl rfl rfl rfl rfl rfl ?_
                refine J_assign rfl rfl rfl ?_
                refine J_nil1 ?_
                refine E_then ?_
                refine R_ret ?_
                rotate_left
                all_goals first
                  | exact absurd rfl hh
                  | exact absurd trivial hh
                  | (apply E_retP Tryz.results196
                     · exact Res_cellA rfl rfl (Res.tmp rfl (Res.nil))
                     · exact Gives.drop (Gives.drop (Gives.drop (Gives.drop Gives.refl)))
                     rfl)
              · rw [if_neg h4]
                refine J_move rfl rfl rfl ?_
                refine J_extract rfl rfl rfl rfl ?_
                refine J_extract rfl rfl rfl rfl ?_
                refine J_assign rfl rfl rfl ?_
                refine J_assign rfl rfl rfl ?_
                refine J_nil3 ?_
                refine E_then ?_
                refine R_seq ?_
                refine R_region ?_
                refine J_move rfl rfl rfl ?_
                refine J_cmp rfl rfl rfl rfl rfl ?_
                refine J_move rfl rfl rfl ?_
                refine J_guard rfl rfl rfl ?_
                refine J_move rfl rfl rfl ?_
                refine J_guard rfl rfl rfl ?_
                refine J_move rfl rfl rfl ?_
                refine J_guard rfl rfl rfl ?_
                refine J_str_cmp rfl rfl rfl rfl rfl ?_
                refine J_pick_false rfl rfl rfl rfl ?_
                refine J_nil3 ?_
                refine E_then ?_
                refine R_cond rfl (fun hh => ?_) (fun hh => ?_)
                simp only [decide_eq_true_eq, decide_eq_false_iff_not, Bool.and_eq_true, Bool.or_eq_true, Bool.not_eq_true', Bool.not_eq_false', beq_iff_eq, bne_iff_ne, beq_eq_false_iff_ne, bne_eq_false_iff_eq, ne_eq, ge_iff_le, gt_iff_lt, Int.not_le, Int.not_lt, Bool.and_eq_false_iff, Bool.or_eq_false_iff, Decidable.not_not] at hh
                refine R_seq ?_
                refine R_region ?_
                refine J_loadA rfl rfl rfl rfl ?_
                refine J_storeA rfl rfl rfl rfl rfl rfl ?_
                refine J_assign rfl rfl rfl ?_
                refine J_nil1 ?_
                refine E_then ?_
                refine R_ret ?_
                refine E_then_ret ?_
                rotate_left
                simp only [decide_eq_true_eq, decide_eq_false_iff_not, Bool.and_eq_true, Bool.or_eq_true, Bool.not_eq_true', Bool.not_eq_false', beq_iff_eq, bne_iff_ne, beq_eq_false_iff_ne, bne_eq_false_iff_eq, ne_eq, ge_iff_le, gt_iff_lt, Int.not_le, Int.not_lt, Bool.and_eq_false_iff, Bool.or_eq_false_iff, Decidable.not_not] at hh
                refine R_skip ?_
                refine E_then ?_
                refine R_seq ?_
                refine R_region ?_
                refine J_loadA rfl rfl rfl rfl ?_
                refine J_storeA rfl rfl rfl rfl rfl rfl ?_
                refine J_assign rfl rfl rfl ?_
                refine J_nil1 ?_
                refine E_then ?_
                refine R_ret ?_
                rotate_left
                all_goals first
                  | exact absurd hh h4
                  | (apply E_retP Tryz.results196
                     · exact Res_cellA rfl rfl (Res.tmp rfl (Res.nil))
                     · exact Gives.drop (Gives.drop (Gives.drop (Gives.drop Gives.refl)))
                     rfl)
            · rw [h3]
              simp only [Bool.false_eq_true, if_false, false_and]
              refine J_move rfl rfl rfl ?_
              refine J_extract rfl rfl rfl rfl ?_
              refine J_extract rfl rfl rfl rfl ?_
              refine J_assign rfl rfl rfl ?_
              refine J_assign rfl rfl rfl ?_
              refine J_nil3 ?_
              refine E_then ?_
              refine R_seq ?_
              refine R_region ?_
              refine J_move rfl rfl rfl ?_
              refine J_cmp rfl rfl rfl rfl rfl ?_
              refine J_move rfl rfl rfl ?_
              refine J_guard_not rfl rfl rfl rfl rfl rfl ?_
              refine J_guard_not rfl rfl rfl rfl rfl rfl ?_
              refine J_guard_not rfl rfl rfl rfl rfl rfl ?_
              refine J_pick_true rfl rfl rfl rfl ?_
              refine J_nil3 ?_
              refine E_then ?_
              refine R_cond_true rfl ?_
              refine R_seq ?_
              refine R_region ?_
              refine J_loadA rfl rfl rfl rfl ?_
              refine J_storeA rfl rfl rfl rfl rfl rfl ?_
              refine J_assign rfl rfl rfl ?_
              refine J_nil1 ?_
              refine E_then ?_
              refine R_ret ?_
              refine E_then_ret ?_
              apply E_retP Tryz.results196
              · exact Res_cellA rfl rfl (Res.tmp rfl (Res.nil))
              · exact Gives.drop (Gives.drop (Gives.drop (Gives.drop Gives.refl)))
              rfl
        · rw [if_pos h2']
          refine J_move rfl rfl rfl ?_
          refine J_str_cmp rfl rfl rfl rfl rfl ?_
          refine J_nil3 ?_
          refine E_then ?_
          refine R_cond rfl (fun hh => ?_) (fun hh => ?_)
          simp only [decide_eq_true_eq, decide_eq_false_iff_not, Bool.and_eq_true, Bool.or_eq_true, Bool.not_eq_true', Bool.not_eq_false', beq_iff_eq, bne_iff_ne, beq_eq_false_iff_ne, bne_eq_false_iff_eq, ne_eq, ge_iff_le, gt_iff_lt, Int.not_le, Int.not_lt, Bool.and_eq_false_iff, Bool.or_eq_false_iff, Decidable.not_not] at hh
          refine R_seq ?_
          refine R_region ?_
          refine J_loadA rfl rfl rfl rfl ?_
          refine J_storeA rfl rfl rfl rfl rfl rfl ?_
          refine J_assign rfl rfl rfl ?_
          refine J_nil1 ?_
          refine E_then ?_
          refine R_ret ?_
          refine E_then_ret ?_
          rotate_left
          simp only [decide_eq_true_eq, decide_eq_false_iff_not, Bool.and_eq_true, Bool.or_eq_true, Bool.not_eq_true', Bool.not_eq_false', beq_iff_eq, bne_iff_ne, beq_eq_false_iff_ne, bne_eq_false_iff_eq, ne_eq, ge_iff_le, gt_iff_lt, Int.not_le, Int.not_lt, Bool.and_eq_false_iff, Bool.or_eq_false_iff, Decidable.not_not] at hh
          refine R_skip ?_
          refine E_then ?_
          refine R_seq ?_
          refine R_seq ?_
          refine R_region ?_
          refine J_loadA rfl rfl rfl rfl ?_
          rotate_left
          · apply E_retP Tryz.results196
            · exact Res_cellA rfl rfl (Res.tmp rfl (Res.nil))
            · exact Gives.drop (Gives.drop (Gives.drop (Gives.drop Gives.refl)))
            rfl
          · exact absurd hh h2'
    · have hg : entGet s = ((ent0, ent0), 4) := by unfold entGet; rw [if_neg (by simp [h64]), if_pos h1]
      rw [hg]
      refine J_str_cmp rfl rfl rfl rfl rfl ?_
      refine J_nil3 ?_
      refine E_then ?_
      refine R_cond rfl (fun hh => ?_) (fun hh => ?_)
      simp only [decide_eq_true_eq, decide_eq_false_iff_not, Bool.and_eq_true, Bool.or_eq_true, Bool.not_eq_true', Bool.not_eq_false', beq_iff_eq, bne_iff_ne, beq_eq_false_iff_ne, bne_eq_false_iff_eq, ne_eq, ge_iff_le, gt_iff_lt, Int.not_le, Int.not_lt, Bool.and_eq_false_iff, Bool.or_eq_false_iff, Decidable.not_not] at hh
      refine R_seq ?_
      refine R_region ?_
      refine J_loadA rfl rfl rfl rfl ?_
      refine J_storeA rfl rfl rfl rfl rfl rfl ?_
      refine J_assign rfl rfl rfl ?_
      refine J_nil1 ?_
      refine E_then ?_
      refine R_ret ?_
      refine E_then_ret ?_
      rotate_left
      simp only [decide_eq_true_eq, decide_eq_false_iff_not, Bool.and_eq_true, Bool.or_eq_true, Bool.not_eq_true', Bool.not_eq_false', beq_iff_eq, bne_iff_ne, beq_eq_false_iff_ne, bne_eq_false_iff_eq, ne_eq, ge_iff_le, gt_iff_lt, Int.not_le, Int.not_lt, Bool.and_eq_false_iff, Bool.or_eq_false_iff, Decidable.not_not] at hh
      refine R_skip ?_
      refine E_then ?_
      refine R_seq ?_
      refine R_seq ?_
      refine R_region ?_
      refine J_move rfl rfl rfl ?_
      refine J_nil1 ?_
      refine E_then ?_
      refine R_block ?_
      rotate_left
      · apply E_retP Tryz.results196
        · exact Res_cellA rfl rfl (Res.tmp rfl (Res.nil))
        · exact Gives.drop (Gives.drop (Gives.drop (Gives.drop Gives.refl)))
        rfl
      · exact absurd hh h1
  · have hg : entGet s = ((ent0, ent0), 12) := by unfold entGet; rw [if_pos h64]
    rw [hg]
    refine Fn_enter Tryz.func196 rfl Tryz.ntmps196 rfl ?_
    refine R_seq ?_
    refine R_region ?_
    refine J_alloc rfl rfl ?_; intro
    refine J_assign rfl rfl rfl ?_
    refine J_nil ?_
    refine E_then ?_
    refine R_seq ?_
    refine R_region ?_
    refine J_alloc rfl rfl ?_; intro
    refine J_alloc rfl rfl ?_; intro
    refine J_nil ?_
    refine E_then ?_
    refine R_seq ?_
    refine R_seq ?_
    refine R_region ?_
    refine J_move rfl rfl rfl ?_
    refine J_len_str rfl rfl rfl ?_
    refine J_cmp rfl rfl rfl rfl rfl ?_
    refine J_nil3 ?_
    refine E_then ?_
    refine R_cond rfl (fun hh => ?_) (fun hh => ?_)
    simp only [decide_eq_true_eq, decide_eq_false_iff_not, Bool.and_eq_true, Bool.or_eq_true, Bool.not_eq_true', Bool.not_eq_false', beq_iff_eq, bne_iff_ne, beq_eq_false_iff_ne, bne_eq_false_iff_eq, ne_eq, ge_iff_le, gt_iff_lt, Int.not_le, Int.not_lt, Bool.and_eq_false_iff, Bool.or_eq_false_iff, Decidable.not_not] at hh
    refine R_seq ?_
    refine R_region ?_
    refine J_loadA rfl rfl rfl rfl ?_
    refine J_storeA rfl rfl rfl rfl rfl rfl ?_
    refine J_assign rfl rfl rfl ?_
    refine J_nil1 ?_
    refine E_then ?_
    refine R_ret ?_
    refine E_then_ret ?_
    rotate_left
    simp only [decide_eq_true_eq, decide_eq_false_iff_not, Bool.and_eq_true, Bool.or_eq_true, Bool.not_eq_true', Bool.not_eq_false', beq_iff_eq, bne_iff_ne, beq_eq_false_iff_ne, bne_eq_false_iff_eq, ne_eq, ge_iff_le, gt_iff_lt, Int.not_le, Int.not_lt, Bool.and_eq_false_iff, Bool.or_eq_false_iff, Decidable.not_not] at hh
    exfalso; omega
    all_goals first
      | (apply E_retP Tryz.results196
         · exact Res_cellA rfl rfl (Res.tmp rfl (Res.nil))
         · exact Gives.drop (Gives.drop (Gives.drop Gives.refl))
         rfl)
      | (exfalso; omega)
end Go.Proofs.Sol

/- A log over a disk: what it is. -/
namespace Go.Proofs.Sol
open Go Go.Proofs
set_option maxRecDepth 100000
set_option maxHeartbeats 4000000
set_option linter.unusedVariables false
set_option linter.unusedSimpArgs false
attribute [local irreducible] R J JW E D Fn Y clf mpI own Sat Exit.then Exit.inBlock bodyPost bodyPostM Code.wpIn wpL
/-- A log: its disk, place, state, what is over the disk, what is seen of the disk, how many calls at most. -/
structure Wl where
  d : Nat
  fr : Int
  many : Int
  gen : Int
  at_ : Int
  seq : Int
  used : Int
  act : Bool
  com : Bool
  K : List (Int × Bytes)
  Lo : List (Int × Bytes)
  V : List Bytes
  k : Nat
abbrev walH (b : Nat) (W : Wl) (p : Nat × Nat × Nat) : HP := cl b 153 [.pointer (some ⟨W.d, 0, none⟩), .pointer (some ⟨p.1, 0, none⟩), .pointer (some ⟨p.2.1, 0, none⟩), .int .i64 W.fr, .int .i64 W.many, .int .i64 W.gen, .int .i64 W.at_, .int .i64 W.seq, .int .i64 W.used, .bool W.act, .bool W.com, .pointer (some ⟨p.2.2, 0, none⟩)]
abbrev walL (b : Nat) (W : Wl) (p : Nat × Nat × Nat) : List HP := [walH b W p, reg p.1 W.d W.fr 2, reg p.2.1 W.d (W.fr + 2) (W.many - 2), shd p.2.2 W.K W.Lo, dvk W.d W.V W.k]
def wal (b : Nat) (W : Wl) : HP := exi fun p : Nat × Nat × Nat => stp (walL b W p)
instance (b : Nat) (W : Wl) : Up (wal b W) := inferInstanceAs (Up (exi _))
theorem open_wal {w : World} {b : Nat} {W : Wl} {L : List HP} (h : Sat w (wal b W :: L)) : ∃ p : Nat × Nat × Nat, Sat w (walL b W p ++ L) := by
  obtain ⟨p, h⟩ := h.exi
  exact ⟨p, h.open_⟩
theorem shut_wal {w : World} {b : Nat} {W : Wl} {p : Nat × Nat × Nat} {L : List HP} (h : Sat w (walL b W p ++ L)) : Sat w (wal b W :: L) :=
  (Sat.shut (M := walL b W p) h).conv fun _ e => ⟨p, e⟩
/-- Is a sector none of the log's? -/
def homeB (n : Nat) (fr many i : Int) : Bool := decide (0 ≤ i) && decide (i < n) && (decide (i < fr) || decide (many ≤ i - fr))
def Wl.home (W : Wl) (i : Int) : Bool := homeB W.V.length W.fr W.many i
/-- A log as it may be. -/
structure WlOk (W : Wl) : Prop where
  fr : 0 ≤ W.fr ∧ W.fr + W.many ≤ W.V.length
  n : W.V.length ≤ 1000
  many : 24 ≤ W.many ∧ W.many ≤ 200
  at_ : 0 ≤ W.at_ ∧ W.at_ < W.many - 2
  used : 0 ≤ W.used ∧ W.used ≤ W.many - 2
  gen : 0 ≤ W.gen ∧ W.gen < 100000000000
  seq : 0 ≤ W.seq ∧ W.seq < 100000000000
  lo : W.Lo.length ≤ 16
  loH : ∀ p ∈ W.Lo, W.home p.1 = true ∧ p.2.length = 64
  loN : (W.Lo.map (·.1)).Nodup
  kH : ∀ p ∈ W.K, W.home p.1 = true ∧ p.2.length = 64
  k : W.k < 900000000
def hasK (m : List (Int × Bytes)) (i : Int) : Bool := (mget m i).isSome
def Wl.stE (W : Wl) (i : Int) (s : Bytes) : Int := if W.act = false then 10 else if W.home i = false then 3 else if s.length ≠ 64 then 12 else if 16 ≤ W.Lo.length ∧ hasK W.Lo i = false then 6 else 0
def Wl.st (W : Wl) (i : Int) (s : Bytes) : Wl := if W.stE i s = 0 then { W with Lo := mput W.Lo i s } else W
def Wl.rd (W : Wl) (i : Int) : Bytes := match seen W.K W.Lo i with
  | some s => s
  | none => rdV W.V i
def Wl.rdE (W : Wl) (i : Int) : Int := match seen W.K W.Lo i with
  | some _ => 0
  | none => Sol.rdE W.V i
def Wl.room (W : Wl) : Int := W.many - 2 - W.used
end Go.Proofs.Sol

/- Plain: maps of places, and what is done to them. -/
namespace Go.Proofs.Sol
open Go Go.Proofs
theorem mput_mem {m : List (Int × Bytes)} {k : Int} {v : Bytes} {p : Int × Bytes} (h : p ∈ mput m k v) : p ∈ m ∨ p = (k, v) := by
  induction m with
  | nil => simp [mput] at h; exact .inr h
  | cons q m ih =>
    obtain ⟨j, u⟩ := q
    simp only [mput] at h
    by_cases e : j = k
    · subst e
      simp only [beq_self_eq_true, if_true, List.mem_cons] at h
      rcases h with h | h
      · exact .inr h
      · exact .inl (List.mem_cons_of_mem _ h)
    · have e' : (j == k) = false := by simpa using e
      simp only [e', if_false, Bool.false_eq_true, List.mem_cons] at h
      rcases h with h | h
      · exact .inl (h ▸ List.mem_cons_self)
      · rcases ih h with h' | h'
        · exact .inl (List.mem_cons_of_mem _ h')
        · exact .inr h'
theorem mget_cons {m : List (Int × Bytes)} {j k : Int} {u : Bytes} : mget ((j, u) :: m) k = if j = k then some u else mget m k := by
  unfold mget
  by_cases e : j = k
  · subst e; simp
  · have e' : (j == k) = false := by simpa using e
    simp [e', e]
theorem mget_none {m : List (Int × Bytes)} {k : Int} : mget m k = none ↔ k ∉ m.map (·.1) := by
  induction m with
  | nil => simp [mget]
  | cons q m ih =>
    obtain ⟨j, u⟩ := q
    rw [mget_cons]
    by_cases e : j = k
    · subst e; simp
    · rw [if_neg e, ih]
      simp only [List.map_cons, List.mem_cons, not_or]
      exact ⟨fun h => ⟨fun e' => e e'.symm, h⟩, fun h => h.2⟩
theorem mget_mem {m : List (Int × Bytes)} {k : Int} {v : Bytes} (h : mget m k = some v) : (k, v) ∈ m := by
  induction m with
  | nil => simp [mget] at h
  | cons q m ih =>
    obtain ⟨j, u⟩ := q
    rw [mget_cons] at h
    by_cases e : j = k
    · subst e; rw [if_pos rfl] at h; injection h with h; subst h; exact List.mem_cons_self
    · rw [if_neg e] at h; exact List.mem_cons_of_mem _ (ih h)
theorem mput_keys {m : List (Int × Bytes)} {k : Int} {v : Bytes} : (mput m k v).map (·.1) = if (mget m k).isSome then m.map (·.1) else m.map (·.1) ++ [k] := by
  induction m with
  | nil => simp [mput, mget]
  | cons q m ih =>
    obtain ⟨j, u⟩ := q
    rw [mget_cons]
    simp only [mput]
    by_cases e : j = k
    · subst e; simp
    · have e' : (j == k) = false := by simpa using e
      simp only [e', if_false, Bool.false_eq_true, List.map_cons, ih, if_neg e]
      split <;> simp
theorem mput_length {m : List (Int × Bytes)} {k : Int} {v : Bytes} : (mput m k v).length = if (mget m k).isSome then m.length else m.length + 1 := by
  have := congrArg List.length (mput_keys (m := m) (k := k) (v := v))
  simp only [List.length_map] at this
  rw [this]; split <;> simp
theorem mput_nodup {m : List (Int × Bytes)} {k : Int} {v : Bytes} (h : (m.map (·.1)).Nodup) : ((mput m k v).map (·.1)).Nodup := by
  rw [mput_keys]
  split
  · exact h
  · rename_i e
    have e' : mget m k = none := by simpa using e
    rw [List.nodup_append]
    refine ⟨h, by simp, ?_⟩
    intro x hx y hy
    simp at hy; subst hy
    exact fun e => mget_none.1 e' (e ▸ hx)
theorem told_mem {m : List (Int × Bytes)} {p : Int × Bytes} (h : p ∈ told m) : p ∈ m := by
  unfold told srt at h
  obtain ⟨k, hk, rfl⟩ := List.mem_map.1 h
  have hk' : k ∈ m.map (·.1) := (List.mergeSort_perm _ _).mem_iff.1 hk
  cases e : mget m k with
  | none => exact absurd hk' (mget_none.1 e)
  | some v => exact mget_mem e
theorem told_nodup {m : List (Int × Bytes)} (h : (m.map (·.1)).Nodup) : ((told m).map (·.1)).Nodup := by
  have e : (told m).map (·.1) = srt (m.map (·.1)) := by simp [told, Function.comp_def]
  rw [e]
  exact (List.mergeSort_perm _ _).nodup_iff.2 h
theorem foldPut_mem {l : List (Int × Bytes)} : ∀ {K : List (Int × Bytes)} {p : Int × Bytes}, p ∈ l.foldl (fun K p => mput K p.1 p.2) K → p ∈ K ∨ p ∈ l := by
  induction l with
  | nil => intro K p h; exact .inl h
  | cons q l ih =>
    intro K p h
    rcases ih h with h' | h'
    · rcases mput_mem h' with h2 | h2
      · exact .inl h2
      · exact .inr (h2 ▸ List.mem_cons_self)
    · exact .inr (List.mem_cons_of_mem _ h')
theorem keep_mem {K Lo : List (Int × Bytes)} {p : Int × Bytes} (h : p ∈ keep K Lo) : p ∈ K ∨ p ∈ Lo := by
  rcases foldPut_mem h with h | h
  · exact .inl h
  · exact .inr (told_mem h)
theorem keep_nil (K : List (Int × Bytes)) : keep K [] = K := by simp [keep, told, srt]
theorem foldPut_get {l : List (Int × Bytes)} (h : (l.map (·.1)).Nodup) : ∀ (K : List (Int × Bytes)) (i : Int), mget (l.foldl (fun K p => mput K p.1 p.2) K) i = (mget l i).or (mget K i) := by
  induction l with
  | nil => intro K i; simp [mget]
  | cons q l ih =>
    intro K i
    obtain ⟨j, u⟩ := q
    rw [List.map_cons, List.nodup_cons] at h
    rw [List.foldl_cons, ih h.2, mget_mput, mget_cons]
    by_cases e : j = i
    · subst e
      rw [if_pos rfl, if_pos rfl, mget_none.2 h.1]; rfl
    · rw [if_neg e, if_neg e]
theorem told_get {m : List (Int × Bytes)} (h : (m.map (·.1)).Nodup) (i : Int) : mget (told m) i = mget m i := by
  have hk : (told m).map (·.1) = srt (m.map (·.1)) := by simp [told, Function.comp_def]
  cases e : mget (told m) i with
  | none =>
    have h1 := mget_none.1 e
    rw [hk] at h1
    exact (mget_none.2 fun h2 => h1 ((List.mergeSort_perm _ _).mem_iff.2 h2)).symm
  | some v =>
    have h1 := mget_mem e
    unfold told at h1
    obtain ⟨k, hk', he⟩ := List.mem_map.1 h1
    injection he with e1 e2
    subst e1
    have h2 : k ∈ m.map (·.1) := (List.mergeSort_perm _ _).mem_iff.1 hk'
    cases e3 : mget m k with
    | none => exact absurd h2 (mget_none.1 e3)
    | some u => rw [e3] at e2; rw [← e2]; rfl
/-- All that is staged, kept: what is seen is the same. -/
theorem seen_keep {K Lo : List (Int × Bytes)} (h : (Lo.map (·.1)).Nodup) (i : Int) : seen (keep K Lo) [] i = seen K Lo i := by
  unfold seen keep
  rw [foldPut_get (told_nodup h), told_get h]
  simp [mget]
end Go.Proofs.Sol

/- Plain: sectors that follow one another, staged and read. -/
namespace Go.Proofs.Sol
open Go Go.Proofs
def Wl.saveE : Wl → Int → List Bytes → Int
  | _, _, [] => 0
  | W, a, s :: l => if W.stE a s = 0 then (W.st a s).saveE (a + 1) l else W.stE a s
def Wl.save : Wl → Int → List Bytes → Wl
  | W, _, [] => W
  | W, a, s :: l => if W.stE a s = 0 then (W.st a s).save (a + 1) l else W
def Wl.ldE (W : Wl) : Int → Nat → Int
  | _, 0 => 0
  | a, n + 1 => if W.rdE a = 0 then W.ldE (a + 1) n else W.rdE a
def Wl.ld (W : Wl) : Int → Nat → Bytes
  | _, 0 => []
  | a, n + 1 => W.rd a ++ W.ld (a + 1) n
theorem st_eq {W : Wl} {a : Int} {s : Bytes} (h : W.stE a s = 0) : W.st a s = { W with Lo := mput W.Lo a s } := by unfold Wl.st; rw [if_pos h]
theorem stE_spec {W : Wl} {a : Int} {s : Bytes} (h : W.stE a s = 0) : W.act = true ∧ W.home a = true ∧ s.length = 64 ∧ (W.Lo.length < 16 ∨ hasK W.Lo a = true) := by
  unfold Wl.stE at h
  split at h
  · cases h
  split at h
  · cases h
  split at h
  · cases h
  split at h
  · cases h
  rename_i h1 h2 h3 h4
  refine ⟨by simpa using h1, by simpa using h2, by omega, ?_⟩
  by_cases h5 : 16 ≤ W.Lo.length
  · right
    simpa using fun e => h4 ⟨h5, e⟩
  · left; omega
theorem st_ok {W : Wl} (ok : WlOk W) (a : Int) (s : Bytes) : WlOk (W.st a s) := by
  by_cases h : W.stE a s = 0
  · rw [st_eq h]
    obtain ⟨h1, h2, h3, h4⟩ := stE_spec h
    refine ⟨ok.fr, ok.n, ok.many, ok.at_, ok.used, ok.gen, ok.seq, ?_, ?_, mput_nodup ok.loN, ok.kH, ok.k⟩
    · show (mput W.Lo a s).length ≤ 16
      have := ok.lo
      rw [mput_length]
      split
      · exact this
      · rename_i h5
        rcases h4 with h4 | h4
        · omega
        · exact absurd h4 h5
    · intro p hp
      rcases mput_mem hp with h5 | h5
      · exact ok.loH p h5
      · subst h5; exact ⟨h2, h3⟩
  · unfold Wl.st; rw [if_neg h]; exact ok
theorem save_same (l : List Bytes) : ∀ (W : Wl) (a : Int), (W.save a l).d = W.d ∧ (W.save a l).fr = W.fr ∧ (W.save a l).many = W.many ∧ (W.save a l).V = W.V ∧ (W.save a l).act = W.act ∧ (W.save a l).K = W.K ∧ (W.save a l).used = W.used ∧ (W.save a l).k = W.k := by
  induction l with
  | nil => intro W a; exact ⟨rfl, rfl, rfl, rfl, rfl, rfl, rfl, rfl⟩
  | cons s l ih =>
    intro W a
    unfold Wl.save
    split
    · rename_i h
      have := ih (W.st a s) (a + 1)
      rw [st_eq h] at this ⊢
      exact this
    · exact ⟨rfl, rfl, rfl, rfl, rfl, rfl, rfl, rfl⟩
theorem save_ok (l : List Bytes) : ∀ {W : Wl} (_ : WlOk W) (a : Int), WlOk (W.save a l) := by
  induction l with
  | nil => intro W ok a; exact ok
  | cons s l ih =>
    intro W ok a
    unfold Wl.save
    split
    · exact ih (st_ok ok a s) _
    · exact ok
theorem save_get (l : List Bytes) : ∀ {W : Wl} {a : Int}, W.saveE a l = 0 → ∀ j : Int, mget (W.save a l).Lo j = if a ≤ j ∧ j < a + l.length then l[(j - a).toNat]? else mget W.Lo j := by
  induction l with
  | nil => intro W a h j; rw [if_neg (by simp only [List.length_nil]; omega)]; rfl
  | cons s l ih =>
    intro W a h j
    unfold Wl.saveE at h
    split at h
    · rename_i h1
      unfold Wl.save
      rw [if_pos h1, ih h j]
      by_cases h2 : a + 1 ≤ j ∧ j < a + 1 + l.length
      · rw [if_pos h2, if_pos (by simp; omega)]
        have e : (j - a).toNat = (j - (a + 1)).toNat + 1 := by omega
        rw [e]; rfl
      · rw [if_neg h2, st_eq h1]
        show mget (mput W.Lo a s) j = _
        rw [mget_mput]
        by_cases h3 : a = j
        · subst h3
          rw [if_pos rfl, if_pos (by simp; omega)]
          simp
        · rw [if_neg h3, if_neg (by simp only [List.length_cons]; omega)]
    · rename_i h1; exact absurd h h1
theorem save_home (l : List Bytes) : ∀ {W : Wl} {a : Int}, W.saveE a l = 0 → ∀ i : Nat, i < l.length → W.home (a + i) = true := by
  induction l with
  | nil => intro W a h i hi; simp at hi
  | cons s l ih =>
    intro W a h i hi
    unfold Wl.saveE at h
    split at h
    · rename_i h1
      cases i with
      | zero => simpa using (stE_spec h1).2.1
      | succ i =>
        have h2 := ih h i (by simpa using hi)
        rw [st_eq h1] at h2
        have e : a + 1 + (i : Int) = a + ((i + 1 : Nat) : Int) := by omega
        rw [e] at h2
        exact h2
    · rename_i h1; exact absurd h h1
/-- All may be staged. -/
theorem saveE_of (l : List Bytes) : ∀ {W : Wl} {a : Int}, W.act = true → (∀ i : Nat, i < l.length → W.home (a + i) = true) → (∀ s ∈ l, s.length = 64) → W.Lo.length + l.length ≤ 16 → W.saveE a l = 0 := by
  induction l with
  | nil => intro W a _ _ _ _; rfl
  | cons s l ih =>
    intro W a h1 h2 h3 h4
    have h5 : W.stE a s = 0 := by
      have e1 := h2 0 (by simp)
      simp at e1
      have e2 := h3 s (by simp)
      simp at h4
      unfold Wl.stE
      rw [h1, e1, if_neg (by simp), if_neg (by simp), if_neg (by omega), if_neg (by omega)]
    unfold Wl.saveE
    rw [if_pos h5]
    refine ih ?_ ?_ (fun t ht => h3 t (List.mem_cons_of_mem _ ht)) ?_
    · rw [st_eq h5]; exact h1
    · intro i hi
      have := h2 (i + 1) (by simpa using hi)
      rw [st_eq h5]
      have e : a + 1 + (i : Int) = a + ((i + 1 : Nat) : Int) := by omega
      rw [e]; exact this
    · rw [st_eq h5]
      show (mput W.Lo a s).length + l.length ≤ 16
      rw [mput_length]
      simp at h4
      split <;> omega
theorem rd_of {W : Wl} {i : Int} {s : Bytes} (h : mget W.Lo i = some s) : W.rd i = s ∧ W.rdE i = 0 := by
  unfold Wl.rd Wl.rdE seen
  rw [h]
  exact ⟨rfl, rfl⟩
theorem ld_of (l : List Bytes) : ∀ {W : Wl} {a : Int}, (∀ i : Nat, i < l.length → W.rd (a + i) = l.getD i [] ∧ W.rdE (a + i) = 0) → W.ld a l.length = l.flatten ∧ W.ldE a l.length = 0 := by
  induction l with
  | nil => intro W a _; exact ⟨rfl, rfl⟩
  | cons s l ih =>
    intro W a h
    have h0 := h 0 (by simp)
    simp at h0
    have h1 := ih (W := W) (a := a + 1) (fun i hi => by
      have := h (i + 1) (by simpa using hi)
      have e : a + ((i + 1 : Nat) : Int) = a + 1 + (i : Int) := by omega
      rw [e] at this
      simpa using this)
    simp only [List.length_cons, Wl.ld, Wl.ldE, List.flatten_cons]
    rw [h0.1, h0.2, h1.1, h1.2]
    exact ⟨rfl, rfl⟩
theorem ld_save {W : Wl} {a : Int} {l : List Bytes} (h : W.saveE a l = 0) : (W.save a l).ld a l.length = l.flatten ∧ (W.save a l).ldE a l.length = 0 := by
  refine ld_of l fun i hi => ?_
  have := save_get l h (a + i)
  rw [if_pos (by omega)] at this
  have e : (a + (i : Int) - a).toNat = i := by omega
  rw [e, List.getElem?_eq_getElem hi] at this
  have h2 := rd_of this
  rw [List.getD_eq_getElem?_getD, List.getElem?_eq_getElem hi]
  exact h2
/-- Bytes, as sectors. -/
def chunks (s : Bytes) (n : Nat) : List Bytes := (List.range n).map fun i => (s.drop (64 * i)).take 64
theorem chunks_length (s : Bytes) (n : Nat) : (chunks s n).length = n := by simp [chunks]
theorem chunks_flatten (s : Bytes) (n : Nat) (h : s.length = 64 * n) : (chunks s n).flatten = s := by
  have key : ∀ m, m ≤ n → ((List.range m).map fun i => (s.drop (64 * i)).take 64).flatten = s.take (64 * m) := by
    intro m
    induction m with
    | zero => intro _; simp
    | succ m ih =>
      intro hm
      rw [List.range_succ, List.map_append, List.flatten_append, ih (by omega)]
      simp only [List.map_cons, List.map_nil, List.flatten_cons, List.flatten_nil, List.append_nil]
      rw [Nat.mul_succ, List.take_add]
  unfold chunks
  rw [key n (Nat.le_refl _), ← h, List.take_length]
theorem chunks_64 (s : Bytes) (n : Nat) (h : s.length = 64 * n) : ∀ t ∈ chunks s n, t.length = 64 := by
  intro t ht
  obtain ⟨i, hi, rfl⟩ := List.mem_map.1 ht
  rw [List.mem_range] at hi
  simp; omega
end Go.Proofs.Sol

/- A log over a disk: begin, look, stage, read. -/
namespace Go.Proofs.Sol
open Go Go.Proofs
set_option maxRecDepth 100000
set_option maxHeartbeats 4000000
set_option linter.unusedVariables false
set_option linter.unusedSimpArgs false
attribute [local irreducible] R J JW E D Fn Y clf mpI own Sat Exit.then Exit.inBlock bodyPost bodyPostM Code.wpIn wpL
theorem wal_ActiveH (b : Nat) (W : Wl) (p : Nat × Nat × Nat) (F : List HP) : Fn Tryz.prog 33 [.pointer (some ⟨b, 0, none⟩)] (walH b W p :: F) (Pst (.bool W.act) (walH b W p :: F)) := by
  refine Fn_enter Tryz.func33 rfl Tryz.ntmps33 rfl ?_
  refine R_seq ?_
  refine R_region ?_
  refine J_assign rfl rfl rfl ?_
  refine J_nil ?_
  refine E_then ?_
  refine R_seq ?_
  refine R_region ?_
  refine J_move rfl rfl rfl ?_
  refine J_ptr_nil rfl rfl rfl rfl ?_
  refine J_move rfl rfl rfl ?_
  refine J_guard rfl rfl rfl ?_
  refine J_move rfl rfl rfl ?_
  refine J_guard rfl rfl rfl ?_
  refine J_nilCheck rfl rfl rfl ?_
  refine J_guard rfl rfl rfl ?_
  refine J_fieldAddr0 rfl rfl rfl ?_
  refine J_guard rfl rfl rfl ?_
  refine J_load rfl rfl rfl rfl ?_
  refine J_pick_true rfl rfl rfl rfl ?_
  refine J_assign rfl rfl rfl ?_
  refine J_nil3 ?_
  refine E_then ?_
  refine R_ret ?_
  apply E_retP Tryz.results33
  · exact Res.tmp rfl (Res.nil)
  · exact Gives.refl
  rfl
theorem wal_Active (b : Nat) (W : Wl) (F : List HP) : Fn Tryz.prog 33 [.pointer (some ⟨b, 0, none⟩)] (wal b W :: F) (Pst (.bool W.act) (wal b W :: F)) := by
  refine Fn.open_ (fun w h => open_wal h) ?_
  rintro p
  dsimp only [walL, List.cons_append, List.nil_append]
  refine (wal_ActiveH b W p _).mono Gives.refl ?_
  rintro v w ⟨h1, h2⟩
  exact ⟨h1, shut_wal h2⟩
theorem wal_Active0 (F : List HP) : Fn Tryz.prog 33 [.pointer none] F (Pst (.bool false) F) := by
  refine Fn_enter Tryz.func33 rfl Tryz.ntmps33 rfl ?_
  refine R_seq ?_
  refine R_region ?_
  refine J_assign rfl rfl rfl ?_
  refine J_nil ?_
  refine E_then ?_
  refine R_seq ?_
  refine R_region ?_
  refine J_move rfl rfl rfl ?_
  refine J_ptr_nil rfl rfl rfl rfl ?_
  refine J_move rfl rfl rfl ?_
  refine J_guard_not rfl rfl rfl rfl rfl rfl ?_
  refine J_guard_not rfl rfl rfl rfl rfl rfl ?_
  refine J_guard_not rfl rfl rfl rfl rfl rfl ?_
  refine J_guard_not rfl rfl rfl rfl rfl rfl ?_
  refine J_pick_false rfl rfl rfl rfl ?_
  refine J_assign rfl rfl rfl ?_
  refine J_nil3 ?_
  refine E_then ?_
  refine R_ret ?_
  apply E_retP Tryz.results33
  · exact Res.tmp rfl (Res.nil)
  · exact Gives.refl
  rfl
theorem wal_Begin (b : Nat) (W : Wl) (F : List HP) : Fn Tryz.prog 23 [.pointer (some ⟨b, 0, none⟩)] (wal b W :: F) (Pst (.int .i64 (if W.act then 10 else 0)) (wal b { W with act := true } :: F)) := by
  refine Fn.open_ (fun w h => open_wal h) ?_
  rintro p
  dsimp only [walL, List.cons_append, List.nil_append]
  obtain ⟨d, fr, many, gen, at_, seq, used, act, com, K, Lo, V, k⟩ := W
  cases act
  · dsimp only
    refine Fn_enter Tryz.func23 rfl Tryz.ntmps23 rfl ?_
    refine R_seq ?_
    refine R_region ?_
    refine J_assign rfl rfl rfl ?_
    refine J_nil ?_
    refine E_then ?_
    refine R_seq ?_
    refine R_seq ?_
    refine R_region ?_
    refine J_move rfl rfl rfl ?_
    refine J_ptr_nil rfl rfl rfl rfl ?_
    refine J_move rfl rfl rfl ?_
    refine J_guard rfl rfl rfl ?_
    refine J_move rfl rfl rfl ?_
    refine J_guard rfl rfl rfl ?_
    refine J_nilCheck rfl rfl rfl ?_
    refine J_guard rfl rfl rfl ?_
    refine J_fieldAddr0 rfl rfl rfl ?_
    refine J_guard rfl rfl rfl ?_
    refine J_load rfl rfl rfl rfl ?_
    refine J_pick_false rfl rfl rfl rfl ?_
    refine J_nil3 ?_
    refine E_then ?_
    refine R_cond_false rfl ?_
    refine R_skip ?_
    refine E_then ?_
    refine R_seq ?_
    refine R_region ?_
    refine J_move rfl rfl rfl ?_
    refine J_nilCheck rfl rfl rfl ?_
    refine J_fieldAddr0 rfl rfl rfl ?_
    refine J_store rfl rfl rfl rfl ?_
    refine J_nil3 ?_
    refine E_then ?_
    refine R_seq ?_
    refine R_region ?_
    refine J_assign rfl rfl rfl ?_
    refine J_nil ?_
    refine E_then ?_
    refine R_ret ?_
    apply E_ret Tryz.results23
    · exact Res.tmp rfl (Res.nil)
    · intro w s
      exact ⟨rfl, shut_wal s⟩
  · dsimp only
    refine Fn_enter Tryz.func23 rfl Tryz.ntmps23 rfl ?_
    refine R_seq ?_
    refine R_region ?_
    refine J_assign rfl rfl rfl ?_
    refine J_nil ?_
    refine E_then ?_
    refine R_seq ?_
    refine R_seq ?_
    refine R_region ?_
    refine J_move rfl rfl rfl ?_
    refine J_ptr_nil rfl rfl rfl rfl ?_
    refine J_move rfl rfl rfl ?_
    refine J_guard rfl rfl rfl ?_
    refine J_move rfl rfl rfl ?_
    refine J_guard rfl rfl rfl ?_
    refine J_nilCheck rfl rfl rfl ?_
    refine J_guard rfl rfl rfl ?_
    refine J_fieldAddr0 rfl rfl rfl ?_
    refine J_guard rfl rfl rfl ?_
    refine J_load rfl rfl rfl rfl ?_
    refine J_pick_false rfl rfl rfl rfl ?_
    refine J_nil3 ?_
    refine E_then ?_
    refine R_cond_true rfl ?_
    refine R_seq ?_
    refine R_region ?_
    refine J_assign rfl rfl rfl ?_
    refine J_nil ?_
    refine E_then ?_
    refine R_ret ?_
    refine E_then_ret ?_
    apply E_ret Tryz.results23
    · exact Res.tmp rfl (Res.nil)
    · intro w s
      exact ⟨rfl, shut_wal s⟩
theorem wal_homeH (b : Nat) (W : Wl) (p : Nat × Nat × Nat) (i : Int) (h1 : 0 ≤ W.fr ∧ W.fr ≤ 1000) (h2 : W.V.length ≤ 1000) (F : List HP) : Fn Tryz.prog 97 [.pointer (some ⟨b, 0, none⟩), .int .i64 i] (walH b W p :: dvk W.d W.V W.k :: F) (Pst (.bool (W.home i)) (walH b W p :: dvk W.d W.V W.k :: F)) := by
  unfold Wl.home homeB
  refine Fn_enter Tryz.func97 rfl Tryz.ntmps97 rfl ?_
  refine R_seq ?_
  refine R_region ?_
  refine J_assign rfl rfl rfl ?_
  refine J_nil ?_
  refine E_then ?_
  refine R_seq ?_
  by_cases c1 : 0 ≤ i
  · by_cases c2 : i < W.V.length
    · by_cases c3 : i < W.fr
      · skip
        refine R_draw ([walH b W p]) [32] (by kernel_rfl) ?_
        (refine D_lookP (i := 0) rfl (by kernel_rfl) (by exact NP_then NP_body) (by exact Y_move rfl) rfl rfl ?_)
        (refine D_lookP (i := 1) rfl (by kernel_rfl) (by exact NP_then NP_body) (by exact Y_cmpT rfl rfl rfl (by first | rfl | (simp only [decide_eq_true_eq, ge_iff_le, gt_iff_lt, beq_iff_eq, bne_iff_ne, ne_eq]; first | done | omega))) rfl rfl ?_)
        (refine D_lookP (i := 2) rfl (by kernel_rfl) (by exact NP_then NP_body) (by exact Y_move rfl) rfl rfl ?_)
        (first | refine D_lookGP (i := 3) rfl (by kernel_rfl) (by exact NP_then NP_body) rfl rfl rfl (by exact Y_move rfl) rfl rfl ?_ | refine D_skipP (i := 3) rfl (by kernel_rfl) (by skip) rfl rfl rfl rfl rfl rfl ?_ | refine D_skipUP (i := 3) rfl (by kernel_rfl) (by skip) rfl rfl rfl rfl rfl ?_)
        (first | refine D_lookGP (i := 4) rfl (by kernel_rfl) (by exact NP_then NP_body) rfl rfl rfl (by exact Y_move rfl) rfl rfl ?_ | refine D_skipP (i := 4) rfl (by kernel_rfl) (by skip) rfl rfl rfl rfl rfl rfl ?_ | refine D_skipUP (i := 4) rfl (by kernel_rfl) (by skip) rfl rfl rfl rfl rfl ?_)
        (first | refine D_lookGP (i := 5) rfl (by kernel_rfl) (by exact NP_then NP_body) rfl rfl rfl (by exact Y_nilCheck rfl) rfl rfl ?_ | refine D_skipP (i := 5) rfl (by kernel_rfl) (by skip) rfl rfl rfl rfl rfl rfl ?_ | refine D_skipUP (i := 5) rfl (by kernel_rfl) (by skip) rfl rfl rfl rfl rfl ?_)
        (first | refine D_lookGP (i := 6) rfl (by kernel_rfl) (by exact NP_then NP_body) rfl rfl rfl (by exact Y_fieldAddr0 rfl) rfl rfl ?_ | refine D_skipP (i := 6) rfl (by kernel_rfl) (by skip) rfl rfl rfl rfl rfl rfl ?_ | refine D_skipUP (i := 6) rfl (by kernel_rfl) (by skip) rfl rfl rfl rfl rfl ?_)
        (first | refine D_lookG (i := 7) rfl (by kernel_rfl) (by exact NP_then NP_body) (by exact Gives.cons Take.here Gives.nil) rfl rfl rfl (by exact Y_load rfl rfl) rfl rfl ?_ | refine D_skipP (i := 7) rfl (by kernel_rfl) (by skip) rfl rfl rfl rfl rfl rfl ?_ | refine D_skipUP (i := 7) rfl (by kernel_rfl) (by skip) rfl rfl rfl rfl rfl ?_)
        refine D_try1 (i := 8) (by kernel_rfl) rfl ?_
        refine J_guard rfl rfl rfl ?_
        refine J_callr rfl (diskv_Sectors W.d W.V W.k _) (by exact Gives.last (Take.next Take.here)) rfl rfl ?_
        refine D_next (by exact Gives.cons (Take.next Take.here) Gives.nil) ?_
        (first | refine D_lookGP (i := 9) rfl (by kernel_rfl) (by exact NP_then NP_body) rfl rfl rfl (by exact Y_cmpT rfl rfl rfl (by first | rfl | (simp only [decide_eq_true_eq, ge_iff_le, gt_iff_lt, beq_iff_eq, bne_iff_ne, ne_eq]; first | done | omega))) rfl rfl ?_ | refine D_skipP (i := 9) rfl (by kernel_rfl) (by skip) rfl rfl rfl rfl rfl rfl ?_ | refine D_skipUP (i := 9) rfl (by kernel_rfl) (by skip) rfl rfl rfl rfl rfl ?_)
        (refine D_lookP (i := 10) rfl (by kernel_rfl) (by exact NP_then NP_body) (by exact Y_pick_true rfl rfl) rfl rfl ?_)
        (refine D_lookP (i := 11) rfl (by kernel_rfl) (by exact NP_then NP_body) (by exact Y_move rfl) rfl rfl ?_)
        (first | refine D_lookGP (i := 12) rfl (by kernel_rfl) (by exact NP_then NP_body) rfl rfl rfl (by exact Y_move rfl) rfl rfl ?_ | refine D_skipP (i := 12) rfl (by kernel_rfl) (by skip) rfl rfl rfl rfl rfl rfl ?_ | refine D_skipUP (i := 12) rfl (by kernel_rfl) (by skip) rfl rfl rfl rfl rfl ?_)
        (first | refine D_lookGP (i := 13) rfl (by kernel_rfl) (by exact NP_then NP_body) rfl rfl rfl (by exact Y_move rfl) rfl rfl ?_ | refine D_skipP (i := 13) rfl (by kernel_rfl) (by skip) rfl rfl rfl rfl rfl rfl ?_ | refine D_skipUP (i := 13) rfl (by kernel_rfl) (by skip) rfl rfl rfl rfl rfl ?_)
        (first | refine D_lookGP (i := 14) rfl (by kernel_rfl) (by exact NP_then NP_body) rfl rfl rfl (by exact Y_nilCheck rfl) rfl rfl ?_ | refine D_skipP (i := 14) rfl (by kernel_rfl) (by skip) rfl rfl rfl rfl rfl rfl ?_ | refine D_skipUP (i := 14) rfl (by kernel_rfl) (by skip) rfl rfl rfl rfl rfl ?_)
        (first | refine D_lookGP (i := 15) rfl (by kernel_rfl) (by exact NP_then NP_body) rfl rfl rfl (by exact Y_fieldAddr0 rfl) rfl rfl ?_ | refine D_skipP (i := 15) rfl (by kernel_rfl) (by skip) rfl rfl rfl rfl rfl rfl ?_ | refine D_skipUP (i := 15) rfl (by kernel_rfl) (by skip) rfl rfl rfl rfl rfl ?_)
        (first | refine D_lookG (i := 16) rfl (by kernel_rfl) (by exact NP_then NP_body) (by exact Gives.cons (Take.next Take.here) Gives.nil) rfl rfl rfl (by exact Y_load rfl rfl) rfl rfl ?_ | refine D_skipP (i := 16) rfl (by kernel_rfl) (by skip) rfl rfl rfl rfl rfl rfl ?_ | refine D_skipUP (i := 16) rfl (by kernel_rfl) (by skip) rfl rfl rfl rfl rfl ?_)
        (first | refine D_lookGP (i := 17) rfl (by kernel_rfl) (by exact NP_then NP_body) rfl rfl rfl (by exact Y_cmpT rfl rfl rfl (by first | rfl | (simp only [decide_eq_true_eq, ge_iff_le, gt_iff_lt, beq_iff_eq, bne_iff_ne, ne_eq]; first | done | omega))) rfl rfl ?_ | refine D_skipP (i := 17) rfl (by kernel_rfl) (by skip) rfl rfl rfl rfl rfl rfl ?_ | refine D_skipUP (i := 17) rfl (by kernel_rfl) (by skip) rfl rfl rfl rfl rfl ?_)
        (first | refine D_lookGP (i := 18) rfl (by kernel_rfl) (by exact NP_then NP_body) rfl rfl rfl (by exact Y_move rfl) rfl rfl ?_ | refine D_skipP (i := 18) rfl (by kernel_rfl) (by skip) rfl rfl rfl rfl rfl rfl ?_ | refine D_skipUP (i := 18) rfl (by kernel_rfl) (by skip) rfl rfl rfl rfl rfl ?_)
        (first | refine D_lookGP (i := 19) rfl (by kernel_rfl) (by skip) rfl rfl rfl (by skip) rfl rfl ?_ | refine D_skipP (i := 19) rfl (by kernel_rfl) (by exact NP_then NP_body) rfl rfl rfl rfl rfl rfl ?_ | refine D_skipUP (i := 19) rfl (by kernel_rfl) (by skip) rfl rfl rfl rfl rfl ?_)
        (first | refine D_lookGP (i := 20) rfl (by kernel_rfl) (by skip) rfl rfl rfl (by skip) rfl rfl ?_ | refine D_skipP (i := 20) rfl (by kernel_rfl) (by exact NP_then NP_body) rfl rfl rfl rfl rfl rfl ?_ | refine D_skipUP (i := 20) rfl (by kernel_rfl) (by skip) rfl rfl rfl rfl rfl ?_)
        (first | refine D_lookGP (i := 21) rfl (by kernel_rfl) (by skip) rfl rfl rfl (by skip) rfl rfl ?_ | refine D_skipP (i := 21) rfl (by kernel_rfl) (by exact NP_then NP_body) rfl rfl rfl rfl rfl rfl ?_ | refine D_skipUP (i := 21) rfl (by kernel_rfl) (by skip) rfl rfl rfl rfl rfl ?_)
        (first | refine D_lookGP (i := 22) rfl (by kernel_rfl) (by skip) rfl rfl rfl (by skip) rfl rfl ?_ | refine D_skipP (i := 22) rfl (by kernel_rfl) (by exact NP_then NP_body) rfl rfl rfl rfl rfl rfl ?_ | refine D_skipUP (i := 22) rfl (by kernel_rfl) (by skip) rfl rfl rfl rfl rfl ?_)
        (first | refine D_lookG (i := 23) rfl (by kernel_rfl) (by skip) (by skip) rfl rfl rfl (by skip) rfl rfl ?_ | refine D_skipP (i := 23) rfl (by kernel_rfl) (by exact NP_then NP_body) rfl rfl rfl rfl rfl rfl ?_ | refine D_skipUP (i := 23) rfl (by kernel_rfl) (by skip) rfl rfl rfl rfl rfl ?_)
        (first | refine D_lookGP (i := 24) rfl (by kernel_rfl) (by skip) rfl rfl rfl (by skip) rfl rfl ?_ | refine D_skipP (i := 24) rfl (by kernel_rfl) (by exact NP_then NP_body) rfl rfl rfl rfl rfl rfl ?_ | refine D_skipUP (i := 24) rfl (by kernel_rfl) (by skip) rfl rfl rfl rfl rfl ?_)
        (first | refine D_lookGP (i := 25) rfl (by kernel_rfl) (by skip) rfl rfl rfl (by skip) rfl rfl ?_ | refine D_skipP (i := 25) rfl (by kernel_rfl) (by exact NP_then NP_body) rfl rfl rfl rfl rfl rfl ?_ | refine D_skipUP (i := 25) rfl (by kernel_rfl) (by skip) rfl rfl rfl rfl rfl ?_)
        (first | refine D_lookGP (i := 26) rfl (by kernel_rfl) (by skip) rfl rfl rfl (by skip) rfl rfl ?_ | refine D_skipP (i := 26) rfl (by kernel_rfl) (by exact NP_then NP_body) rfl rfl rfl rfl rfl rfl ?_ | refine D_skipUP (i := 26) rfl (by kernel_rfl) (by skip) rfl rfl rfl rfl rfl ?_)
        (first | refine D_lookGP (i := 27) rfl (by kernel_rfl) (by skip) rfl rfl rfl (by skip) rfl rfl ?_ | refine D_skipP (i := 27) rfl (by kernel_rfl) (by exact NP_then NP_body) rfl rfl rfl rfl rfl rfl ?_ | refine D_skipUP (i := 27) rfl (by kernel_rfl) (by skip) rfl rfl rfl rfl rfl ?_)
        (first | refine D_lookG (i := 28) rfl (by kernel_rfl) (by skip) (by skip) rfl rfl rfl (by skip) rfl rfl ?_ | refine D_skipP (i := 28) rfl (by kernel_rfl) (by exact NP_then NP_body) rfl rfl rfl rfl rfl rfl ?_ | refine D_skipUP (i := 28) rfl (by kernel_rfl) (by skip) rfl rfl rfl rfl rfl ?_)
        (first | refine D_lookGP (i := 29) rfl (by kernel_rfl) (by skip) rfl rfl rfl (by skip) rfl rfl ?_ | refine D_skipP (i := 29) rfl (by kernel_rfl) (by exact NP_then NP_body) rfl rfl rfl rfl rfl rfl ?_ | refine D_skipUP (i := 29) rfl (by kernel_rfl) (by skip) rfl rfl rfl rfl rfl ?_)
        (first | refine D_lookGP (i := 30) rfl (by kernel_rfl) (by exact NP_then NP_body) rfl rfl rfl (by exact Y_pick_true rfl rfl) rfl rfl ?_ | refine D_skipP (i := 30) rfl (by kernel_rfl) (by skip) rfl rfl rfl rfl rfl rfl ?_ | refine D_skipUP (i := 30) rfl (by kernel_rfl) (by skip) rfl rfl rfl rfl rfl ?_)
        (refine D_lookP (i := 31) rfl (by kernel_rfl) (by exact NP_then NP_body) (by exact Y_pick_true rfl rfl) rfl rfl ?_)
        refine D_try1 (i := 32) (by kernel_rfl) rfl ?_
        refine J_assign rfl rfl rfl ?_
        refine D_last (by kernel_rfl) ?_
        (first | refine D_end1 (by kernel_rfl) ?_ | refine D_end (by kernel_rfl) ?_)
        refine E_then ?_
        refine R_ret ?_
        apply E_retP Tryz.results97
        · exact Res.tmp rfl (Res.nil)
        · exact Gives.last (Take.next Take.here)
        simp [one, c1, c2, c3]
      · by_cases c4 : W.many ≤ i - W.fr
        · skip
          refine R_draw ([walH b W p]) [32] (by kernel_rfl) ?_
          (refine D_lookP (i := 0) rfl (by kernel_rfl) (by exact NP_then NP_body) (by exact Y_move rfl) rfl rfl ?_)
          (refine D_lookP (i := 1) rfl (by kernel_rfl) (by exact NP_then NP_body) (by exact Y_cmpT rfl rfl rfl (by first | rfl | (simp only [decide_eq_true_eq, ge_iff_le, gt_iff_lt, beq_iff_eq, bne_iff_ne, ne_eq]; first | done | omega))) rfl rfl ?_)
          (refine D_lookP (i := 2) rfl (by kernel_rfl) (by exact NP_then NP_body) (by exact Y_move rfl) rfl rfl ?_)
          (first | refine D_lookGP (i := 3) rfl (by kernel_rfl) (by exact NP_then NP_body) rfl rfl rfl (by exact Y_move rfl) rfl rfl ?_ | refine D_skipP (i := 3) rfl (by kernel_rfl) (by skip) rfl rfl rfl rfl rfl rfl ?_ | refine D_skipUP (i := 3) rfl (by kernel_rfl) (by skip) rfl rfl rfl rfl rfl ?_)
          (first | refine D_lookGP (i := 4) rfl (by kernel_rfl) (by exact NP_then NP_body) rfl rfl rfl (by exact Y_move rfl) rfl rfl ?_ | refine D_skipP (i := 4) rfl (by kernel_rfl) (by skip) rfl rfl rfl rfl rfl rfl ?_ | refine D_skipUP (i := 4) rfl (by kernel_rfl) (by skip) rfl rfl rfl rfl rfl ?_)
          (first | refine D_lookGP (i := 5) rfl (by kernel_rfl) (by exact NP_then NP_body) rfl rfl rfl (by exact Y_nilCheck rfl) rfl rfl ?_ | refine D_skipP (i := 5) rfl (by kernel_rfl) (by skip) rfl rfl rfl rfl rfl rfl ?_ | refine D_skipUP (i := 5) rfl (by kernel_rfl) (by skip) rfl rfl rfl rfl rfl ?_)
          (first | refine D_lookGP (i := 6) rfl (by kernel_rfl) (by exact NP_then NP_body) rfl rfl rfl (by exact Y_fieldAddr0 rfl) rfl rfl ?_ | refine D_skipP (i := 6) rfl (by kernel_rfl) (by skip) rfl rfl rfl rfl rfl rfl ?_ | refine D_skipUP (i := 6) rfl (by kernel_rfl) (by skip) rfl rfl rfl rfl rfl ?_)
          (first | refine D_lookG (i := 7) rfl (by kernel_rfl) (by exact NP_then NP_body) (by exact Gives.cons Take.here Gives.nil) rfl rfl rfl (by exact Y_load rfl rfl) rfl rfl ?_ | refine D_skipP (i := 7) rfl (by kernel_rfl) (by skip) rfl rfl rfl rfl rfl rfl ?_ | refine D_skipUP (i := 7) rfl (by kernel_rfl) (by skip) rfl rfl rfl rfl rfl ?_)
          refine D_try1 (i := 8) (by kernel_rfl) rfl ?_
          refine J_guard rfl rfl rfl ?_
          refine J_callr rfl (diskv_Sectors W.d W.V W.k _) (by exact Gives.last (Take.next Take.here)) rfl rfl ?_
          refine D_next (by exact Gives.cons (Take.next Take.here) Gives.nil) ?_
          (first | refine D_lookGP (i := 9) rfl (by kernel_rfl) (by exact NP_then NP_body) rfl rfl rfl (by exact Y_cmpT rfl rfl rfl (by first | rfl | (simp only [decide_eq_true_eq, ge_iff_le, gt_iff_lt, beq_iff_eq, bne_iff_ne, ne_eq]; first | done | omega))) rfl rfl ?_ | refine D_skipP (i := 9) rfl (by kernel_rfl) (by skip) rfl rfl rfl rfl rfl rfl ?_ | refine D_skipUP (i := 9) rfl (by kernel_rfl) (by skip) rfl rfl rfl rfl rfl ?_)
          (refine D_lookP (i := 10) rfl (by kernel_rfl) (by exact NP_then NP_body) (by exact Y_pick_true rfl rfl) rfl rfl ?_)
          (refine D_lookP (i := 11) rfl (by kernel_rfl) (by exact NP_then NP_body) (by exact Y_move rfl) rfl rfl ?_)
          (first | refine D_lookGP (i := 12) rfl (by kernel_rfl) (by exact NP_then NP_body) rfl rfl rfl (by exact Y_move rfl) rfl rfl ?_ | refine D_skipP (i := 12) rfl (by kernel_rfl) (by skip) rfl rfl rfl rfl rfl rfl ?_ | refine D_skipUP (i := 12) rfl (by kernel_rfl) (by skip) rfl rfl rfl rfl rfl ?_)
          (first | refine D_lookGP (i := 13) rfl (by kernel_rfl) (by exact NP_then NP_body) rfl rfl rfl (by exact Y_move rfl) rfl rfl ?_ | refine D_skipP (i := 13) rfl (by kernel_rfl) (by skip) rfl rfl rfl rfl rfl rfl ?_ | refine D_skipUP (i := 13) rfl (by kernel_rfl) (by skip) rfl rfl rfl rfl rfl ?_)
          (first | refine D_lookGP (i := 14) rfl (by kernel_rfl) (by exact NP_then NP_body) rfl rfl rfl (by exact Y_nilCheck rfl) rfl rfl ?_ | refine D_skipP (i := 14) rfl (by kernel_rfl) (by skip) rfl rfl rfl rfl rfl rfl ?_ | refine D_skipUP (i := 14) rfl (by kernel_rfl) (by skip) rfl rfl rfl rfl rfl ?_)
          (first | refine D_lookGP (i := 15) rfl (by kernel_rfl) (by exact NP_then NP_body) rfl rfl rfl (by exact Y_fieldAddr0 rfl) rfl rfl ?_ | refine D_skipP (i := 15) rfl (by kernel_rfl) (by skip) rfl rfl rfl rfl rfl rfl ?_ | refine D_skipUP (i := 15) rfl (by kernel_rfl) (by skip) rfl rfl rfl rfl rfl ?_)
          (first | refine D_lookG (i := 16) rfl (by kernel_rfl) (by exact NP_then NP_body) (by exact Gives.cons (Take.next Take.here) Gives.nil) rfl rfl rfl (by exact Y_load rfl rfl) rfl rfl ?_ | refine D_skipP (i := 16) rfl (by kernel_rfl) (by skip) rfl rfl rfl rfl rfl rfl ?_ | refine D_skipUP (i := 16) rfl (by kernel_rfl) (by skip) rfl rfl rfl rfl rfl ?_)
          (first | refine D_lookGP (i := 17) rfl (by kernel_rfl) (by exact NP_then NP_body) rfl rfl rfl (by exact Y_cmpF rfl rfl rfl (by first | rfl | (simp only [decide_eq_false_iff_not, ge_iff_le, gt_iff_lt, beq_eq_false_iff_ne, bne_eq_false_iff_eq, ne_eq]; first | done | omega))) rfl rfl ?_ | refine D_skipP (i := 17) rfl (by kernel_rfl) (by skip) rfl rfl rfl rfl rfl rfl ?_ | refine D_skipUP (i := 17) rfl (by kernel_rfl) (by skip) rfl rfl rfl rfl rfl ?_)
          (first | refine D_lookGP (i := 18) rfl (by kernel_rfl) (by exact NP_then NP_body) rfl rfl rfl (by exact Y_move rfl) rfl rfl ?_ | refine D_skipP (i := 18) rfl (by kernel_rfl) (by skip) rfl rfl rfl rfl rfl rfl ?_ | refine D_skipUP (i := 18) rfl (by kernel_rfl) (by skip) rfl rfl rfl rfl rfl ?_)
          (first | refine D_lookGP (i := 19) rfl (by kernel_rfl) (by exact NP_then NP_body) rfl rfl rfl (by exact Y_move rfl) rfl rfl ?_ | refine D_skipP (i := 19) rfl (by kernel_rfl) (by skip) rfl rfl rfl rfl rfl rfl ?_ | refine D_skipUP (i := 19) rfl (by kernel_rfl) (by skip) rfl rfl rfl rfl rfl ?_)
          (first | refine D_lookGP (i := 20) rfl (by kernel_rfl) (by exact NP_then NP_body) rfl rfl rfl (by exact Y_move rfl) rfl rfl ?_ | refine D_skipP (i := 20) rfl (by kernel_rfl) (by skip) rfl rfl rfl rfl rfl rfl ?_ | refine D_skipUP (i := 20) rfl (by kernel_rfl) (by skip) rfl rfl rfl rfl rfl ?_)
          (first | refine D_lookGP (i := 21) rfl (by kernel_rfl) (by exact NP_then NP_body) rfl rfl rfl (by exact Y_nilCheck rfl) rfl rfl ?_ | refine D_skipP (i := 21) rfl (by kernel_rfl) (by skip) rfl rfl rfl rfl rfl rfl ?_ | refine D_skipUP (i := 21) rfl (by kernel_rfl) (by skip) rfl rfl rfl rfl rfl ?_)
          (first | refine D_lookGP (i := 22) rfl (by kernel_rfl) (by exact NP_then NP_body) rfl rfl rfl (by exact Y_fieldAddr0 rfl) rfl rfl ?_ | refine D_skipP (i := 22) rfl (by kernel_rfl) (by skip) rfl rfl rfl rfl rfl rfl ?_ | refine D_skipUP (i := 22) rfl (by kernel_rfl) (by skip) rfl rfl rfl rfl rfl ?_)
          (first | refine D_lookG (i := 23) rfl (by kernel_rfl) (by exact NP_then NP_body) (by exact Gives.cons (Take.next Take.here) Gives.nil) rfl rfl rfl (by exact Y_load rfl rfl) rfl rfl ?_ | refine D_skipP (i := 23) rfl (by kernel_rfl) (by skip) rfl rfl rfl rfl rfl rfl ?_ | refine D_skipUP (i := 23) rfl (by kernel_rfl) (by skip) rfl rfl rfl rfl rfl ?_)
          (first | refine D_lookGP (i := 24) rfl (by kernel_rfl) (by exact NP_then NP_body) rfl rfl rfl (by exact Y_ari64 rfl rfl rfl (by omega)) rfl rfl ?_ | refine D_skipP (i := 24) rfl (by kernel_rfl) (by skip) rfl rfl rfl rfl rfl rfl ?_ | refine D_skipUP (i := 24) rfl (by kernel_rfl) (by skip) rfl rfl rfl rfl rfl ?_)
          (first | refine D_lookGP (i := 25) rfl (by kernel_rfl) (by exact NP_then NP_body) rfl rfl rfl (by exact Y_move rfl) rfl rfl ?_ | refine D_skipP (i := 25) rfl (by kernel_rfl) (by skip) rfl rfl rfl rfl rfl rfl ?_ | refine D_skipUP (i := 25) rfl (by kernel_rfl) (by skip) rfl rfl rfl rfl rfl ?_)
          (first | refine D_lookGP (i := 26) rfl (by kernel_rfl) (by exact NP_then NP_body) rfl rfl rfl (by exact Y_nilCheck rfl) rfl rfl ?_ | refine D_skipP (i := 26) rfl (by kernel_rfl) (by skip) rfl rfl rfl rfl rfl rfl ?_ | refine D_skipUP (i := 26) rfl (by kernel_rfl) (by skip) rfl rfl rfl rfl rfl ?_)
          (first | refine D_lookGP (i := 27) rfl (by kernel_rfl) (by exact NP_then NP_body) rfl rfl rfl (by exact Y_fieldAddr0 rfl) rfl rfl ?_ | refine D_skipP (i := 27) rfl (by kernel_rfl) (by skip) rfl rfl rfl rfl rfl rfl ?_ | refine D_skipUP (i := 27) rfl (by kernel_rfl) (by skip) rfl rfl rfl rfl rfl ?_)
          (first | refine D_lookG (i := 28) rfl (by kernel_rfl) (by exact NP_then NP_body) (by exact Gives.cons (Take.next Take.here) Gives.nil) rfl rfl rfl (by exact Y_load rfl rfl) rfl rfl ?_ | refine D_skipP (i := 28) rfl (by kernel_rfl) (by skip) rfl rfl rfl rfl rfl rfl ?_ | refine D_skipUP (i := 28) rfl (by kernel_rfl) (by skip) rfl rfl rfl rfl rfl ?_)
          (first | refine D_lookGP (i := 29) rfl (by kernel_rfl) (by exact NP_then NP_body) rfl rfl rfl (by exact Y_cmpT rfl rfl rfl (by first | rfl | (simp only [decide_eq_true_eq, ge_iff_le, gt_iff_lt, beq_iff_eq, bne_iff_ne, ne_eq]; first | done | omega))) rfl rfl ?_ | refine D_skipP (i := 29) rfl (by kernel_rfl) (by skip) rfl rfl rfl rfl rfl rfl ?_ | refine D_skipUP (i := 29) rfl (by kernel_rfl) (by skip) rfl rfl rfl rfl rfl ?_)
          (first | refine D_lookGP (i := 30) rfl (by kernel_rfl) (by exact NP_then NP_body) rfl rfl rfl (by exact Y_pick_false rfl rfl) rfl rfl ?_ | refine D_skipP (i := 30) rfl (by kernel_rfl) (by skip) rfl rfl rfl rfl rfl rfl ?_ | refine D_skipUP (i := 30) rfl (by kernel_rfl) (by skip) rfl rfl rfl rfl rfl ?_)
          (refine D_lookP (i := 31) rfl (by kernel_rfl) (by exact NP_then NP_body) (by exact Y_pick_true rfl rfl) rfl rfl ?_)
          refine D_try1 (i := 32) (by kernel_rfl) rfl ?_
          refine J_assign rfl rfl rfl ?_
          refine D_last (by kernel_rfl) ?_
          (first | refine D_end1 (by kernel_rfl) ?_ | refine D_end (by kernel_rfl) ?_)
          refine E_then ?_
          refine R_ret ?_
          apply E_retP Tryz.results97
          · exact Res.tmp rfl (Res.nil)
          · exact Gives.last (Take.next Take.here)
          simp [one, c1, c2, c3, c4]
        · skip
          refine R_draw ([walH b W p]) [32] (by kernel_rfl) ?_
          (refine D_lookP (i := 0) rfl (by kernel_rfl) (by exact NP_then NP_body) (by exact Y_move rfl) rfl rfl ?_)
          (refine D_lookP (i := 1) rfl (by kernel_rfl) (by exact NP_then NP_body) (by exact Y_cmpT rfl rfl rfl (by first | rfl | (simp only [decide_eq_true_eq, ge_iff_le, gt_iff_lt, beq_iff_eq, bne_iff_ne, ne_eq]; first | done | omega))) rfl rfl ?_)
          (refine D_lookP (i := 2) rfl (by kernel_rfl) (by exact NP_then NP_body) (by exact Y_move rfl) rfl rfl ?_)
          (first | refine D_lookGP (i := 3) rfl (by kernel_rfl) (by exact NP_then NP_body) rfl rfl rfl (by exact Y_move rfl) rfl rfl ?_ | refine D_skipP (i := 3) rfl (by kernel_rfl) (by skip) rfl rfl rfl rfl rfl rfl ?_ | refine D_skipUP (i := 3) rfl (by kernel_rfl) (by skip) rfl rfl rfl rfl rfl ?_)
          (first | refine D_lookGP (i := 4) rfl (by kernel_rfl) (by exact NP_then NP_body) rfl rfl rfl (by exact Y_move rfl) rfl rfl ?_ | refine D_skipP (i := 4) rfl (by kernel_rfl) (by skip) rfl rfl rfl rfl rfl rfl ?_ | refine D_skipUP (i := 4) rfl (by kernel_rfl) (by skip) rfl rfl rfl rfl rfl ?_)
          (first | refine D_lookGP (i := 5) rfl (by kernel_rfl) (by exact NP_then NP_body) rfl rfl rfl (by exact Y_nilCheck rfl) rfl rfl ?_ | refine D_skipP (i := 5) rfl (by kernel_rfl) (by skip) rfl rfl rfl rfl rfl rfl ?_ | refine D_skipUP (i := 5) rfl (by kernel_rfl) (by skip) rfl rfl rfl rfl rfl ?_)
          (first | refine D_lookGP (i := 6) rfl (by kernel_rfl) (by exact NP_then NP_body) rfl rfl rfl (by exact Y_fieldAddr0 rfl) rfl rfl ?_ | refine D_skipP (i := 6) rfl (by kernel_rfl) (by skip) rfl rfl rfl rfl rfl rfl ?_ | refine D_skipUP (i := 6) rfl (by kernel_rfl) (by skip) rfl rfl rfl rfl rfl ?_)
          (first | refine D_lookG (i := 7) rfl (by kernel_rfl) (by exact NP_then NP_body) (by exact Gives.cons Take.here Gives.nil) rfl rfl rfl (by exact Y_load rfl rfl) rfl rfl ?_ | refine D_skipP (i := 7) rfl (by kernel_rfl) (by skip) rfl rfl rfl rfl rfl rfl ?_ | refine D_skipUP (i := 7) rfl (by kernel_rfl) (by skip) rfl rfl rfl rfl rfl ?_)
          refine D_try1 (i := 8) (by kernel_rfl) rfl ?_
          refine J_guard rfl rfl rfl ?_
          refine J_callr rfl (diskv_Sectors W.d W.V W.k _) (by exact Gives.last (Take.next Take.here)) rfl rfl ?_
          refine D_next (by exact Gives.cons (Take.next Take.here) Gives.nil) ?_
          (first | refine D_lookGP (i := 9) rfl (by kernel_rfl) (by exact NP_then NP_body) rfl rfl rfl (by exact Y_cmpT rfl rfl rfl (by first | rfl | (simp only [decide_eq_true_eq, ge_iff_le, gt_iff_lt, beq_iff_eq, bne_iff_ne, ne_eq]; first | done | omega))) rfl rfl ?_ | refine D_skipP (i := 9) rfl (by kernel_rfl) (by skip) rfl rfl rfl rfl rfl rfl ?_ | refine D_skipUP (i := 9) rfl (by kernel_rfl) (by skip) rfl rfl rfl rfl rfl ?_)
          (refine D_lookP (i := 10) rfl (by kernel_rfl) (by exact NP_then NP_body) (by exact Y_pick_true rfl rfl) rfl rfl ?_)
          (refine D_lookP (i := 11) rfl (by kernel_rfl) (by exact NP_then NP_body) (by exact Y_move rfl) rfl rfl ?_)
          (first | refine D_lookGP (i := 12) rfl (by kernel_rfl) (by exact NP_then NP_body) rfl rfl rfl (by exact Y_move rfl) rfl rfl ?_ | refine D_skipP (i := 12) rfl (by kernel_rfl) (by skip) rfl rfl rfl rfl rfl rfl ?_ | refine D_skipUP (i := 12) rfl (by kernel_rfl) (by skip) rfl rfl rfl rfl rfl ?_)
          (first | refine D_lookGP (i := 13) rfl (by kernel_rfl) (by exact NP_then NP_body) rfl rfl rfl (by exact Y_move rfl) rfl rfl ?_ | refine D_skipP (i := 13) rfl (by kernel_rfl) (by skip) rfl rfl rfl rfl rfl rfl ?_ | refine D_skipUP (i := 13) rfl (by kernel_rfl) (by skip) rfl rfl rfl rfl rfl ?_)
          (first | refine D_lookGP (i := 14) rfl (by kernel_rfl) (by exact NP_then NP_body) rfl rfl rfl (by exact Y_nilCheck rfl) rfl rfl ?_ | refine D_skipP (i := 14) rfl (by kernel_rfl) (by skip) rfl rfl rfl rfl rfl rfl ?_ | refine D_skipUP (i := 14) rfl (by kernel_rfl) (by skip) rfl rfl rfl rfl rfl ?_)
          (first | refine D_lookGP (i := 15) rfl (by kernel_rfl) (by exact NP_then NP_body) rfl rfl rfl (by exact Y_fieldAddr0 rfl) rfl rfl ?_ | refine D_skipP (i := 15) rfl (by kernel_rfl) (by skip) rfl rfl rfl rfl rfl rfl ?_ | refine D_skipUP (i := 15) rfl (by kernel_rfl) (by skip) rfl rfl rfl rfl rfl ?_)
          (first | refine D_lookG (i := 16) rfl (by kernel_rfl) (by exact NP_then NP_body) (by exact Gives.cons (Take.next Take.here) Gives.nil) rfl rfl rfl (by exact Y_load rfl rfl) rfl rfl ?_ | refine D_skipP (i := 16) rfl (by kernel_rfl) (by skip) rfl rfl rfl rfl rfl rfl ?_ | refine D_skipUP (i := 16) rfl (by kernel_rfl) (by skip) rfl rfl rfl rfl rfl ?_)
          (first | refine D_lookGP (i := 17) rfl (by kernel_rfl) (by exact NP_then NP_body) rfl rfl rfl (by exact Y_cmpF rfl rfl rfl (by first | rfl | (simp only [decide_eq_false_iff_not, ge_iff_le, gt_iff_lt, beq_eq_false_iff_ne, bne_eq_false_iff_eq, ne_eq]; first | done | omega))) rfl rfl ?_ | refine D_skipP (i := 17) rfl (by kernel_rfl) (by skip) rfl rfl rfl rfl rfl rfl ?_ | refine D_skipUP (i := 17) rfl (by kernel_rfl) (by skip) rfl rfl rfl rfl rfl ?_)
          (first | refine D_lookGP (i := 18) rfl (by kernel_rfl) (by exact NP_then NP_body) rfl rfl rfl (by exact Y_move rfl) rfl rfl ?_ | refine D_skipP (i := 18) rfl (by kernel_rfl) (by skip) rfl rfl rfl rfl rfl rfl ?_ | refine D_skipUP (i := 18) rfl (by kernel_rfl) (by skip) rfl rfl rfl rfl rfl ?_)
          (first | refine D_lookGP (i := 19) rfl (by kernel_rfl) (by exact NP_then NP_body) rfl rfl rfl (by exact Y_move rfl) rfl rfl ?_ | refine D_skipP (i := 19) rfl (by kernel_rfl) (by skip) rfl rfl rfl rfl rfl rfl ?_ | refine D_skipUP (i := 19) rfl (by kernel_rfl) (by skip) rfl rfl rfl rfl rfl ?_)
          (first | refine D_lookGP (i := 20) rfl (by kernel_rfl) (by exact NP_then NP_body) rfl rfl rfl (by exact Y_move rfl) rfl rfl ?_ | refine D_skipP (i := 20) rfl (by kernel_rfl) (by skip) rfl rfl rfl rfl rfl rfl ?_ | refine D_skipUP (i := 20) rfl (by kernel_rfl) (by skip) rfl rfl rfl rfl rfl ?_)
          (first | refine D_lookGP (i := 21) rfl (by kernel_rfl) (by exact NP_then NP_body) rfl rfl rfl (by exact Y_nilCheck rfl) rfl rfl ?_ | refine D_skipP (i := 21) rfl (by kernel_rfl) (by skip) rfl rfl rfl rfl rfl rfl ?_ | refine D_skipUP (i := 21) rfl (by kernel_rfl) (by skip) rfl rfl rfl rfl rfl ?_)
          (first | refine D_lookGP (i := 22) rfl (by kernel_rfl) (by exact NP_then NP_body) rfl rfl rfl (by exact Y_fieldAddr0 rfl) rfl rfl ?_ | refine D_skipP (i := 22) rfl (by kernel_rfl) (by skip) rfl rfl rfl rfl rfl rfl ?_ | refine D_skipUP (i := 22) rfl (by kernel_rfl) (by skip) rfl rfl rfl rfl rfl ?_)
          (first | refine D_lookG (i := 23) rfl (by kernel_rfl) (by exact NP_then NP_body) (by exact Gives.cons (Take.next Take.here) Gives.nil) rfl rfl rfl (by exact Y_load rfl rfl) rfl rfl ?_ | refine D_skipP (i := 23) rfl (by kernel_rfl) (by skip) rfl rfl rfl rfl rfl rfl ?_ | refine D_skipUP (i := 23) rfl (by kernel_rfl) (by skip) rfl rfl rfl rfl rfl ?_)
          (first | refine D_lookGP (i := 24) rfl (by kernel_rfl) (by exact NP_then NP_body) rfl rfl rfl (by exact Y_ari64 rfl rfl rfl (by omega)) rfl rfl ?_ | refine D_skipP (i := 24) rfl (by kernel_rfl) (by skip) rfl rfl rfl rfl rfl rfl ?_ | refine D_skipUP (i := 24) rfl (by kernel_rfl) (by skip) rfl rfl rfl rfl rfl ?_)
          (first | refine D_lookGP (i := 25) rfl (by kernel_rfl) (by exact NP_then NP_body) rfl rfl rfl (by exact Y_move rfl) rfl rfl ?_ | refine D_skipP (i := 25) rfl (by kernel_rfl) (by skip) rfl rfl rfl rfl rfl rfl ?_ | refine D_skipUP (i := 25) rfl (by kernel_rfl) (by skip) rfl rfl rfl rfl rfl ?_)
          (first | refine D_lookGP (i := 26) rfl (by kernel_rfl) (by exact NP_then NP_body) rfl rfl rfl (by exact Y_nilCheck rfl) rfl rfl ?_ | refine D_skipP (i := 26) rfl (by kernel_rfl) (by skip) rfl rfl rfl rfl rfl rfl ?_ | refine D_skipUP (i := 26) rfl (by kernel_rfl) (by skip) rfl rfl rfl rfl rfl ?_)
          (first | refine D_lookGP (i := 27) rfl (by kernel_rfl) (by exact NP_then NP_body) rfl rfl rfl (by exact Y_fieldAddr0 rfl) rfl rfl ?_ | refine D_skipP (i := 27) rfl (by kernel_rfl) (by skip) rfl rfl rfl rfl rfl rfl ?_ | refine D_skipUP (i := 27) rfl (by kernel_rfl) (by skip) rfl rfl rfl rfl rfl ?_)
          (first | refine D_lookG (i := 28) rfl (by kernel_rfl) (by exact NP_then NP_body) (by exact Gives.cons (Take.next Take.here) Gives.nil) rfl rfl rfl (by exact Y_load rfl rfl) rfl rfl ?_ | refine D_skipP (i := 28) rfl (by kernel_rfl) (by skip) rfl rfl rfl rfl rfl rfl ?_ | refine D_skipUP (i := 28) rfl (by kernel_rfl) (by skip) rfl rfl rfl rfl rfl ?_)
          (first | refine D_lookGP (i := 29) rfl (by kernel_rfl) (by exact NP_then NP_body) rfl rfl rfl (by exact Y_cmpF rfl rfl rfl (by first | rfl | (simp only [decide_eq_false_iff_not, ge_iff_le, gt_iff_lt, beq_eq_false_iff_ne, bne_eq_false_iff_eq, ne_eq]; first | done | omega))) rfl rfl ?_ | refine D_skipP (i := 29) rfl (by kernel_rfl) (by skip) rfl rfl rfl rfl rfl rfl ?_ | refine D_skipUP (i := 29) rfl (by kernel_rfl) (by skip) rfl rfl rfl rfl rfl ?_)
          (first | refine D_lookGP (i := 30) rfl (by kernel_rfl) (by exact NP_then NP_body) rfl rfl rfl (by exact Y_pick_false rfl rfl) rfl rfl ?_ | refine D_skipP (i := 30) rfl (by kernel_rfl) (by skip) rfl rfl rfl rfl rfl rfl ?_ | refine D_skipUP (i := 30) rfl (by kernel_rfl) (by skip) rfl rfl rfl rfl rfl ?_)
          (refine D_lookP (i := 31) rfl (by kernel_rfl) (by exact NP_then NP_body) (by exact Y_pick_true rfl rfl) rfl rfl ?_)
          refine D_try1 (i := 32) (by kernel_rfl) rfl ?_
          refine J_assign rfl rfl rfl ?_
          refine D_last (by kernel_rfl) ?_
          (first | refine D_end1 (by kernel_rfl) ?_ | refine D_end (by kernel_rfl) ?_)
          refine E_then ?_
          refine R_ret ?_
          apply E_retP Tryz.results97
          · exact Res.tmp rfl (Res.nil)
          · exact Gives.last (Take.next Take.here)
          simp [one, c1, c2, c3, c4]
    · skip
      refine R_draw ([walH b W p]) [32] (by kernel_rfl) ?_
      (refine D_lookP (i := 0) rfl (by kernel_rfl) (by exact NP_then NP_body) (by exact Y_move rfl) rfl rfl ?_)
      (refine D_lookP (i := 1) rfl (by kernel_rfl) (by exact NP_then NP_body) (by exact Y_cmpT rfl rfl rfl (by first | rfl | (simp only [decide_eq_true_eq, ge_iff_le, gt_iff_lt, beq_iff_eq, bne_iff_ne, ne_eq]; first | done | omega))) rfl rfl ?_)
      (refine D_lookP (i := 2) rfl (by kernel_rfl) (by exact NP_then NP_body) (by exact Y_move rfl) rfl rfl ?_)
      (first | refine D_lookGP (i := 3) rfl (by kernel_rfl) (by exact NP_then NP_body) rfl rfl rfl (by exact Y_move rfl) rfl rfl ?_ | refine D_skipP (i := 3) rfl (by kernel_rfl) (by skip) rfl rfl rfl rfl rfl rfl ?_ | refine D_skipUP (i := 3) rfl (by kernel_rfl) (by skip) rfl rfl rfl rfl rfl ?_)
      (first | refine D_lookGP (i := 4) rfl (by kernel_rfl) (by exact NP_then NP_body) rfl rfl rfl (by exact Y_move rfl) rfl rfl ?_ | refine D_skipP (i := 4) rfl (by kernel_rfl) (by skip) rfl rfl rfl rfl rfl rfl ?_ | refine D_skipUP (i := 4) rfl (by kernel_rfl) (by skip) rfl rfl rfl rfl rfl ?_)
      (first | refine D_lookGP (i := 5) rfl (by kernel_rfl) (by exact NP_then NP_body) rfl rfl rfl (by exact Y_nilCheck rfl) rfl rfl ?_ | refine D_skipP (i := 5) rfl (by kernel_rfl) (by skip) rfl rfl rfl rfl rfl rfl ?_ | refine D_skipUP (i := 5) rfl (by kernel_rfl) (by skip) rfl rfl rfl rfl rfl ?_)
      (first | refine D_lookGP (i := 6) rfl (by kernel_rfl) (by exact NP_then NP_body) rfl rfl rfl (by exact Y_fieldAddr0 rfl) rfl rfl ?_ | refine D_skipP (i := 6) rfl (by kernel_rfl) (by skip) rfl rfl rfl rfl rfl rfl ?_ | refine D_skipUP (i := 6) rfl (by kernel_rfl) (by skip) rfl rfl rfl rfl rfl ?_)
      (first | refine D_lookG (i := 7) rfl (by kernel_rfl) (by exact NP_then NP_body) (by exact Gives.cons Take.here Gives.nil) rfl rfl rfl (by exact Y_load rfl rfl) rfl rfl ?_ | refine D_skipP (i := 7) rfl (by kernel_rfl) (by skip) rfl rfl rfl rfl rfl rfl ?_ | refine D_skipUP (i := 7) rfl (by kernel_rfl) (by skip) rfl rfl rfl rfl rfl ?_)
      refine D_try1 (i := 8) (by kernel_rfl) rfl ?_
      refine J_guard rfl rfl rfl ?_
      refine J_callr rfl (diskv_Sectors W.d W.V W.k _) (by exact Gives.last (Take.next Take.here)) rfl rfl ?_
      refine D_next (by exact Gives.cons (Take.next Take.here) Gives.nil) ?_
      (first | refine D_lookGP (i := 9) rfl (by kernel_rfl) (by exact NP_then NP_body) rfl rfl rfl (by exact Y_cmpF rfl rfl rfl (by first | rfl | (simp only [decide_eq_false_iff_not, ge_iff_le, gt_iff_lt, beq_eq_false_iff_ne, bne_eq_false_iff_eq, ne_eq]; first | done | omega))) rfl rfl ?_ | refine D_skipP (i := 9) rfl (by kernel_rfl) (by skip) rfl rfl rfl rfl rfl rfl ?_ | refine D_skipUP (i := 9) rfl (by kernel_rfl) (by skip) rfl rfl rfl rfl rfl ?_)
      (refine D_lookP (i := 10) rfl (by kernel_rfl) (by exact NP_then NP_body) (by exact Y_pick_true rfl rfl) rfl rfl ?_)
      (refine D_lookP (i := 11) rfl (by kernel_rfl) (by exact NP_then NP_body) (by exact Y_move rfl) rfl rfl ?_)
      (first | refine D_lookGP (i := 12) rfl (by kernel_rfl) (by skip) rfl rfl rfl (by skip) rfl rfl ?_ | refine D_skipP (i := 12) rfl (by kernel_rfl) (by exact NP_then NP_body) rfl rfl rfl rfl rfl rfl ?_ | refine D_skipUP (i := 12) rfl (by kernel_rfl) (by skip) rfl rfl rfl rfl rfl ?_)
      (first | refine D_lookGP (i := 13) rfl (by kernel_rfl) (by skip) rfl rfl rfl (by skip) rfl rfl ?_ | refine D_skipP (i := 13) rfl (by kernel_rfl) (by exact NP_then NP_body) rfl rfl rfl rfl rfl rfl ?_ | refine D_skipUP (i := 13) rfl (by kernel_rfl) (by skip) rfl rfl rfl rfl rfl ?_)
      (first | refine D_lookGP (i := 14) rfl (by kernel_rfl) (by skip) rfl rfl rfl (by skip) rfl rfl ?_ | refine D_skipP (i := 14) rfl (by kernel_rfl) (by exact NP_then NP_body) rfl rfl rfl rfl rfl rfl ?_ | refine D_skipUP (i := 14) rfl (by kernel_rfl) (by skip) rfl rfl rfl rfl rfl ?_)
      (first | refine D_lookGP (i := 15) rfl (by kernel_rfl) (by skip) rfl rfl rfl (by skip) rfl rfl ?_ | refine D_skipP (i := 15) rfl (by kernel_rfl) (by exact NP_then NP_body) rfl rfl rfl rfl rfl rfl ?_ | refine D_skipUP (i := 15) rfl (by kernel_rfl) (by skip) rfl rfl rfl rfl rfl ?_)
      (first | refine D_lookG (i := 16) rfl (by kernel_rfl) (by skip) (by skip) rfl rfl rfl (by skip) rfl rfl ?_ | refine D_skipP (i := 16) rfl (by kernel_rfl) (by exact NP_then NP_body) rfl rfl rfl rfl rfl rfl ?_ | refine D_skipUP (i := 16) rfl (by kernel_rfl) (by skip) rfl rfl rfl rfl rfl ?_)
      (first | refine D_lookGP (i := 17) rfl (by kernel_rfl) (by skip) rfl rfl rfl (by skip) rfl rfl ?_ | refine D_skipP (i := 17) rfl (by kernel_rfl) (by exact NP_then NP_body) rfl rfl rfl rfl rfl rfl ?_ | refine D_skipUP (i := 17) rfl (by kernel_rfl) (by skip) rfl rfl rfl rfl rfl ?_)
      (first | refine D_lookGP (i := 18) rfl (by kernel_rfl) (by skip) rfl rfl rfl (by skip) rfl rfl ?_ | refine D_skipP (i := 18) rfl (by kernel_rfl) (by exact NP_then NP_body) rfl rfl rfl rfl rfl rfl ?_ | refine D_skipUP (i := 18) rfl (by kernel_rfl) (by skip) rfl rfl rfl rfl rfl ?_)
      (first | refine D_lookGP (i := 19) rfl (by kernel_rfl) (by skip) rfl rfl rfl (by skip) rfl rfl ?_ | refine D_skipP (i := 19) rfl (by kernel_rfl) (by skip) rfl rfl rfl rfl rfl rfl ?_ | refine D_skipUP (i := 19) rfl (by kernel_rfl) (by exact NP_then NP_body) rfl rfl rfl rfl rfl ?_)
      (first | refine D_lookGP (i := 20) rfl (by kernel_rfl) (by skip) rfl rfl rfl (by skip) rfl rfl ?_ | refine D_skipP (i := 20) rfl (by kernel_rfl) (by skip) rfl rfl rfl rfl rfl rfl ?_ | refine D_skipUP (i := 20) rfl (by kernel_rfl) (by exact NP_then NP_body) rfl rfl rfl rfl rfl ?_)
      (first | refine D_lookGP (i := 21) rfl (by kernel_rfl) (by skip) rfl rfl rfl (by skip) rfl rfl ?_ | refine D_skipP (i := 21) rfl (by kernel_rfl) (by skip) rfl rfl rfl rfl rfl rfl ?_ | refine D_skipUP (i := 21) rfl (by kernel_rfl) (by exact NP_then NP_body) rfl rfl rfl rfl rfl ?_)
      (first | refine D_lookGP (i := 22) rfl (by kernel_rfl) (by skip) rfl rfl rfl (by skip) rfl rfl ?_ | refine D_skipP (i := 22) rfl (by kernel_rfl) (by skip) rfl rfl rfl rfl rfl rfl ?_ | refine D_skipUP (i := 22) rfl (by kernel_rfl) (by exact NP_then NP_body) rfl rfl rfl rfl rfl ?_)
      (first | refine D_lookG (i := 23) rfl (by kernel_rfl) (by skip) (by skip) rfl rfl rfl (by skip) rfl rfl ?_ | refine D_skipP (i := 23) rfl (by kernel_rfl) (by skip) rfl rfl rfl rfl rfl rfl ?_ | refine D_skipUP (i := 23) rfl (by kernel_rfl) (by exact NP_then NP_body) rfl rfl rfl rfl rfl ?_)
      (first | refine D_lookGP (i := 24) rfl (by kernel_rfl) (by skip) rfl rfl rfl (by skip) rfl rfl ?_ | refine D_skipP (i := 24) rfl (by kernel_rfl) (by skip) rfl rfl rfl rfl rfl rfl ?_ | refine D_skipUP (i := 24) rfl (by kernel_rfl) (by exact NP_then NP_body) rfl rfl rfl rfl rfl ?_)
      (first | refine D_lookGP (i := 25) rfl (by kernel_rfl) (by skip) rfl rfl rfl (by skip) rfl rfl ?_ | refine D_skipP (i := 25) rfl (by kernel_rfl) (by skip) rfl rfl rfl rfl rfl rfl ?_ | refine D_skipUP (i := 25) rfl (by kernel_rfl) (by exact NP_then NP_body) rfl rfl rfl rfl rfl ?_)
      (first | refine D_lookGP (i := 26) rfl (by kernel_rfl) (by skip) rfl rfl rfl (by skip) rfl rfl ?_ | refine D_skipP (i := 26) rfl (by kernel_rfl) (by skip) rfl rfl rfl rfl rfl rfl ?_ | refine D_skipUP (i := 26) rfl (by kernel_rfl) (by exact NP_then NP_body) rfl rfl rfl rfl rfl ?_)
      (first | refine D_lookGP (i := 27) rfl (by kernel_rfl) (by skip) rfl rfl rfl (by skip) rfl rfl ?_ | refine D_skipP (i := 27) rfl (by kernel_rfl) (by skip) rfl rfl rfl rfl rfl rfl ?_ | refine D_skipUP (i := 27) rfl (by kernel_rfl) (by exact NP_then NP_body) rfl rfl rfl rfl rfl ?_)
      (first | refine D_lookG (i := 28) rfl (by kernel_rfl) (by skip) (by skip) rfl rfl rfl (by skip) rfl rfl ?_ | refine D_skipP (i := 28) rfl (by kernel_rfl) (by skip) rfl rfl rfl rfl rfl rfl ?_ | refine D_skipUP (i := 28) rfl (by kernel_rfl) (by exact NP_then NP_body) rfl rfl rfl rfl rfl ?_)
      (first | refine D_lookGP (i := 29) rfl (by kernel_rfl) (by skip) rfl rfl rfl (by skip) rfl rfl ?_ | refine D_skipP (i := 29) rfl (by kernel_rfl) (by skip) rfl rfl rfl rfl rfl rfl ?_ | refine D_skipUP (i := 29) rfl (by kernel_rfl) (by exact NP_then NP_body) rfl rfl rfl rfl rfl ?_)
      (first | refine D_lookGP (i := 30) rfl (by kernel_rfl) (by skip) rfl rfl rfl (by skip) rfl rfl ?_ | refine D_skipP (i := 30) rfl (by kernel_rfl) (by exact NP_then NP_body) rfl rfl rfl rfl rfl rfl ?_ | refine D_skipUP (i := 30) rfl (by kernel_rfl) (by skip) rfl rfl rfl rfl rfl ?_)
      (refine D_lookP (i := 31) rfl (by kernel_rfl) (by exact NP_then NP_body) (by exact Y_pick_false rfl rfl) rfl rfl ?_)
      refine D_try1 (i := 32) (by kernel_rfl) rfl ?_
      refine J_assign rfl rfl rfl ?_
      refine D_last (by kernel_rfl) ?_
      (first | refine D_end1 (by kernel_rfl) ?_ | refine D_end (by kernel_rfl) ?_)
      refine E_then ?_
      refine R_ret ?_
      apply E_retP Tryz.results97
      · exact Res.tmp rfl (Res.nil)
      · exact Gives.last (Take.next Take.here)
      simp [one, c1, c2]
  · skip
    refine R_draw ([walH b W p]) [32] (by kernel_rfl) ?_
    (refine D_lookP (i := 0) rfl (by kernel_rfl) (by exact NP_then NP_body) (by exact Y_move rfl) rfl rfl ?_)
    (refine D_lookP (i := 1) rfl (by kernel_rfl) (by exact NP_then NP_body) (by exact Y_cmpF rfl rfl rfl (by first | rfl | (simp only [decide_eq_false_iff_not, ge_iff_le, gt_iff_lt, beq_eq_false_iff_ne, bne_eq_false_iff_eq, ne_eq]; first | done | omega))) rfl rfl ?_)
    (refine D_lookP (i := 2) rfl (by kernel_rfl) (by exact NP_then NP_body) (by exact Y_move rfl) rfl rfl ?_)
    (first | refine D_lookGP (i := 3) rfl (by kernel_rfl) (by skip) rfl rfl rfl (by skip) rfl rfl ?_ | refine D_skipP (i := 3) rfl (by kernel_rfl) (by exact NP_then NP_body) rfl rfl rfl rfl rfl rfl ?_ | refine D_skipUP (i := 3) rfl (by kernel_rfl) (by skip) rfl rfl rfl rfl rfl ?_)
    (first | refine D_lookGP (i := 4) rfl (by kernel_rfl) (by skip) rfl rfl rfl (by skip) rfl rfl ?_ | refine D_skipP (i := 4) rfl (by kernel_rfl) (by exact NP_then NP_body) rfl rfl rfl rfl rfl rfl ?_ | refine D_skipUP (i := 4) rfl (by kernel_rfl) (by skip) rfl rfl rfl rfl rfl ?_)
    (first | refine D_lookGP (i := 5) rfl (by kernel_rfl) (by skip) rfl rfl rfl (by skip) rfl rfl ?_ | refine D_skipP (i := 5) rfl (by kernel_rfl) (by exact NP_then NP_body) rfl rfl rfl rfl rfl rfl ?_ | refine D_skipUP (i := 5) rfl (by kernel_rfl) (by skip) rfl rfl rfl rfl rfl ?_)
    (first | refine D_lookGP (i := 6) rfl (by kernel_rfl) (by skip) rfl rfl rfl (by skip) rfl rfl ?_ | refine D_skipP (i := 6) rfl (by kernel_rfl) (by exact NP_then NP_body) rfl rfl rfl rfl rfl rfl ?_ | refine D_skipUP (i := 6) rfl (by kernel_rfl) (by skip) rfl rfl rfl rfl rfl ?_)
    (first | refine D_lookG (i := 7) rfl (by kernel_rfl) (by skip) (by skip) rfl rfl rfl (by skip) rfl rfl ?_ | refine D_skipP (i := 7) rfl (by kernel_rfl) (by exact NP_then NP_body) rfl rfl rfl rfl rfl rfl ?_ | refine D_skipUP (i := 7) rfl (by kernel_rfl) (by skip) rfl rfl rfl rfl rfl ?_)
    refine D_try1 (i := 8) (by kernel_rfl) rfl ?_
    refine J_guard_not rfl rfl rfl rfl rfl rfl ?_
    refine D_next (by exact Gives.cons Take.here Gives.nil) ?_
    (first | refine D_lookGP (i := 9) rfl (by kernel_rfl) (by skip) rfl rfl rfl (by skip) rfl rfl ?_ | refine D_skipP (i := 9) rfl (by kernel_rfl) (by exact NP_then NP_body) rfl rfl rfl rfl rfl rfl ?_ | refine D_skipUP (i := 9) rfl (by kernel_rfl) (by skip) rfl rfl rfl rfl rfl ?_)
    (refine D_lookP (i := 10) rfl (by kernel_rfl) (by exact NP_then NP_body) (by exact Y_pick_false rfl rfl) rfl rfl ?_)
    (refine D_lookP (i := 11) rfl (by kernel_rfl) (by exact NP_then NP_body) (by exact Y_move rfl) rfl rfl ?_)
    (first | refine D_lookGP (i := 12) rfl (by kernel_rfl) (by skip) rfl rfl rfl (by skip) rfl rfl ?_ | refine D_skipP (i := 12) rfl (by kernel_rfl) (by exact NP_then NP_body) rfl rfl rfl rfl rfl rfl ?_ | refine D_skipUP (i := 12) rfl (by kernel_rfl) (by skip) rfl rfl rfl rfl rfl ?_)
    (first | refine D_lookGP (i := 13) rfl (by kernel_rfl) (by skip) rfl rfl rfl (by skip) rfl rfl ?_ | refine D_skipP (i := 13) rfl (by kernel_rfl) (by exact NP_then NP_body) rfl rfl rfl rfl rfl rfl ?_ | refine D_skipUP (i := 13) rfl (by kernel_rfl) (by skip) rfl rfl rfl rfl rfl ?_)
    (first | refine D_lookGP (i := 14) rfl (by kernel_rfl) (by skip) rfl rfl rfl (by skip) rfl rfl ?_ | refine D_skipP (i := 14) rfl (by kernel_rfl) (by exact NP_then NP_body) rfl rfl rfl rfl rfl rfl ?_ | refine D_skipUP (i := 14) rfl (by kernel_rfl) (by skip) rfl rfl rfl rfl rfl ?_)
    (first | refine D_lookGP (i := 15) rfl (by kernel_rfl) (by skip) rfl rfl rfl (by skip) rfl rfl ?_ | refine D_skipP (i := 15) rfl (by kernel_rfl) (by exact NP_then NP_body) rfl rfl rfl rfl rfl rfl ?_ | refine D_skipUP (i := 15) rfl (by kernel_rfl) (by skip) rfl rfl rfl rfl rfl ?_)
    (first | refine D_lookG (i := 16) rfl (by kernel_rfl) (by skip) (by skip) rfl rfl rfl (by skip) rfl rfl ?_ | refine D_skipP (i := 16) rfl (by kernel_rfl) (by exact NP_then NP_body) rfl rfl rfl rfl rfl rfl ?_ | refine D_skipUP (i := 16) rfl (by kernel_rfl) (by skip) rfl rfl rfl rfl rfl ?_)
    (first | refine D_lookGP (i := 17) rfl (by kernel_rfl) (by skip) rfl rfl rfl (by skip) rfl rfl ?_ | refine D_skipP (i := 17) rfl (by kernel_rfl) (by exact NP_then NP_body) rfl rfl rfl rfl rfl rfl ?_ | refine D_skipUP (i := 17) rfl (by kernel_rfl) (by skip) rfl rfl rfl rfl rfl ?_)
    (first | refine D_lookGP (i := 18) rfl (by kernel_rfl) (by skip) rfl rfl rfl (by skip) rfl rfl ?_ | refine D_skipP (i := 18) rfl (by kernel_rfl) (by exact NP_then NP_body) rfl rfl rfl rfl rfl rfl ?_ | refine D_skipUP (i := 18) rfl (by kernel_rfl) (by skip) rfl rfl rfl rfl rfl ?_)
    (first | refine D_lookGP (i := 19) rfl (by kernel_rfl) (by skip) rfl rfl rfl (by skip) rfl rfl ?_ | refine D_skipP (i := 19) rfl (by kernel_rfl) (by skip) rfl rfl rfl rfl rfl rfl ?_ | refine D_skipUP (i := 19) rfl (by kernel_rfl) (by exact NP_then NP_body) rfl rfl rfl rfl rfl ?_)
    (first | refine D_lookGP (i := 20) rfl (by kernel_rfl) (by skip) rfl rfl rfl (by skip) rfl rfl ?_ | refine D_skipP (i := 20) rfl (by kernel_rfl) (by skip) rfl rfl rfl rfl rfl rfl ?_ | refine D_skipUP (i := 20) rfl (by kernel_rfl) (by exact NP_then NP_body) rfl rfl rfl rfl rfl ?_)
    (first | refine D_lookGP (i := 21) rfl (by kernel_rfl) (by skip) rfl rfl rfl (by skip) rfl rfl ?_ | refine D_skipP (i := 21) rfl (by kernel_rfl) (by skip) rfl rfl rfl rfl rfl rfl ?_ | refine D_skipUP (i := 21) rfl (by kernel_rfl) (by exact NP_then NP_body) rfl rfl rfl rfl rfl ?_)
    (first | refine D_lookGP (i := 22) rfl (by kernel_rfl) (by skip) rfl rfl rfl (by skip) rfl rfl ?_ | refine D_skipP (i := 22) rfl (by kernel_rfl) (by skip) rfl rfl rfl rfl rfl rfl ?_ | refine D_skipUP (i := 22) rfl (by kernel_rfl) (by exact NP_then NP_body) rfl rfl rfl rfl rfl ?_)
    (first | refine D_lookG (i := 23) rfl (by kernel_rfl) (by skip) (by skip) rfl rfl rfl (by skip) rfl rfl ?_ | refine D_skipP (i := 23) rfl (by kernel_rfl) (by skip) rfl rfl rfl rfl rfl rfl ?_ | refine D_skipUP (i := 23) rfl (by kernel_rfl) (by exact NP_then NP_body) rfl rfl rfl rfl rfl ?_)
    (first | refine D_lookGP (i := 24) rfl (by kernel_rfl) (by skip) rfl rfl rfl (by skip) rfl rfl ?_ | refine D_skipP (i := 24) rfl (by kernel_rfl) (by skip) rfl rfl rfl rfl rfl rfl ?_ | refine D_skipUP (i := 24) rfl (by kernel_rfl) (by exact NP_then NP_body) rfl rfl rfl rfl rfl ?_)
    (first | refine D_lookGP (i := 25) rfl (by kernel_rfl) (by skip) rfl rfl rfl (by skip) rfl rfl ?_ | refine D_skipP (i := 25) rfl (by kernel_rfl) (by skip) rfl rfl rfl rfl rfl rfl ?_ | refine D_skipUP (i := 25) rfl (by kernel_rfl) (by exact NP_then NP_body) rfl rfl rfl rfl rfl ?_)
    (first | refine D_lookGP (i := 26) rfl (by kernel_rfl) (by skip) rfl rfl rfl (by skip) rfl rfl ?_ | refine D_skipP (i := 26) rfl (by kernel_rfl) (by skip) rfl rfl rfl rfl rfl rfl ?_ | refine D_skipUP (i := 26) rfl (by kernel_rfl) (by exact NP_then NP_body) rfl rfl rfl rfl rfl ?_)
    (first | refine D_lookGP (i := 27) rfl (by kernel_rfl) (by skip) rfl rfl rfl (by skip) rfl rfl ?_ | refine D_skipP (i := 27) rfl (by kernel_rfl) (by skip) rfl rfl rfl rfl rfl rfl ?_ | refine D_skipUP (i := 27) rfl (by kernel_rfl) (by exact NP_then NP_body) rfl rfl rfl rfl rfl ?_)
    (first | refine D_lookG (i := 28) rfl (by kernel_rfl) (by skip) (by skip) rfl rfl rfl (by skip) rfl rfl ?_ | refine D_skipP (i := 28) rfl (by kernel_rfl) (by skip) rfl rfl rfl rfl rfl rfl ?_ | refine D_skipUP (i := 28) rfl (by kernel_rfl) (by exact NP_then NP_body) rfl rfl rfl rfl rfl ?_)
    (first | refine D_lookGP (i := 29) rfl (by kernel_rfl) (by skip) rfl rfl rfl (by skip) rfl rfl ?_ | refine D_skipP (i := 29) rfl (by kernel_rfl) (by skip) rfl rfl rfl rfl rfl rfl ?_ | refine D_skipUP (i := 29) rfl (by kernel_rfl) (by exact NP_then NP_body) rfl rfl rfl rfl rfl ?_)
    (first | refine D_lookGP (i := 30) rfl (by kernel_rfl) (by skip) rfl rfl rfl (by skip) rfl rfl ?_ | refine D_skipP (i := 30) rfl (by kernel_rfl) (by exact NP_then NP_body) rfl rfl rfl rfl rfl rfl ?_ | refine D_skipUP (i := 30) rfl (by kernel_rfl) (by skip) rfl rfl rfl rfl rfl ?_)
    (refine D_lookP (i := 31) rfl (by kernel_rfl) (by exact NP_then NP_body) (by exact Y_pick_false rfl rfl) rfl rfl ?_)
    refine D_try1 (i := 32) (by kernel_rfl) rfl ?_
    refine J_assign rfl rfl rfl ?_
    refine D_last (by kernel_rfl) ?_
    (first | refine D_end1 (by kernel_rfl) ?_ | refine D_end (by kernel_rfl) ?_)
    refine E_then ?_
    refine R_ret ?_
    apply E_retP Tryz.results97
    · exact Res.tmp rfl (Res.nil)
    · exact Gives.refl
    simp [one, c1]
end Go.Proofs.Sol

/- A log over a disk: staged, read, room. -/
namespace Go.Proofs.Sol
open Go Go.Proofs
set_option maxRecDepth 100000
set_option maxHeartbeats 4000000
set_option linter.unusedVariables false
set_option linter.unusedSimpArgs false
attribute [local irreducible] R J JW E D Fn Y clf mpI own Sat Exit.then Exit.inBlock bodyPost bodyPostM Code.wpIn wpL
theorem shut_walX {w : World} {b : Nat} {W : Wl} {p : Nat × Nat × Nat} {F : List HP} (h : Sat w (walH b W p :: reg p.1 W.d W.fr 2 :: reg p.2.1 W.d (W.fr + 2) (W.many - 2) :: shd p.2.2 W.K W.Lo :: dvk W.d W.V W.k :: F)) : Sat w (wal b W :: F) := shut_wal (p := p) h
theorem wal_Read (b : Nat) (W : Wl) (i : Int) (hk : W.k < 100000000) (F : List HP) : Fn Tryz.prog 30 [.pointer (some ⟨b, 0, none⟩), .int .i64 i] (wal b W :: F) (Pst (.tuple #[.string (S (W.rd i)), .int .i64 (W.rdE i)]) (wal b { W with k := W.k + 1 } :: F)) := by
  refine Fn.open_ (fun w h => open_wal h) ?_
  rintro p
  dsimp only [walL, List.cons_append, List.nil_append]
  refine Fn_enter Tryz.func30 rfl Tryz.ntmps30 rfl ?_
  refine R_seq ?_
  refine R_region ?_
  refine J_assign rfl rfl rfl ?_
  refine J_assign rfl rfl rfl ?_
  refine J_nil ?_
  refine E_then ?_
  refine R_seq ?_
  refine R_seq ?_
  refine R_region ?_
  refine J_move rfl rfl rfl ?_
  refine J_ptr_nil rfl rfl rfl rfl ?_
  refine J_nil2 ?_
  refine E_then ?_
  refine R_cond_false rfl ?_
  refine R_skip ?_
  refine E_then ?_
  refine R_seq ?_
  refine R_seq ?_
  refine R_region ?_
  refine J_move rfl rfl rfl ?_
  refine J_nilCheck rfl rfl rfl ?_
  refine J_fieldAddr0 rfl rfl rfl ?_
  refine J_load rfl rfl rfl rfl ?_
  refine J_move rfl rfl rfl ?_
  refine J_callr rfl (shadow_Get p.2.2 W.K W.Lo i _) (by exact Gives.last (Take.next (Take.next (Take.next Take.here)))) rfl rfl ?_
  unfold Wl.rd Wl.rdE
  cases hs : seen W.K W.Lo i with
  | some x =>
    simp only [lookR]
    refine J_move rfl rfl rfl ?_
    refine J_extract rfl rfl rfl rfl ?_
    refine J_extract rfl rfl rfl rfl ?_
    refine J_assign rfl rfl rfl ?_
    refine J_assign rfl rfl rfl ?_
    refine J_nil3 ?_
    refine E_then ?_
    refine R_seq ?_
    refine R_region ?_
    refine J_move rfl rfl rfl ?_
    refine J_nil1 ?_
    refine E_then ?_
    refine R_cond_true rfl ?_
    refine R_seq ?_
    refine R_region ?_
    refine J_move rfl rfl rfl ?_
    refine J_assign rfl rfl rfl ?_
    refine J_assign rfl rfl rfl ?_
    refine J_nil1 ?_
    refine E_then ?_
    refine R_ret ?_
    refine E_then_ret ?_
    apply E_ret Tryz.results30
    · exact Res.tmp rfl (Res.tmp rfl (Res.nil))
    · intro w s
      have s2 : Sat w (walH b W p :: reg p.1 W.d W.fr 2 :: reg p.2.1 W.d (W.fr + 2) (W.many - 2) :: shd p.2.2 W.K W.Lo :: dvk W.d W.V W.k :: F) := s.gives (by exact Gives.cons (Take.next Take.here) (Gives.cons (Take.next Take.here) (Gives.last (Take.next Take.here))))
      have s3 : Sat w (dvk W.d W.V (W.k + 1) :: walH b W p :: reg p.1 W.d W.fr 2 :: reg p.2.1 W.d (W.fr + 2) (W.many - 2) :: shd p.2.2 W.K W.Lo :: F) := dvk_le (Nat.le_succ _) (s2.gives (by exact Gives.last (Take.next (Take.next (Take.next (Take.next Take.here))))))
      have s4 : Sat w (walH b W p :: reg p.1 W.d W.fr 2 :: reg p.2.1 W.d (W.fr + 2) (W.many - 2) :: shd p.2.2 W.K W.Lo :: dvk W.d W.V (W.k + 1) :: F) := s3.gives (by exact Gives.cons (Take.next Take.here) (Gives.cons (Take.next Take.here) (Gives.cons (Take.next Take.here) (Gives.last (Take.next Take.here)))))
      exact ⟨rfl, shut_wal (p := p) s4⟩
  | none =>
    simp only [lookR]
    refine J_move rfl rfl rfl ?_
    refine J_extract rfl rfl rfl rfl ?_
    refine J_extract rfl rfl rfl rfl ?_
    refine J_assign rfl rfl rfl ?_
    refine J_assign rfl rfl rfl ?_
    refine J_nil3 ?_
    refine E_then ?_
    refine R_seq ?_
    refine R_region ?_
    refine J_move rfl rfl rfl ?_
    refine J_nil1 ?_
    refine E_then ?_
    refine R_cond_false rfl ?_
    refine R_skip ?_
    refine E_then ?_
    refine R_seq ?_
    refine R_region ?_
    refine J_move rfl rfl rfl ?_
    refine J_nilCheck rfl rfl rfl ?_
    refine J_fieldAddr0 rfl rfl rfl ?_
    refine J_load rfl rfl rfl rfl ?_
    refine J_move rfl rfl rfl ?_
    refine J_callr rfl (diskv_Read W.d W.V W.k i (by omega) _) (by exact Gives.last (Take.next (Take.next (Take.next (Take.next Take.here))))) rfl rfl ?_
    refine J_extract rfl rfl rfl rfl ?_
    refine J_extract rfl rfl rfl rfl ?_
    refine J_assign rfl rfl rfl ?_
    refine J_assign rfl rfl rfl ?_
    refine J_nil3 ?_
    refine E_then ?_
    refine R_ret ?_
    apply E_ret Tryz.results30
    · exact Res.tmp rfl (Res.tmp rfl (Res.nil))
    · intro w s
      have s4 : Sat w (walH b W p :: reg p.1 W.d W.fr 2 :: reg p.2.1 W.d (W.fr + 2) (W.many - 2) :: shd p.2.2 W.K W.Lo :: dvk W.d W.V (W.k + 1) :: F) := s.gives (by exact Gives.cons (Take.next (Take.next Take.here)) (Gives.cons (Take.next (Take.next Take.here)) (Gives.cons (Take.next (Take.next Take.here)) (Gives.last (Take.next Take.here)))))
      exact ⟨rfl, shut_wal (p := p) s4⟩
theorem wal_Read0 (i : Int) (F : List HP) : Fn Tryz.prog 30 [.pointer none, .int .i64 i] F (Pst (.tuple #[.string (S []), .int .i64 10]) F) := by
  refine Fn_enter Tryz.func30 rfl Tryz.ntmps30 rfl ?_
  refine R_seq ?_
  refine R_region ?_
  refine J_assign rfl rfl rfl ?_
  refine J_assign rfl rfl rfl ?_
  refine J_nil ?_
  refine E_then ?_
  refine R_seq ?_
  refine R_seq ?_
  refine R_region ?_
  refine J_move rfl rfl rfl ?_
  refine J_ptr_nil rfl rfl rfl rfl ?_
  refine J_nil2 ?_
  refine E_then ?_
  refine R_cond_true rfl ?_
  refine R_seq ?_
  refine R_region ?_
  refine J_assign rfl rfl rfl ?_
  refine J_assign rfl rfl rfl ?_
  refine J_nil ?_
  refine E_then ?_
  refine R_ret ?_
  refine E_then_ret ?_
  apply E_retP Tryz.results30
  · exact Res.tmp rfl (Res.tmp rfl (Res.nil))
  · exact Gives.refl
  rfl
theorem wal_Stage0 (i : Int) (s : Bytes) (F : List HP) : Fn Tryz.prog 24 [.pointer none, .int .i64 i, .string (S s)] F (Pst (.int .i64 10) F) := by
  refine Fn_enter Tryz.func24 rfl Tryz.ntmps24 rfl ?_
  refine R_seq ?_
  refine R_region ?_
  refine J_assign rfl rfl rfl ?_
  refine J_nil ?_
  refine E_then ?_
  refine R_seq ?_
  refine R_block ?_
  refine R_seq ?_
  refine R_region ?_
  refine J_move rfl rfl rfl ?_
  refine J_callr rfl (wal_Active0 _) (by exact Gives.refl) rfl rfl ?_
  refine J_un_not rfl rfl rfl ?_
  refine J_assign rfl rfl rfl ?_
  refine J_nil3 ?_
  refine E_then ?_
  refine R_cond_true rfl ?_
  refine R_seq ?_
  refine R_region ?_
  refine J_assign rfl rfl rfl ?_
  refine J_nil ?_
  refine E_then ?_
  refine R_ret ?_
  refine E_block_ret ?_
  refine E_then_ret ?_
  apply E_retP Tryz.results24
  · exact Res.tmp rfl (Res.nil)
  · exact Gives.refl
  rfl
theorem wal_RoomH (b : Nat) (W : Wl) (p : Nat × Nat × Nat) (hm : 24 ≤ W.many ∧ W.many ≤ 200) (hu : 0 ≤ W.used ∧ W.used ≤ 1000) (F : List HP) : Fn Tryz.prog 22 [.pointer (some ⟨b, 0, none⟩)] (walH b W p :: reg p.2.1 W.d (W.fr + 2) (W.many - 2) :: F) (Pst (.int .i64 W.room) (walH b W p :: reg p.2.1 W.d (W.fr + 2) (W.many - 2) :: F)) := by
  refine Fn_enter Tryz.func22 rfl Tryz.ntmps22 rfl ?_
  refine R_seq ?_
  refine R_region ?_
  refine J_assign rfl rfl rfl ?_
  refine J_nil ?_
  refine E_then ?_
  refine R_seq ?_
  refine R_seq ?_
  refine R_region ?_
  refine J_move rfl rfl rfl ?_
  refine J_ptr_nil rfl rfl rfl rfl ?_
  refine J_nil2 ?_
  refine E_then ?_
  refine R_cond_false rfl ?_
  refine R_skip ?_
  refine E_then ?_
  refine R_seq ?_
  refine R_draw ([walH b W p]) [10] (by kernel_rfl) ?_
  (refine D_lookP (i := 0) rfl (by kernel_rfl) (by exact NP_then NP_body) (by exact Y_move rfl) rfl rfl ?_)
  (refine D_lookP (i := 1) rfl (by kernel_rfl) (by exact NP_then NP_body) (by exact Y_nilCheck rfl) rfl rfl ?_)
  (refine D_lookP (i := 2) rfl (by kernel_rfl) (by exact NP_then NP_body) (by exact Y_fieldAddr0 rfl) rfl rfl ?_)
  (refine D_look (i := 3) rfl (by kernel_rfl) (by exact NP_then NP_body) (by exact Gives.cons Take.here Gives.nil) (by exact Y_load rfl rfl) rfl rfl ?_)
  (refine D_lookP (i := 5) rfl (by kernel_rfl) (by exact NP_then NP_body) (by exact Y_move rfl) rfl rfl ?_)
  (refine D_lookP (i := 6) rfl (by kernel_rfl) (by exact NP_then NP_body) (by exact Y_nilCheck rfl) rfl rfl ?_)
  (refine D_lookP (i := 7) rfl (by kernel_rfl) (by exact NP_then NP_body) (by exact Y_fieldAddr0 rfl) rfl rfl ?_)
  (refine D_look (i := 8) rfl (by kernel_rfl) (by exact NP_then NP_body) (by exact Gives.cons Take.here Gives.nil) (by exact Y_load rfl rfl) rfl rfl ?_)
  refine D_try1 (i := 4) (by kernel_rfl) rfl ?_
  refine J_callr rfl (region_Many p.2.1 W.d (W.fr + 2) (W.many - 2) _) (by exact Gives.last (Take.next Take.here)) rfl rfl ?_
  refine D_next (by exact Gives.cons (Take.next Take.here) Gives.nil) ?_
  (refine D_lookP (i := 9) rfl (by kernel_rfl) (by exact NP_then NP_body) (by exact Y_ari64 rfl rfl rfl (by omega)) rfl rfl ?_)
  refine D_try1 (i := 10) (by kernel_rfl) rfl ?_
  refine J_assign rfl rfl rfl ?_
  refine D_last (by kernel_rfl) ?_
  (first | refine D_end1 (by kernel_rfl) ?_ | refine D_end (by kernel_rfl) ?_)
  refine E_then ?_
  refine R_ret ?_
  apply E_retP Tryz.results22
  · exact Res.tmp rfl (Res.nil)
  · exact Gives.last (Take.next Take.here)
  rfl
theorem hasK_told {m : List (Int × Bytes)} (i : Int) : hasK m i = (told m).any fun p => p.1 == i := by
  unfold hasK
  rw [Bool.eq_iff_iff]
  constructor
  · intro h
    obtain ⟨s, hs⟩ := Option.isSome_iff_exists.1 h
    refine List.any_eq_true.2 ⟨(i, s), ?_, by simp⟩
    unfold told srt
    refine List.mem_map.2 ⟨i, (List.mergeSort_perm _ _).mem_iff.2 (List.mem_map.2 ⟨(i, s), mget_mem hs, rfl⟩), by rw [hs]; rfl⟩
  · intro h
    obtain ⟨p, hp, he⟩ := List.any_eq_true.1 h
    have he' : p.1 = i := by simpa using he
    have hm := told_mem hp
    cases hg : mget m i with
    | some s => rfl
    | none => exact absurd (List.mem_map.2 ⟨p, hm, he'⟩) (mget_none.1 hg)
end Go.Proofs.Sol

/- A log over a disk: what is staged. -/
namespace Go.Proofs.Sol
open Go Go.Proofs
set_option maxRecDepth 100000
set_option maxHeartbeats 4000000
set_option linter.unusedVariables false
set_option linter.unusedSimpArgs false
attribute [local irreducible] R J JW E D Fn Y clf mpI own Sat Exit.then Exit.inBlock bodyPost bodyPostM Code.wpIn wpL
/-- A fact. -/
def pur (φ : Prop) : HP := fun _ => φ
instance (φ : Prop) : Up (pur φ) := ⟨fun _ _ _ h => h⟩
theorem Sat.pur {w : World} {φ : Prop} {L : List HP} (s : Sat w (pur φ :: L)) : φ := s.hd
theorem gives_pur {φ : Prop} {L M : List HP} (h : φ) (g : Gives L M) : Gives L (pur φ :: M) := ⟨fun x s => ⟨fun _ => none, x, Split.empty x, h, g.out x s⟩⟩
theorem wal_stagedH (b : Nat) (W : Wl) (p : Nat × Nat × Nat) (i : Int) (hlo : W.Lo.length < 1000000) (F : List HP) :
    Fn Tryz.prog 99 [.pointer (some ⟨b, 0, none⟩), .int .i64 i] (walH b W p :: shd p.2.2 W.K W.Lo :: F) (Pst (.bool (hasK W.Lo i)) (walH b W p :: shd p.2.2 W.K W.Lo :: F)) := by
  refine Fn.open_ (M := fun x => shL p.2.2 W.K W.Lo x ++ (walH b W p :: F)) (fun w h => open_shd h.swap) ?_
  rintro ⟨bk, bl⟩
  dsimp only [shL, List.cons_append, List.nil_append]
  have htl : (toldV W.Lo).length = (told W.Lo).length := by simp [toldV]
  refine Fn_enterM Tryz.func99 rfl Tryz.ntmps99 rfl ?_
  refine R_seq ?_
  refine R_region ?_
  refine J_box rfl rfl rfl rfl ?_; intro
  refine J_alloc rfl rfl ?_; intro
  refine J_nil ?_
  refine E_then ?_
  refine R_seq ?_
  refine R_seq ?_
  refine R_region ?_
  refine J_move rfl rfl rfl ?_
  refine J_nilCheck rfl rfl rfl ?_
  refine J_fieldAddr0 rfl rfl rfl ?_
  refine J_load rfl rfl rfl rfl ?_
  rename_i c3 c4
  refine J_callm rfl (shadow_Fresh p.2.2 bk bl _) (by exact Gives.last (Take.next (Take.next Take.here))) rfl rfl ?_
  rintro v w ⟨t, rfl, s0⟩
  refine JW.of s0 ?_
  refine J_nil3 ?_
  refine E_then ?_
  refine R_block ?_
  refine R_rangeFunc (f := 208) (ps := [11, 12]) (fun j => [pur (∀ x ∈ (told W.Lo).take j, x.1 ≠ i), cl c3 3 [.int .i64 i], cl c4 4 [.bool false]]) [pur (hasK W.Lo i = true), cl c3 3 [.int .i64 i], cl c4 4 [.bool true]] (fun vs => [(5, vs.getD 0 undef), (3, .pointer (some ⟨c3, 0, none⟩)), (4, .pointer (some ⟨c4, 0, none⟩))])
    (shH p.2.2 bk bl :: mpI bk W.K :: walH b W p :: F) rfl (each_tells t bl W.Lo hlo)
    (Gives.trans (M := cl t 216 [.map (some bl)] :: mpI bl W.Lo :: pur (∀ x ∈ (told W.Lo).take 0, x.1 ≠ i) :: cl c3 3 [.int .i64 i] :: cl c4 4 [.bool false] :: shH p.2.2 bk bl :: mpI bk W.K :: walH b W p :: F) (Gives.cons (by with_reducible exact Take.here) (Gives.cons (by with_reducible exact Take.next (Take.next (Take.next (Take.next Take.here)))) (gives_pur (by simp) (by exact Gives.cons (Take.next (Take.next Take.here)) (Gives.last (Take.next Take.here)))))) ⟨fun _ s => s⟩) (toldV_two W.Lo) rfl ?_ ?_ ?_ ?_
  · intro l c j vs hi F'
    obtain ⟨x, hx, rfl⟩ := toldV_get hi
    dsimp only [List.cons_append, List.nil_append]
    refine R_region ?_
    refine J_assign rfl rfl rfl ?_
    refine J_nil ?_
    exact E_thenI fun a w he hs => ⟨he.sub (by exact sub_cons rfl (sub_cons rfl (sub_cons rfl sub_nil))), hs⟩
  · intro l c j vs hi hc F'
    obtain ⟨x, hx, rfl⟩ := toldV_get hi
    obtain ⟨hxl, hxe⟩ := List.getElem?_eq_some_iff.1 hx
    dsimp only [List.cons_append, List.nil_append]
    refine R.know (fun w s => s.drop.pur) fun hall => ?_
    refine R_block ?_
    refine R_seq ?_
    refine R_region ?_
    refine J_move rfl rfl rfl ?_
    refine J_load rfl rfl rfl rfl ?_
    refine J_cmp rfl rfl rfl rfl rfl ?_
    refine J_nil3 ?_
    refine E_then ?_
    refine R_cond rfl (fun hh => ?_) (fun hh => ?_)
    simp only [decide_eq_true_eq, decide_eq_false_iff_not, Bool.and_eq_true, Bool.or_eq_true, Bool.not_eq_true', Bool.not_eq_false', beq_iff_eq, bne_iff_ne, beq_eq_false_iff_ne, bne_eq_false_iff_eq, ne_eq, ge_iff_le, gt_iff_lt, Int.not_le, Int.not_lt, Bool.and_eq_false_iff, Bool.or_eq_false_iff, Decidable.not_not] at hh
    refine R_seq ?_
    refine R_region ?_
    refine J_store rfl rfl rfl rfl ?_
    refine J_nil ?_
    refine E_then ?_
    refine R_ret ?_
    refine E_block_ret ?_
    rotate_left
    simp only [decide_eq_true_eq, decide_eq_false_iff_not, Bool.and_eq_true, Bool.or_eq_true, Bool.not_eq_true', Bool.not_eq_false', beq_iff_eq, bne_iff_ne, beq_eq_false_iff_ne, bne_eq_false_iff_eq, ne_eq, ge_iff_le, gt_iff_lt, Int.not_le, Int.not_lt, Bool.and_eq_false_iff, Bool.or_eq_false_iff, Decidable.not_not] at hh
    refine R_skip ?_
    refine E_block_normal ?_
    rotate_left
    · refine E_roundR (by with_reducible exact Take.here) ?_
      exact Gives.trans (M := pur (hasK W.Lo i = true) :: cl c3 3 [.int .i64 i] :: cl c4 4 [.bool true] :: F') (gives_pur (by
        rw [hasK_told]
        exact List.any_eq_true.2 ⟨x, List.mem_of_getElem? hx, by simpa using hh⟩) (by exact Gives.cons (Take.next Take.here) (Gives.cons (Take.next Take.here) (Gives.drop Gives.refl)))) ⟨fun _ s => s⟩
    · refine E_roundN hc (by with_reducible exact Take.here) ?_
      exact Gives.trans (M := pur (∀ x ∈ (told W.Lo).take (j + 1), x.1 ≠ i) :: cl c3 3 [.int .i64 i] :: cl c4 4 [.bool false] :: F') (gives_pur (by
        intro y hy
        rw [List.take_succ_eq_append_getElem hxl, List.mem_append] at hy
        rcases hy with hy | hy
        · exact hall y hy
        · have : y = x := by simpa [hxe] using hy
          rw [this]; exact hh) (by exact Gives.cons (Take.next Take.here) (Gives.cons (Take.next Take.here) (Gives.drop Gives.refl)))) ⟨fun _ s => s⟩
  · intro r
    rw [htl, List.take_length]
    dsimp only [List.cons_append, List.nil_append]
    refine E.know (fun w s => s.drop.drop.drop.pur) fun hall => ?_
    have hf : hasK W.Lo i = false := by
      rw [hasK_told, List.any_eq_false]
      intro x hx
      simpa using hall x hx
    rw [hf]
    refine E_block_normal ?_
    refine E_then ?_
    refine R_seq ?_
    refine R_region ?_
    refine J_store rfl rfl rfl rfl ?_
    refine J_nil ?_
    refine E_then ?_
    refine R_ret ?_
    refine E.gives (M := pt r (.deferred (some [])) :: cl c4 4 [.bool false] :: shH p.2.2 bk bl :: mpI bk W.K :: mpI bl W.Lo :: walH b W p :: F) (by exact Gives.cons Take.here (Gives.cons (Take.next (Take.next (Take.next (Take.next Take.here)))) (Gives.cons (Take.next (Take.next (Take.next (Take.next Take.here)))) (Gives.cons (Take.next (Take.next (Take.next (Take.next Take.here)))) (Gives.cons (Take.next Take.here) (Gives.cons (Take.next (Take.next (Take.next Take.here))) (Gives.drop (Gives.drop (Gives.drop Gives.refl))))))))) ?_
    refine E_retM (R := cl c4 4 [.bool false] :: shH p.2.2 bk bl :: mpI bk W.K :: mpI bl W.Lo :: walH b W p :: F) Tryz.results99 Take.here (by exact Res_cell1 rfl rfl (Res.nil)) ?_
    intro w s
    have s3 := s.drop.drop.gives gives_shd
    exact ⟨rfl, s3.gives (by exact Gives.last (Take.next Take.here))⟩
  · intro r
    dsimp only [List.cons_append, List.nil_append]
    refine E.know (fun w s => s.drop.drop.drop.pur) fun hf => ?_
    rw [hf]
    refine E_block_ret ?_
    refine E_then_ret ?_
    refine E.gives (M := pt r (.deferred (some [])) :: cl c4 4 [.bool true] :: shH p.2.2 bk bl :: mpI bk W.K :: mpI bl W.Lo :: walH b W p :: F) (by exact Gives.cons Take.here (Gives.cons (Take.next (Take.next (Take.next (Take.next Take.here)))) (Gives.cons (Take.next (Take.next (Take.next (Take.next Take.here)))) (Gives.cons (Take.next (Take.next (Take.next (Take.next Take.here)))) (Gives.cons (Take.next Take.here) (Gives.cons (Take.next (Take.next (Take.next Take.here))) (Gives.drop (Gives.drop (Gives.drop Gives.refl))))))))) ?_
    refine E_retM (R := cl c4 4 [.bool true] :: shH p.2.2 bk bl :: mpI bk W.K :: mpI bl W.Lo :: walH b W p :: F) Tryz.results99 Take.here (by exact Res_cell1 rfl rfl (Res.nil)) ?_
    intro w s
    have s3 := s.drop.drop.gives gives_shd
    exact ⟨rfl, s3.gives (by exact Gives.last (Take.next Take.here))⟩
theorem wal_Stage (b : Nat) (W : Wl) (ok : WlOk W) (i : Int) (s : Bytes) (F : List HP) :
    Fn Tryz.prog 24 [.pointer (some ⟨b, 0, none⟩), .int .i64 i, .string (S s)] (wal b W :: F) (Pst (.int .i64 (W.stE i s)) (wal b (W.st i s) :: F)) := by
  have hfr := ok.fr
  have hn := ok.n
  have hm := ok.many
  have hlo := ok.lo
  refine Fn.open_ (fun w h => open_wal h) ?_
  rintro p
  dsimp only [walL, List.cons_append, List.nil_append]
  refine Fn_enter Tryz.func24 rfl Tryz.ntmps24 rfl ?_
  refine R_seq ?_
  refine R_region ?_
  refine J_assign rfl rfl rfl ?_
  refine J_nil ?_
  refine E_then ?_
  refine R_seq ?_
  refine R_block ?_
  refine R_seq ?_
  refine R_region ?_
  refine J_move rfl rfl rfl ?_
  refine J_callr rfl (wal_ActiveH b W p _) (by exact Gives.refl) rfl rfl ?_
  rcases Bool.eq_false_or_eq_true W.act with ha | ha
  · rw [ha]
    refine J_un_not rfl rfl rfl ?_
    refine J_assign rfl rfl rfl ?_
    refine J_nil3 ?_
    refine E_then ?_
    refine R_cond_false rfl ?_
    refine R_seq ?_
    refine R_region ?_
    refine J_move rfl rfl rfl ?_
    refine J_move rfl rfl rfl ?_
    refine J_callr rfl (wal_homeH b W p i (by omega) hn _) (by exact Gives.cons Take.here (Gives.last (Take.next (Take.next (Take.next Take.here))))) rfl rfl ?_
    rcases Bool.eq_false_or_eq_true (W.home i) with hho | hho
    · rw [hho]
      refine J_un_not rfl rfl rfl ?_
      refine J_assign rfl rfl rfl ?_
      refine J_nil3 ?_
      refine E_then ?_
      refine R_cond_false rfl ?_
      refine R_seq ?_
      refine R_region ?_
      refine J_move rfl rfl rfl ?_
      refine J_len_str rfl rfl rfl ?_
      refine J_cmp rfl rfl rfl rfl rfl ?_
      refine J_assign rfl rfl rfl ?_
      refine J_nil3 ?_
      refine E_then ?_
      refine R_cond rfl (fun hh => ?_) (fun hh => ?_)
      simp only [decide_eq_true_eq, decide_eq_false_iff_not, Bool.and_eq_true, Bool.or_eq_true, Bool.not_eq_true', Bool.not_eq_false', beq_iff_eq, bne_iff_ne, beq_eq_false_iff_ne, bne_eq_false_iff_eq, ne_eq, ge_iff_le, gt_iff_lt, Int.not_le, Int.not_lt, Bool.and_eq_false_iff, Bool.or_eq_false_iff, Decidable.not_not] at hh
      refine R_seq ?_
      refine R_region ?_
      refine J_assign rfl rfl rfl ?_
      refine J_nil ?_
      refine E_then ?_
      refine R_ret ?_
      refine E_block_ret ?_
      refine E_then_ret ?_
      rotate_left
      simp only [decide_eq_true_eq, decide_eq_false_iff_not, Bool.and_eq_true, Bool.or_eq_true, Bool.not_eq_true', Bool.not_eq_false', beq_iff_eq, bne_iff_ne, beq_eq_false_iff_ne, bne_eq_false_iff_eq, ne_eq, ge_iff_le, gt_iff_lt, Int.not_le, Int.not_lt, Bool.and_eq_false_iff, Bool.or_eq_false_iff, Decidable.not_not] at hh
      refine R_seq ?_
      refine R_region ?_
      refine J_move rfl rfl rfl ?_
      refine J_nilCheck rfl rfl rfl ?_
      refine J_fieldAddr0 rfl rfl rfl ?_
      refine J_load rfl rfl rfl rfl ?_
      rotate_left
      · have e : W.stE i s = 12 := by unfold Wl.stE; rw [ha, hho, if_neg (by simp), if_neg (by simp), if_pos (by omega)]
        have e2 : W.st i s = W := by unfold Wl.st; rw [if_neg (by rw [e]; simp)]
        rw [e, e2]
        apply E_ret Tryz.results24
        · exact Res.tmp rfl (Res.nil)
        · intro w s
          exact ⟨rfl, shut_walX (p := p) (s.gives (by exact Gives.cons Take.here (Gives.cons (Take.next Take.here) (Gives.cons (Take.next Take.here) (Gives.last (Take.next Take.here))))))⟩
      · refine J_callr rfl (shadow_Loose p.2.2 W.K W.Lo _) (by exact Gives.last (Take.next (Take.next (Take.next (Take.next Take.here))))) rfl rfl ?_
        refine J_cmp rfl rfl rfl rfl rfl ?_
        refine J_move rfl rfl rfl ?_
        refine J_guard_split rfl rfl (fun hh => ?_) (fun hh => ?_)
        simp only [decide_eq_true_eq, decide_eq_false_iff_not, Bool.and_eq_true, Bool.or_eq_true, Bool.not_eq_true', Bool.not_eq_false', beq_iff_eq, bne_iff_ne, beq_eq_false_iff_ne, bne_eq_false_iff_eq, ne_eq, ge_iff_le, gt_iff_lt, Int.not_le, Int.not_lt, Bool.and_eq_false_iff, Bool.or_eq_false_iff, Decidable.not_not] at hh
        refine J_guard rfl rfl rfl ?_
        refine J_move rfl rfl rfl ?_
        refine J_guard rfl rfl rfl ?_
        refine J_move rfl rfl rfl ?_
        refine J_guard rfl rfl rfl ?_
        rotate_left
        simp only [decide_eq_true_eq, decide_eq_false_iff_not, Bool.and_eq_true, Bool.or_eq_true, Bool.not_eq_true', Bool.not_eq_false', beq_iff_eq, bne_iff_ne, beq_eq_false_iff_ne, bne_eq_false_iff_eq, ne_eq, ge_iff_le, gt_iff_lt, Int.not_le, Int.not_lt, Bool.and_eq_false_iff, Bool.or_eq_false_iff, Decidable.not_not] at hh
        refine J_guard_not rfl rfl rfl rfl rfl rfl ?_
        refine J_guard_not rfl rfl rfl rfl rfl rfl ?_
        refine J_guard_not rfl rfl rfl rfl rfl rfl ?_
        refine J_guard_not rfl rfl rfl rfl rfl rfl ?_
        refine J_pick_false rfl rfl rfl rfl ?_
        refine J_assign rfl rfl rfl ?_
        refine J_nil3 ?_
        refine E_then ?_
        refine R_cond_false rfl ?_
        refine R_skip ?_
        refine E_block_normal ?_
        refine E_then ?_
        refine R_seq ?_
        refine R_region ?_
        refine J_move rfl rfl rfl ?_
        refine J_nilCheck rfl rfl rfl ?_
        refine J_fieldAddr0 rfl rfl rfl ?_
        refine J_load rfl rfl rfl rfl ?_
        refine J_move rfl rfl rfl ?_
        refine J_move rfl rfl rfl ?_
        rotate_left
        · refine J_callr rfl (wal_stagedH b W p i (by omega) _) (by exact Gives.last (Take.next Take.here)) rfl rfl ?_
          rcases Bool.eq_false_or_eq_true (hasK W.Lo i) with hk | hk
          · rw [hk]
            have e : W.stE i s = 0 := by unfold Wl.stE; rw [ha, hho, if_neg (by simp), if_neg (by simp), if_neg (by omega), if_neg (by simp [hk])]
            have e2 : W.st i s = { W with Lo := mput W.Lo i s } := by unfold Wl.st; rw [if_pos e]
            rw [e, e2]
            refine J_guard rfl rfl rfl ?_
            refine J_un_not rfl rfl rfl ?_
            refine J_pick_true rfl rfl rfl rfl ?_
            refine J_assign rfl rfl rfl ?_
            refine J_nil3 ?_
            refine E_then ?_
            refine R_cond_false rfl ?_
            refine R_skip ?_
            refine E_block_normal ?_
            refine E_then ?_
            refine R_seq ?_
            refine R_region ?_
            refine J_move rfl rfl rfl ?_
            refine J_nilCheck rfl rfl rfl ?_
            refine J_fieldAddr0 rfl rfl rfl ?_
            refine J_load rfl rfl rfl rfl ?_
            refine J_move rfl rfl rfl ?_
            refine J_move rfl rfl rfl ?_
            refine J_callr rfl (shadow_Put p.2.2 W.K W.Lo i s _) (by exact Gives.last (Take.next Take.here)) rfl rfl ?_
            refine J_nil3 ?_
            refine E_then ?_
            refine R_seq ?_
            refine R_region ?_
            refine J_assign rfl rfl rfl ?_
            refine J_nil ?_
            refine E_then ?_
            refine R_ret ?_
            apply E_ret Tryz.results24
            · exact Res.tmp rfl (Res.nil)
            · intro w s'
              have s2 : Sat w (walH b W p :: reg p.1 W.d W.fr 2 :: reg p.2.1 W.d (W.fr + 2) (W.many - 2) :: shd p.2.2 W.K (mput W.Lo i s) :: dvk W.d W.V W.k :: F) := s'.gives (by exact Gives.cons (Take.next Take.here) (Gives.cons (Take.next (Take.next Take.here)) (Gives.last (Take.next (Take.next Take.here)))))
              exact ⟨rfl, shut_wal (p := p) s2⟩
          · rw [hk]
            have e : W.stE i s = 6 := by unfold Wl.stE; rw [ha, hho, if_neg (by simp), if_neg (by simp), if_neg (by omega), if_pos ⟨by omega, hk⟩]
            have e2 : W.st i s = W := by unfold Wl.st; rw [if_neg (by rw [e]; simp)]
            rw [e, e2]
            refine J_guard rfl rfl rfl ?_
            refine J_un_not rfl rfl rfl ?_
            refine J_pick_true rfl rfl rfl rfl ?_
            refine J_assign rfl rfl rfl ?_
            refine J_nil3 ?_
            refine E_then ?_
            refine R_cond_true rfl ?_
            refine R_seq ?_
            refine R_region ?_
            refine J_assign rfl rfl rfl ?_
            refine J_nil ?_
            refine E_then ?_
            refine R_ret ?_
            refine E_block_ret ?_
            refine E_then_ret ?_
            apply E_ret Tryz.results24
            · exact Res.tmp rfl (Res.nil)
            · intro w s
              exact ⟨rfl, shut_walX (p := p) (s.gives (by exact Gives.cons Take.here (Gives.cons (Take.next (Take.next Take.here)) (Gives.last (Take.next (Take.next Take.here))))))⟩
        · have e : W.stE i s = 0 := by unfold Wl.stE; rw [ha, hho, if_neg (by simp), if_neg (by simp), if_neg (by omega), if_neg (by rintro ⟨h, _⟩; omega)]
          have e2 : W.st i s = { W with Lo := mput W.Lo i s } := by unfold Wl.st; rw [if_pos e]
          rw [e, e2]
          refine J_callr rfl (shadow_Put p.2.2 W.K W.Lo i s _) (by exact Gives.refl) rfl rfl ?_
          refine J_nil3 ?_
          refine E_then ?_
          refine R_seq ?_
          refine R_region ?_
          refine J_assign rfl rfl rfl ?_
          refine J_nil ?_
          refine E_then ?_
          refine R_ret ?_
          apply E_ret Tryz.results24
          · exact Res.tmp rfl (Res.nil)
          · intro w s'
            have s2 : Sat w (walH b W p :: reg p.1 W.d W.fr 2 :: reg p.2.1 W.d (W.fr + 2) (W.many - 2) :: shd p.2.2 W.K (mput W.Lo i s) :: dvk W.d W.V W.k :: F) := s'.gives (by exact Gives.cons (Take.next Take.here) (Gives.cons (Take.next (Take.next Take.here)) (Gives.last (Take.next (Take.next Take.here)))))
            exact ⟨rfl, shut_wal (p := p) s2⟩
    · rw [hho]
      have e : W.stE i s = 3 := by unfold Wl.stE; rw [ha, hho, if_neg (by simp), if_pos rfl]
      have e2 : W.st i s = W := by unfold Wl.st; rw [if_neg (by rw [e]; simp)]
      rw [e, e2]
      refine J_un_not rfl rfl rfl ?_
      refine J_assign rfl rfl rfl ?_
      refine J_nil3 ?_
      refine E_then ?_
      refine R_cond_true rfl ?_
      refine R_seq ?_
      refine R_region ?_
      refine J_assign rfl rfl rfl ?_
      refine J_nil ?_
      refine E_then ?_
      refine R_ret ?_
      refine E_block_ret ?_
      refine E_then_ret ?_
      apply E_ret Tryz.results24
      · exact Res.tmp rfl (Res.nil)
      · intro w s
        exact ⟨rfl, shut_walX (p := p) (s.gives (by exact Gives.cons Take.here (Gives.cons (Take.next Take.here) (Gives.cons (Take.next Take.here) (Gives.last (Take.next Take.here))))))⟩
  · rw [ha]
    have e : W.stE i s = 10 := by unfold Wl.stE; rw [if_pos ha]
    have e2 : W.st i s = W := by unfold Wl.st; rw [if_neg (by rw [e]; simp)]
    rw [e, e2]
    refine J_un_not rfl rfl rfl ?_
    refine J_assign rfl rfl rfl ?_
    refine J_nil3 ?_
    refine E_then ?_
    refine R_cond_true rfl ?_
    refine R_seq ?_
    refine R_region ?_
    refine J_assign rfl rfl rfl ?_
    refine J_nil ?_
    refine E_then ?_
    refine R_ret ?_
    refine E_block_ret ?_
    refine E_then_ret ?_
    apply E_ret Tryz.results24
    · exact Res.tmp rfl (Res.nil)
    · intro w s
      exact ⟨rfl, shut_walX (p := p) (s.gives (by exact Gives.refl))⟩
end Go.Proofs.Sol
