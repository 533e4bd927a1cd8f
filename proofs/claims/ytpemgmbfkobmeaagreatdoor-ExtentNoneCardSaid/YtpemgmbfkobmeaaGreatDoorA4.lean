/- A log over a disk: begin, look, stage, read. -/
import Derived.Test.YtpemgmbfkobmeaaGreatDoorA3
import Derived.Test.YtpemgmbfkobmeaaGreatDoorA2
namespace Go.Proofs.Sol
open Go Go.Proofs
set_option maxRecDepth 100000
set_option maxHeartbeats 4000000
set_option linter.unusedVariables false
set_option linter.unusedSimpArgs false
attribute [local irreducible] R J JW E D Fn Y clf mpI own Sat Exit.then Exit.inBlock bodyPost bodyPostM Code.wpIn wpL
theorem wal_ActiveH (b : Nat) (W : Wl) (p : Nat × Nat × Nat) (F : List HP) : Fn Tryz.prog 33 [.pointer (some ⟨b, 0, none⟩)] (walH b W p :: F) (Pst (.bool W.act) (walH b W p :: F)) := by
  refine Fn_enter Tryz.func33 rfl Tryz.ntmps33 rfl ?_
  refine R_seq ?_
  refine R_region ?_
  refine J_assign rfl rfl rfl ?_
  refine J_nil ?_
  refine E_then ?_
  refine R_seq ?_
  refine R_region ?_
  refine J_move rfl rfl rfl ?_
  refine J_ptr_nil rfl rfl rfl rfl ?_
  refine J_move rfl rfl rfl ?_
  refine J_guard rfl rfl rfl ?_
  refine J_move rfl rfl rfl ?_
  refine J_guard rfl rfl rfl ?_
  refine J_nilCheck rfl rfl rfl ?_
  refine J_guard rfl rfl rfl ?_
  refine J_fieldAddr0 rfl rfl rfl ?_
  refine J_guard rfl rfl rfl ?_
  refine J_load rfl rfl rfl rfl ?_
  refine J_pick_true rfl rfl rfl rfl ?_
  refine J_assign rfl rfl rfl ?_
  refine J_nil3 ?_
  refine E_then ?_
  refine R_ret ?_
  apply E_retP Tryz.results33
  · exact Res.tmp rfl (Res.nil)
  · exact Gives.refl
  rfl
theorem wal_Active (b : Nat) (W : Wl) (F : List HP) : Fn Tryz.prog 33 [.pointer (some ⟨b, 0, none⟩)] (wal b W :: F) (Pst (.bool W.act) (wal b W :: F)) := by
  refine Fn.open_ (fun w h => open_wal h) ?_
  rintro p
  dsimp only [walL, List.cons_append, List.nil_append]
  refine (wal_ActiveH b W p _).mono Gives.refl ?_
  rintro v w ⟨h1, h2⟩
  exact ⟨h1, shut_wal h2⟩
theorem wal_Active0 (F : List HP) : Fn Tryz.prog 33 [.pointer none] F (Pst (.bool false) F) := by
  refine Fn_enter Tryz.func33 rfl Tryz.ntmps33 rfl ?_
  refine R_seq ?_
  refine R_region ?_
  refine J_assign rfl rfl rfl ?_
  refine J_nil ?_
  refine E_then ?_
  refine R_seq ?_
  refine R_region ?_
  refine J_move rfl rfl rfl ?_
  refine J_ptr_nil rfl rfl rfl rfl ?_
  refine J_move rfl rfl rfl ?_
  refine J_guard_not rfl rfl rfl rfl rfl rfl ?_
  refine J_guard_not rfl rfl rfl rfl rfl rfl ?_
  refine J_guard_not rfl rfl rfl rfl rfl rfl ?_
  refine J_guard_not rfl rfl rfl rfl rfl rfl ?_
  refine J_pick_false rfl rfl rfl rfl ?_
  refine J_assign rfl rfl rfl ?_
  refine J_nil3 ?_
  refine E_then ?_
  refine R_ret ?_
  apply E_retP Tryz.results33
  · exact Res.tmp rfl (Res.nil)
  · exact Gives.refl
  rfl
theorem wal_Begin (b : Nat) (W : Wl) (F : List HP) : Fn Tryz.prog 23 [.pointer (some ⟨b, 0, none⟩)] (wal b W :: F) (Pst (.int .i64 (if W.act then 10 else 0)) (wal b { W with act := true } :: F)) := by
  refine Fn.open_ (fun w h => open_wal h) ?_
  rintro p
  dsimp only [walL, List.cons_append, List.nil_append]
  obtain ⟨d, fr, many, gen, at_, seq, used, act, com, K, Lo, V, k⟩ := W
  cases act
  · dsimp only
    refine Fn_enter Tryz.func23 rfl Tryz.ntmps23 rfl ?_
    refine R_seq ?_
    refine R_region ?_
    refine J_assign rfl rfl rfl ?_
    refine J_nil ?_
    refine E_then ?_
    refine R_seq ?_
    refine R_seq ?_
    refine R_region ?_
    refine J_move rfl rfl rfl ?_
    refine J_ptr_nil rfl rfl rfl rfl ?_
    refine J_move rfl rfl rfl ?_
    refine J_guard rfl rfl rfl ?_
    refine J_move rfl rfl rfl ?_
    refine J_guard rfl rfl rfl ?_
    refine J_nilCheck rfl rfl rfl ?_
    refine J_guard rfl rfl rfl ?_
    refine J_fieldAddr0 rfl rfl rfl ?_
    refine J_guard rfl rfl rfl ?_
    refine J_load rfl rfl rfl rfl ?_
    refine J_pick_false rfl rfl rfl rfl ?_
    refine J_nil3 ?_
    refine E_then ?_
    refine R_cond_false rfl ?_
    refine R_skip ?_
    refine E_then ?_
    refine R_seq ?_
    refine R_region ?_
    refine J_move rfl rfl rfl ?_
    refine J_nilCheck rfl rfl rfl ?_
    refine J_fieldAddr0 rfl rfl rfl ?_
    refine J_store rfl rfl rfl rfl ?_
    refine J_nil3 ?_
    refine E_then ?_
    refine R_seq ?_
    refine R_region ?_
    refine J_assign rfl rfl rfl ?_
    refine J_nil ?_
    refine E_then ?_
    refine R_ret ?_
    apply E_ret Tryz.results23
    · exact Res.tmp rfl (Res.nil)
    · intro w s
      exact ⟨rfl, shut_wal s⟩
  · dsimp only
    refine Fn_enter Tryz.func23 rfl Tryz.ntmps23 rfl ?_
    refine R_seq ?_
    refine R_region ?_
    refine J_assign rfl rfl rfl ?_
    refine J_nil ?_
    refine E_then ?_
    refine R_seq ?_
    refine R_seq ?_
    refine R_region ?_
    refine J_move rfl rfl rfl ?_
    refine J_ptr_nil rfl rfl rfl rfl ?_
    refine J_move rfl rfl rfl ?_
    refine J_guard rfl rfl rfl ?_
    refine J_move rfl rfl rfl ?_
    refine J_guard rfl rfl rfl ?_
    refine J_nilCheck rfl rfl rfl ?_
    refine J_guard rfl rfl rfl ?_
    refine J_fieldAddr0 rfl rfl rfl ?_
    refine J_guard rfl rfl rfl ?_
    refine J_load rfl rfl rfl rfl ?_
    refine J_pick_false rfl rfl rfl rfl ?_
    refine J_nil3 ?_
    refine E_then ?_
    refine R_cond_true rfl ?_
    refine R_seq ?_
    refine R_region ?_
    refine J_assign rfl rfl rfl ?_
    refine J_nil ?_
    refine E_then ?_
    refine R_ret ?_
    refine E_then_ret ?_
    apply E_ret Tryz.results23
    · exact Res.tmp rfl (Res.nil)
    · intro w s
      exact ⟨rfl, shut_wal s⟩
theorem wal_homeH (b : Nat) (W : Wl) (p : Nat × Nat × Nat) (i : Int) (h1 : 0 ≤ W.fr ∧ W.fr ≤ 1000) (h2 : W.V.length ≤ 1000) (F : List HP) : Fn Tryz.prog 97 [.pointer (some ⟨b, 0, none⟩), .int .i64 i] (walH b W p :: dvk W.d W.V W.k :: F) (Pst (.bool (W.home i)) (walH b W p :: dvk W.d W.V W.k :: F)) := by
  unfold Wl.home homeB
  refine Fn_enter Tryz.func97 rfl Tryz.ntmps97 rfl ?_
  refine R_seq ?_
  refine R_region ?_
  refine J_assign rfl rfl rfl ?_
  refine J_nil ?_
  refine E_then ?_
  refine R_seq ?_
  by_cases c1 : 0 ≤ i
  · by_cases c2 : i < W.V.length
    · by_cases c3 : i < W.fr
      · skip
        refine R_draw ([walH b W p]) [32] (by kernel_rfl) ?_
        (refine D_lookP (i := 0) rfl (by kernel_rfl) (by exact NP_then NP_body) (by exact Y_move rfl) rfl rfl ?_)
        (refine D_lookP (i := 1) rfl (by kernel_rfl) (by exact NP_then NP_body) (by exact Y_cmpT rfl rfl rfl (by first | rfl | (simp only [decide_eq_true_eq, ge_iff_le, gt_iff_lt, beq_iff_eq, bne_iff_ne, ne_eq]; omega))) rfl rfl ?_)
        (refine D_lookP (i := 2) rfl (by kernel_rfl) (by exact NP_then NP_body) (by exact Y_move rfl) rfl rfl ?_)
        (first | refine D_lookGP (i := 3) rfl (by kernel_rfl) (by exact NP_then NP_body) rfl rfl rfl (by exact Y_move rfl) rfl rfl ?_ | refine D_skipP (i := 3) rfl (by kernel_rfl) (by skip) rfl rfl rfl rfl rfl rfl ?_ | refine D_skipUP (i := 3) rfl (by kernel_rfl) (by skip) rfl rfl rfl rfl rfl ?_)
        (first | refine D_lookGP (i := 4) rfl (by kernel_rfl) (by exact NP_then NP_body) rfl rfl rfl (by exact Y_move rfl) rfl rfl ?_ | refine D_skipP (i := 4) rfl (by kernel_rfl) (by skip) rfl rfl rfl rfl rfl rfl ?_ | refine D_skipUP (i := 4) rfl (by kernel_rfl) (by skip) rfl rfl rfl rfl rfl ?_)
        (first | refine D_lookGP (i := 5) rfl (by kernel_rfl) (by exact NP_then NP_body) rfl rfl rfl (by exact Y_nilCheck rfl) rfl rfl ?_ | refine D_skipP (i := 5) rfl (by kernel_rfl) (by skip) rfl rfl rfl rfl rfl rfl ?_ | refine D_skipUP (i := 5) rfl (by kernel_rfl) (by skip) rfl rfl rfl rfl rfl ?_)
        (first | refine D_lookGP (i := 6) rfl (by kernel_rfl) (by exact NP_then NP_body) rfl rfl rfl (by exact Y_fieldAddr0 rfl) rfl rfl ?_ | refine D_skipP (i := 6) rfl (by kernel_rfl) (by skip) rfl rfl rfl rfl rfl rfl ?_ | refine D_skipUP (i := 6) rfl (by kernel_rfl) (by skip) rfl rfl rfl rfl rfl ?_)
        (first | refine D_lookG (i := 7) rfl (by kernel_rfl) (by exact NP_then NP_body) (by exact Gives.cons Take.here Gives.nil) rfl rfl rfl (by exact Y_load rfl rfl) rfl rfl ?_ | refine D_skipP (i := 7) rfl (by kernel_rfl) (by skip) rfl rfl rfl rfl rfl rfl ?_ | refine D_skipUP (i := 7) rfl (by kernel_rfl) (by skip) rfl rfl rfl rfl rfl ?_)
        refine D_try1 (i := 8) (by kernel_rfl) rfl ?_
        refine J_guard rfl rfl rfl ?_
        refine J_callr rfl (diskv_Sectors W.d W.V W.k _) (by exact Gives.last (Take.next Take.here)) rfl rfl ?_
        refine D_next (by exact Gives.cons (Take.next Take.here) Gives.nil) ?_
        (first | refine D_lookGP (i := 9) rfl (by kernel_rfl) (by exact NP_then NP_body) rfl rfl rfl (by exact Y_cmpT rfl rfl rfl (by first | rfl | (simp only [decide_eq_true_eq, ge_iff_le, gt_iff_lt, beq_iff_eq, bne_iff_ne, ne_eq]; omega))) rfl rfl ?_ | refine D_skipP (i := 9) rfl (by kernel_rfl) (by skip) rfl rfl rfl rfl rfl rfl ?_ | refine D_skipUP (i := 9) rfl (by kernel_rfl) (by skip) rfl rfl rfl rfl rfl ?_)
        (refine D_lookP (i := 10) rfl (by kernel_rfl) (by exact NP_then NP_body) (by exact Y_pick_true rfl rfl) rfl rfl ?_)
        (refine D_lookP (i := 11) rfl (by kernel_rfl) (by exact NP_then NP_body) (by exact Y_move rfl) rfl rfl ?_)
        (first | refine D_lookGP (i := 12) rfl (by kernel_rfl) (by exact NP_then NP_body) rfl rfl rfl (by exact Y_move rfl) rfl rfl ?_ | refine D_skipP (i := 12) rfl (by kernel_rfl) (by skip) rfl rfl rfl rfl rfl rfl ?_ | refine D_skipUP (i := 12) rfl (by kernel_rfl) (by skip) rfl rfl rfl rfl rfl ?_)
        (first | refine D_lookGP (i := 13) rfl (by kernel_rfl) (by exact NP_then NP_body) rfl rfl rfl (by exact Y_move rfl) rfl rfl ?_ | refine D_skipP (i := 13) rfl (by kernel_rfl) (by skip) rfl rfl rfl rfl rfl rfl ?_ | refine D_skipUP (i := 13) rfl (by kernel_rfl) (by skip) rfl rfl rfl rfl rfl ?_)
        (first | refine D_lookGP (i := 14) rfl (by kernel_rfl) (by exact NP_then NP_body) rfl rfl rfl (by exact Y_nilCheck rfl) rfl rfl ?_ | refine D_skipP (i := 14) rfl (by kernel_rfl) (by skip) rfl rfl rfl rfl rfl rfl ?_ | refine D_skipUP (i := 14) rfl (by kernel_rfl) (by skip) rfl rfl rfl rfl rfl ?_)
        (first | refine D_lookGP (i := 15) rfl (by kernel_rfl) (by exact NP_then NP_body) rfl rfl rfl (by exact Y_fieldAddr0 rfl) rfl rfl ?_ | refine D_skipP (i := 15) rfl (by kernel_rfl) (by skip) rfl rfl rfl rfl rfl rfl ?_ | refine D_skipUP (i := 15) rfl (by kernel_rfl) (by skip) rfl rfl rfl rfl rfl ?_)
        (first | refine D_lookG (i := 16) rfl (by kernel_rfl) (by exact NP_then NP_body) (by exact Gives.cons (Take.next Take.here) Gives.nil) rfl rfl rfl (by exact Y_load rfl rfl) rfl rfl ?_ | refine D_skipP (i := 16) rfl (by kernel_rfl) (by skip) rfl rfl rfl rfl rfl rfl ?_ | refine D_skipUP (i := 16) rfl (by kernel_rfl) (by skip) rfl rfl rfl rfl rfl ?_)
        (first | refine D_lookGP (i := 17) rfl (by kernel_rfl) (by exact NP_then NP_body) rfl rfl rfl (by exact Y_cmpT rfl rfl rfl (by first | rfl | (simp only [decide_eq_true_eq, ge_iff_le, gt_iff_lt, beq_iff_eq, bne_iff_ne, ne_eq]; omega))) rfl rfl ?_ | refine D_skipP (i := 17) rfl (by kernel_rfl) (by skip) rfl rfl rfl rfl rfl rfl ?_ | refine D_skipUP (i := 17) rfl (by kernel_rfl) (by skip) rfl rfl rfl rfl rfl ?_)
        (first | refine D_lookGP (i := 18) rfl (by kernel_rfl) (by exact NP_then NP_body) rfl rfl rfl (by exact Y_move rfl) rfl rfl ?_ | refine D_skipP (i := 18) rfl (by kernel_rfl) (by skip) rfl rfl rfl rfl rfl rfl ?_ | refine D_skipUP (i := 18) rfl (by kernel_rfl) (by skip) rfl rfl rfl rfl rfl ?_)
        (first | refine D_lookGP (i := 19) rfl (by kernel_rfl) (by skip) rfl rfl rfl (by skip) rfl rfl ?_ | refine D_skipP (i := 19) rfl (by kernel_rfl) (by exact NP_then NP_body) rfl rfl rfl rfl rfl rfl ?_ | refine D_skipUP (i := 19) rfl (by kernel_rfl) (by skip) rfl rfl rfl rfl rfl ?_)
        (first | refine D_lookGP (i := 20) rfl (by kernel_rfl) (by skip) rfl rfl rfl (by skip) rfl rfl ?_ | refine D_skipP (i := 20) rfl (by kernel_rfl) (by exact NP_then NP_body) rfl rfl rfl rfl rfl rfl ?_ | refine D_skipUP (i := 20) rfl (by kernel_rfl) (by skip) rfl rfl rfl rfl rfl ?_)
        (first | refine D_lookGP (i := 21) rfl (by kernel_rfl) (by skip) rfl rfl rfl (by skip) rfl rfl ?_ | refine D_skipP (i := 21) rfl (by kernel_rfl) (by exact NP_then NP_body) rfl rfl rfl rfl rfl rfl ?_ | refine D_skipUP (i := 21) rfl (by kernel_rfl) (by skip) rfl rfl rfl rfl rfl ?_)
        (first | refine D_lookGP (i := 22) rfl (by kernel_rfl) (by skip) rfl rfl rfl (by skip) rfl rfl ?_ | refine D_skipP (i := 22) rfl (by kernel_rfl) (by exact NP_then NP_body) rfl rfl rfl rfl rfl rfl ?_ | refine D_skipUP (i := 22) rfl (by kernel_rfl) (by skip) rfl rfl rfl rfl rfl ?_)
        (first | refine D_lookG (i := 23) rfl (by kernel_rfl) (by skip) (by skip) rfl rfl rfl (by skip) rfl rfl ?_ | refine D_skipP (i := 23) rfl (by kernel_rfl) (by exact NP_then NP_body) rfl rfl rfl rfl rfl rfl ?_ | refine D_skipUP (i := 23) rfl (by kernel_rfl) (by skip) rfl rfl rfl rfl rfl ?_)
        (first | refine D_lookGP (i := 24) rfl (by kernel_rfl) (by skip) rfl rfl rfl (by skip) rfl rfl ?_ | refine D_skipP (i := 24) rfl (by kernel_rfl) (by exact NP_then NP_body) rfl rfl rfl rfl rfl rfl ?_ | refine D_skipUP (i := 24) rfl (by kernel_rfl) (by skip) rfl rfl rfl rfl rfl ?_)
        (first | refine D_lookGP (i := 25) rfl (by kernel_rfl) (by skip) rfl rfl rfl (by skip) rfl rfl ?_ | refine D_skipP (i := 25) rfl (by kernel_rfl) (by exact NP_then NP_body) rfl rfl rfl rfl rfl rfl ?_ | refine D_skipUP (i := 25) rfl (by kernel_rfl) (by skip) rfl rfl rfl rfl rfl ?_)
        (first | refine D_lookGP (i := 26) rfl (by kernel_rfl) (by skip) rfl rfl rfl (by skip) rfl rfl ?_ | refine D_skipP (i := 26) rfl (by kernel_rfl) (by exact NP_then NP_body) rfl rfl rfl rfl rfl rfl ?_ | refine D_skipUP (i := 26) rfl (by kernel_rfl) (by skip) rfl rfl rfl rfl rfl ?_)
        (first | refine D_lookGP (i := 27) rfl (by kernel_rfl) (by skip) rfl rfl rfl (by skip) rfl rfl ?_ | refine D_skipP (i := 27) rfl (by kernel_rfl) (by exact NP_then NP_body) rfl rfl rfl rfl rfl rfl ?_ | refine D_skipUP (i := 27) rfl (by kernel_rfl) (by skip) rfl rfl rfl rfl rfl ?_)
        (first | refine D_lookG (i := 28) rfl (by kernel_rfl) (by skip) (by skip) rfl rfl rfl (by skip) rfl rfl ?_ | refine D_skipP (i := 28) rfl (by kernel_rfl) (by exact NP_then NP_body) rfl rfl rfl rfl rfl rfl ?_ | refine D_skipUP (i := 28) rfl (by kernel_rfl) (by skip) rfl rfl rfl rfl rfl ?_)
        (first | refine D_lookGP (i := 29) rfl (by kernel_rfl) (by skip) rfl rfl rfl (by skip) rfl rfl ?_ | refine D_skipP (i := 29) rfl (by kernel_rfl) (by exact NP_then NP_body) rfl rfl rfl rfl rfl rfl ?_ | refine D_skipUP (i := 29) rfl (by kernel_rfl) (by skip) rfl rfl rfl rfl rfl ?_)
        (first | refine D_lookGP (i := 30) rfl (by kernel_rfl) (by exact NP_then NP_body) rfl rfl rfl (by exact Y_pick_true rfl rfl) rfl rfl ?_ | refine D_skipP (i := 30) rfl (by kernel_rfl) (by skip) rfl rfl rfl rfl rfl rfl ?_ | refine D_skipUP (i := 30) rfl (by kernel_rfl) (by skip) rfl rfl rfl rfl rfl ?_)
        (refine D_lookP (i := 31) rfl (by kernel_rfl) (by exact NP_then NP_body) (by exact Y_pick_true rfl rfl) rfl rfl ?_)
        refine D_try1 (i := 32) (by kernel_rfl) rfl ?_
        refine J_assign rfl rfl rfl ?_
        refine D_last (by kernel_rfl) ?_
        (first | refine D_end1 (by kernel_rfl) ?_ | refine D_end (by kernel_rfl) ?_)
        refine E_then ?_
        refine R_ret ?_
        apply E_retP Tryz.results97
        · exact Res.tmp rfl (Res.nil)
        · exact Gives.last (Take.next Take.here)
        simp [one, c1, c2, c3]
      · by_cases c4 : W.many ≤ i - W.fr
        · skip
          refine R_draw ([walH b W p]) [32] (by kernel_rfl) ?_
          (refine D_lookP (i := 0) rfl (by kernel_rfl) (by exact NP_then NP_body) (by exact Y_move rfl) rfl rfl ?_)
          (refine D_lookP (i := 1) rfl (by kernel_rfl) (by exact NP_then NP_body) (by exact Y_cmpT rfl rfl rfl (by first | rfl | (simp only [decide_eq_true_eq, ge_iff_le, gt_iff_lt, beq_iff_eq, bne_iff_ne, ne_eq]; omega))) rfl rfl ?_)
          (refine D_lookP (i := 2) rfl (by kernel_rfl) (by exact NP_then NP_body) (by exact Y_move rfl) rfl rfl ?_)
          (first | refine D_lookGP (i := 3) rfl (by kernel_rfl) (by exact NP_then NP_body) rfl rfl rfl (by exact Y_move rfl) rfl rfl ?_ | refine D_skipP (i := 3) rfl (by kernel_rfl) (by skip) rfl rfl rfl rfl rfl rfl ?_ | refine D_skipUP (i := 3) rfl (by kernel_rfl) (by skip) rfl rfl rfl rfl rfl ?_)
          (first | refine D_lookGP (i := 4) rfl (by kernel_rfl) (by exact NP_then NP_body) rfl rfl rfl (by exact Y_move rfl) rfl rfl ?_ | refine D_skipP (i := 4) rfl (by kernel_rfl) (by skip) rfl rfl rfl rfl rfl rfl ?_ | refine D_skipUP (i := 4) rfl (by kernel_rfl) (by skip) rfl rfl rfl rfl rfl ?_)
          (first | refine D_lookGP (i := 5) rfl (by kernel_rfl) (by exact NP_then NP_body) rfl rfl rfl (by exact Y_nilCheck rfl) rfl rfl ?_ | refine D_skipP (i := 5) rfl (by kernel_rfl) (by skip) rfl rfl rfl rfl rfl rfl ?_ | refine D_skipUP (i := 5) rfl (by kernel_rfl) (by skip) rfl rfl rfl rfl rfl ?_)
          (first | refine D_lookGP (i := 6) rfl (by kernel_rfl) (by exact NP_then NP_body) rfl rfl rfl (by exact Y_fieldAddr0 rfl) rfl rfl ?_ | refine D_skipP (i := 6) rfl (by kernel_rfl) (by skip) rfl rfl rfl rfl rfl rfl ?_ | refine D_skipUP (i := 6) rfl (by kernel_rfl) (by skip) rfl rfl rfl rfl rfl ?_)
          (first | refine D_lookG (i := 7) rfl (by kernel_rfl) (by exact NP_then NP_body) (by exact Gives.cons Take.here Gives.nil) rfl rfl rfl (by exact Y_load rfl rfl) rfl rfl ?_ | refine D_skipP (i := 7) rfl (by kernel_rfl) (by skip) rfl rfl rfl rfl rfl rfl ?_ | refine D_skipUP (i := 7) rfl (by kernel_rfl) (by skip) rfl rfl rfl rfl rfl ?_)
          refine D_try1 (i := 8) (by kernel_rfl) rfl ?_
          refine J_guard rfl rfl rfl ?_
          refine J_callr rfl (diskv_Sectors W.d W.V W.k _) (by exact Gives.last (Take.next Take.here)) rfl rfl ?_
          refine D_next (by exact Gives.cons (Take.next Take.here) Gives.nil) ?_
          (first | refine D_lookGP (i := 9) rfl (by kernel_rfl) (by exact NP_then NP_body) rfl rfl rfl (by exact Y_cmpT rfl rfl rfl (by first | rfl | (simp only [decide_eq_true_eq, ge_iff_le, gt_iff_lt, beq_iff_eq, bne_iff_ne, ne_eq]; omega))) rfl rfl ?_ | refine D_skipP (i := 9) rfl (by kernel_rfl) (by skip) rfl rfl rfl rfl rfl rfl ?_ | refine D_skipUP (i := 9) rfl (by kernel_rfl) (by skip) rfl rfl rfl rfl rfl ?_)
          (refine D_lookP (i := 10) rfl (by kernel_rfl) (by exact NP_then NP_body) (by exact Y_pick_true rfl rfl) rfl rfl ?_)
          (refine D_lookP (i := 11) rfl (by kernel_rfl) (by exact NP_then NP_body) (by exact Y_move rfl) rfl rfl ?_)
          (first | refine D_lookGP (i := 12) rfl (by kernel_rfl) (by exact NP_then NP_body) rfl rfl rfl (by exact Y_move rfl) rfl rfl ?_ | refine D_skipP (i := 12) rfl (by kernel_rfl) (by skip) rfl rfl rfl rfl rfl rfl ?_ | refine D_skipUP (i := 12) rfl (by kernel_rfl) (by skip) rfl rfl rfl rfl rfl ?_)
          (first | refine D_lookGP (i := 13) rfl (by kernel_rfl) (by exact NP_then NP_body) rfl rfl rfl (by exact Y_move rfl) rfl rfl ?_ | refine D_skipP (i := 13) rfl (by kernel_rfl) (by skip) rfl rfl rfl rfl rfl rfl ?_ | refine D_skipUP (i := 13) rfl (by kernel_rfl) (by skip) rfl rfl rfl rfl rfl ?_)
          (first | refine D_lookGP (i := 14) rfl (by kernel_rfl) (by exact NP_then NP_body) rfl rfl rfl (by exact Y_nilCheck rfl) rfl rfl ?_ | refine D_skipP (i := 14) rfl (by kernel_rfl) (by skip) rfl rfl rfl rfl rfl rfl ?_ | refine D_skipUP (i := 14) rfl (by kernel_rfl) (by skip) rfl rfl rfl rfl rfl ?_)
          (first | refine D_lookGP (i := 15) rfl (by kernel_rfl) (by exact NP_then NP_body) rfl rfl rfl (by exact Y_fieldAddr0 rfl) rfl rfl ?_ | refine D_skipP (i := 15) rfl (by kernel_rfl) (by skip) rfl rfl rfl rfl rfl rfl ?_ | refine D_skipUP (i := 15) rfl (by kernel_rfl) (by skip) rfl rfl rfl rfl rfl ?_)
          (first | refine D_lookG (i := 16) rfl (by kernel_rfl) (by exact NP_then NP_body) (by exact Gives.cons (Take.next Take.here) Gives.nil) rfl rfl rfl (by exact Y_load rfl rfl) rfl rfl ?_ | refine D_skipP (i := 16) rfl (by kernel_rfl) (by skip) rfl rfl rfl rfl rfl rfl ?_ | refine D_skipUP (i := 16) rfl (by kernel_rfl) (by skip) rfl rfl rfl rfl rfl ?_)
          (first | refine D_lookGP (i := 17) rfl (by kernel_rfl) (by exact NP_then NP_body) rfl rfl rfl (by exact Y_cmpF rfl rfl rfl (by first | rfl | (simp only [decide_eq_false_iff_not, ge_iff_le, gt_iff_lt, beq_eq_false_iff_ne, bne_eq_false_iff_eq, ne_eq]; omega))) rfl rfl ?_ | refine D_skipP (i := 17) rfl (by kernel_rfl) (by skip) rfl rfl rfl rfl rfl rfl ?_ | refine D_skipUP (i := 17) rfl (by kernel_rfl) (by skip) rfl rfl rfl rfl rfl ?_)
          (first | refine D_lookGP (i := 18) rfl (by kernel_rfl) (by exact NP_then NP_body) rfl rfl rfl (by exact Y_move rfl) rfl rfl ?_ | refine D_skipP (i := 18) rfl (by kernel_rfl) (by skip) rfl rfl rfl rfl rfl rfl ?_ | refine D_skipUP (i := 18) rfl (by kernel_rfl) (by skip) rfl rfl rfl rfl rfl ?_)
          (first | refine D_lookGP (i := 19) rfl (by kernel_rfl) (by exact NP_then NP_body) rfl rfl rfl (by exact Y_move rfl) rfl rfl ?_ | refine D_skipP (i := 19) rfl (by kernel_rfl) (by skip) rfl rfl rfl rfl rfl rfl ?_ | refine D_skipUP (i := 19) rfl (by kernel_rfl) (by skip) rfl rfl rfl rfl rfl ?_)
          (first | refine D_lookGP (i := 20) rfl (by kernel_rfl) (by exact NP_then NP_body) rfl rfl rfl (by exact Y_move rfl) rfl rfl ?_ | refine D_skipP (i := 20) rfl (by kernel_rfl) (by skip) rfl rfl rfl rfl rfl rfl ?_ | refine D_skipUP (i := 20) rfl (by kernel_rfl) (by skip) rfl rfl rfl rfl rfl ?_)
          (first | refine D_lookGP (i := 21) rfl (by kernel_rfl) (by exact NP_then NP_body) rfl rfl rfl (by exact Y_nilCheck rfl) rfl rfl ?_ | refine D_skipP (i := 21) rfl (by kernel_rfl) (by skip) rfl rfl rfl rfl rfl rfl ?_ | refine D_skipUP (i := 21) rfl (by kernel_rfl) (by skip) rfl rfl rfl rfl rfl ?_)
          (first | refine D_lookGP (i := 22) rfl (by kernel_rfl) (by exact NP_then NP_body) rfl rfl rfl (by exact Y_fieldAddr0 rfl) rfl rfl ?_ | refine D_skipP (i := 22) rfl (by kernel_rfl) (by skip) rfl rfl rfl rfl rfl rfl ?_ | refine D_skipUP (i := 22) rfl (by kernel_rfl) (by skip) rfl rfl rfl rfl rfl ?_)
          (first | refine D_lookG (i := 23) rfl (by kernel_rfl) (by exact NP_then NP_body) (by exact Gives.cons (Take.next Take.here) Gives.nil) rfl rfl rfl (by exact Y_load rfl rfl) rfl rfl ?_ | refine D_skipP (i := 23) rfl (by kernel_rfl) (by skip) rfl rfl rfl rfl rfl rfl ?_ | refine D_skipUP (i := 23) rfl (by kernel_rfl) (by skip) rfl rfl rfl rfl rfl ?_)
          (first | refine D_lookGP (i := 24) rfl (by kernel_rfl) (by exact NP_then NP_body) rfl rfl rfl (by exact Y_ari64 rfl rfl rfl (by omega)) rfl rfl ?_ | refine D_skipP (i := 24) rfl (by kernel_rfl) (by skip) rfl rfl rfl rfl rfl rfl ?_ | refine D_skipUP (i := 24) rfl (by kernel_rfl) (by skip) rfl rfl rfl rfl rfl ?_)
          (first | refine D_lookGP (i := 25) rfl (by kernel_rfl) (by exact NP_then NP_body) rfl rfl rfl (by exact Y_move rfl) rfl rfl ?_ | refine D_skipP (i := 25) rfl (by kernel_rfl) (by skip) rfl rfl rfl rfl rfl rfl ?_ | refine D_skipUP (i := 25) rfl (by kernel_rfl) (by skip) rfl rfl rfl rfl rfl ?_)
          (first | refine D_lookGP (i := 26) rfl (by kernel_rfl) (by exact NP_then NP_body) rfl rfl rfl (by exact Y_nilCheck rfl) rfl rfl ?_ | refine D_skipP (i := 26) rfl (by kernel_rfl) (by skip) rfl rfl rfl rfl rfl rfl ?_ | refine D_skipUP (i := 26) rfl (by kernel_rfl) (by skip) rfl rfl rfl rfl rfl ?_)
          (first | refine D_lookGP (i := 27) rfl (by kernel_rfl) (by exact NP_then NP_body) rfl rfl rfl (by exact Y_fieldAddr0 rfl) rfl rfl ?_ | refine D_skipP (i := 27) rfl (by kernel_rfl) (by skip) rfl rfl rfl rfl rfl rfl ?_ | refine D_skipUP (i := 27) rfl (by kernel_rfl) (by skip) rfl rfl rfl rfl rfl ?_)
          (first | refine D_lookG (i := 28) rfl (by kernel_rfl) (by exact NP_then NP_body) (by exact Gives.cons (Take.next Take.here) Gives.nil) rfl rfl rfl (by exact Y_load rfl rfl) rfl rfl ?_ | refine D_skipP (i := 28) rfl (by kernel_rfl) (by skip) rfl rfl rfl rfl rfl rfl ?_ | refine D_skipUP (i := 28) rfl (by kernel_rfl) (by skip) rfl rfl rfl rfl rfl ?_)
          (first | refine D_lookGP (i := 29) rfl (by kernel_rfl) (by exact NP_then NP_body) rfl rfl rfl (by exact Y_cmpT rfl rfl rfl (by first | rfl | (simp only [decide_eq_true_eq, ge_iff_le, gt_iff_lt, beq_iff_eq, bne_iff_ne, ne_eq]; omega))) rfl rfl ?_ | refine D_skipP (i := 29) rfl (by kernel_rfl) (by skip) rfl rfl rfl rfl rfl rfl ?_ | refine D_skipUP (i := 29) rfl (by kernel_rfl) (by skip) rfl rfl rfl rfl rfl ?_)
          (first | refine D_lookGP (i := 30) rfl (by kernel_rfl) (by exact NP_then NP_body) rfl rfl rfl (by exact Y_pick_false rfl rfl) rfl rfl ?_ | refine D_skipP (i := 30) rfl (by kernel_rfl) (by skip) rfl rfl rfl rfl rfl rfl ?_ | refine D_skipUP (i := 30) rfl (by kernel_rfl) (by skip) rfl rfl rfl rfl rfl ?_)
          (refine D_lookP (i := 31) rfl (by kernel_rfl) (by exact NP_then NP_body) (by exact Y_pick_true rfl rfl) rfl rfl ?_)
          refine D_try1 (i := 32) (by kernel_rfl) rfl ?_
          refine J_assign rfl rfl rfl ?_
          refine D_last (by kernel_rfl) ?_
          (first | refine D_end1 (by kernel_rfl) ?_ | refine D_end (by kernel_rfl) ?_)
          refine E_then ?_
          refine R_ret ?_
          apply E_retP Tryz.results97
          · exact Res.tmp rfl (Res.nil)
          · exact Gives.last (Take.next Take.here)
          simp [one, c1, c2, c3, c4]
        · skip
          refine R_draw ([walH b W p]) [32] (by kernel_rfl) ?_
          (refine D_lookP (i := 0) rfl (by kernel_rfl) (by exact NP_then NP_body) (by exact Y_move rfl) rfl rfl ?_)
          (refine D_lookP (i := 1) rfl (by kernel_rfl) (by exact NP_then NP_body) (by exact Y_cmpT rfl rfl rfl (by first | rfl | (simp only [decide_eq_true_eq, ge_iff_le, gt_iff_lt, beq_iff_eq, bne_iff_ne, ne_eq]; omega))) rfl rfl ?_)
          (refine D_lookP (i := 2) rfl (by kernel_rfl) (by exact NP_then NP_body) (by exact Y_move rfl) rfl rfl ?_)
          (first | refine D_lookGP (i := 3) rfl (by kernel_rfl) (by exact NP_then NP_body) rfl rfl rfl (by exact Y_move rfl) rfl rfl ?_ | refine D_skipP (i := 3) rfl (by kernel_rfl) (by skip) rfl rfl rfl rfl rfl rfl ?_ | refine D_skipUP (i := 3) rfl (by kernel_rfl) (by skip) rfl rfl rfl rfl rfl ?_)
          (first | refine D_lookGP (i := 4) rfl (by kernel_rfl) (by exact NP_then NP_body) rfl rfl rfl (by exact Y_move rfl) rfl rfl ?_ | refine D_skipP (i := 4) rfl (by kernel_rfl) (by skip) rfl rfl rfl rfl rfl rfl ?_ | refine D_skipUP (i := 4) rfl (by kernel_rfl) (by skip) rfl rfl rfl rfl rfl ?_)
          (first | refine D_lookGP (i := 5) rfl (by kernel_rfl) (by exact NP_then NP_body) rfl rfl rfl (by exact Y_nilCheck rfl) rfl rfl ?_ | refine D_skipP (i := 5) rfl (by kernel_rfl) (by skip) rfl rfl rfl rfl rfl rfl ?_ | refine D_skipUP (i := 5) rfl (by kernel_rfl) (by skip) rfl rfl rfl rfl rfl ?_)
          (first | refine D_lookGP (i := 6) rfl (by kernel_rfl) (by exact NP_then NP_body) rfl rfl rfl (by exact Y_fieldAddr0 rfl) rfl rfl ?_ | refine D_skipP (i := 6) rfl (by kernel_rfl) (by skip) rfl rfl rfl rfl rfl rfl ?_ | refine D_skipUP (i := 6) rfl (by kernel_rfl) (by skip) rfl rfl rfl rfl rfl ?_)
          (first | refine D_lookG (i := 7) rfl (by kernel_rfl) (by exact NP_then NP_body) (by exact Gives.cons Take.here Gives.nil) rfl rfl rfl (by exact Y_load rfl rfl) rfl rfl ?_ | refine D_skipP (i := 7) rfl (by kernel_rfl) (by skip) rfl rfl rfl rfl rfl rfl ?_ | refine D_skipUP (i := 7) rfl (by kernel_rfl) (by skip) rfl rfl rfl rfl rfl ?_)
          refine D_try1 (i := 8) (by kernel_rfl) rfl ?_
          refine J_guard rfl rfl rfl ?_
          refine J_callr rfl (diskv_Sectors W.d W.V W.k _) (by exact Gives.last (Take.next Take.here)) rfl rfl ?_
          refine D_next (by exact Gives.cons (Take.next Take.here) Gives.nil) ?_
          (first | refine D_lookGP (i := 9) rfl (by kernel_rfl) (by exact NP_then NP_body) rfl rfl rfl (by exact Y_cmpT rfl rfl rfl (by first | rfl | (simp only [decide_eq_true_eq, ge_iff_le, gt_iff_lt, beq_iff_eq, bne_iff_ne, ne_eq]; omega))) rfl rfl ?_ | refine D_skipP (i := 9) rfl (by kernel_rfl) (by skip) rfl rfl rfl rfl rfl rfl ?_ | refine D_skipUP (i := 9) rfl (by kernel_rfl) (by skip) rfl rfl rfl rfl rfl ?_)
          (refine D_lookP (i := 10) rfl (by kernel_rfl) (by exact NP_then NP_body) (by exact Y_pick_true rfl rfl) rfl rfl ?_)
          (refine D_lookP (i := 11) rfl (by kernel_rfl) (by exact NP_then NP_body) (by exact Y_move rfl) rfl rfl ?_)
          (first | refine D_lookGP (i := 12) rfl (by kernel_rfl) (by exact NP_then NP_body) rfl rfl rfl (by exact Y_move rfl) rfl rfl ?_ | refine D_skipP (i := 12) rfl (by kernel_rfl) (by skip) rfl rfl rfl rfl rfl rfl ?_ | refine D_skipUP (i := 12) rfl (by kernel_rfl) (by skip) rfl rfl rfl rfl rfl ?_)
          (first | refine D_lookGP (i := 13) rfl (by kernel_rfl) (by exact NP_then NP_body) rfl rfl rfl (by exact Y_move rfl) rfl rfl ?_ | refine D_skipP (i := 13) rfl (by kernel_rfl) (by skip) rfl rfl rfl rfl rfl rfl ?_ | refine D_skipUP (i := 13) rfl (by kernel_rfl) (by skip) rfl rfl rfl rfl rfl ?_)
          (first | refine D_lookGP (i := 14) rfl (by kernel_rfl) (by exact NP_then NP_body) rfl rfl rfl (by exact Y_nilCheck rfl) rfl rfl ?_ | refine D_skipP (i := 14) rfl (by kernel_rfl) (by skip) rfl rfl rfl rfl rfl rfl ?_ | refine D_skipUP (i := 14) rfl (by kernel_rfl) (by skip) rfl rfl rfl rfl rfl ?_)
          (first | refine D_lookGP (i := 15) rfl (by kernel_rfl) (by exact NP_then NP_body) rfl rfl rfl (by exact Y_fieldAddr0 rfl) rfl rfl ?_ | refine D_skipP (i := 15) rfl (by kernel_rfl) (by skip) rfl rfl rfl rfl rfl rfl ?_ | refine D_skipUP (i := 15) rfl (by kernel_rfl) (by skip) rfl rfl rfl rfl rfl ?_)
          (first | refine D_lookG (i := 16) rfl (by kernel_rfl) (by exact NP_then NP_body) (by exact Gives.cons (Take.next Take.here) Gives.nil) rfl rfl rfl (by exact Y_load rfl rfl) rfl rfl ?_ | refine D_skipP (i := 16) rfl (by kernel_rfl) (by skip) rfl rfl rfl rfl rfl rfl ?_ | refine D_skipUP (i := 16) rfl (by kernel_rfl) (by skip) rfl rfl rfl rfl rfl ?_)
          (first | refine D_lookGP (i := 17) rfl (by kernel_rfl) (by exact NP_then NP_body) rfl rfl rfl (by exact Y_cmpF rfl rfl rfl (by first | rfl | (simp only [decide_eq_false_iff_not, ge_iff_le, gt_iff_lt, beq_eq_false_iff_ne, bne_eq_false_iff_eq, ne_eq]; omega))) rfl rfl ?_ | refine D_skipP (i := 17) rfl (by kernel_rfl) (by skip) rfl rfl rfl rfl rfl rfl ?_ | refine D_skipUP (i := 17) rfl (by kernel_rfl) (by skip) rfl rfl rfl rfl rfl ?_)
          (first | refine D_lookGP (i := 18) rfl (by kernel_rfl) (by exact NP_then NP_body) rfl rfl rfl (by exact Y_move rfl) rfl rfl ?_ | refine D_skipP (i := 18) rfl (by kernel_rfl) (by skip) rfl rfl rfl rfl rfl rfl ?_ | refine D_skipUP (i := 18) rfl (by kernel_rfl) (by skip) rfl rfl rfl rfl rfl ?_)
          (first | refine D_lookGP (i := 19) rfl (by kernel_rfl) (by exact NP_then NP_body) rfl rfl rfl (by exact Y_move rfl) rfl rfl ?_ | refine D_skipP (i := 19) rfl (by kernel_rfl) (by skip) rfl rfl rfl rfl rfl rfl ?_ | refine D_skipUP (i := 19) rfl (by kernel_rfl) (by skip) rfl rfl rfl rfl rfl ?_)
          (first | refine D_lookGP (i := 20) rfl (by kernel_rfl) (by exact NP_then NP_body) rfl rfl rfl (by exact Y_move rfl) rfl rfl ?_ | refine D_skipP (i := 20) rfl (by kernel_rfl) (by skip) rfl rfl rfl rfl rfl rfl ?_ | refine D_skipUP (i := 20) rfl (by kernel_rfl) (by skip) rfl rfl rfl rfl rfl ?_)
          (first | refine D_lookGP (i := 21) rfl (by kernel_rfl) (by exact NP_then NP_body) rfl rfl rfl (by exact Y_nilCheck rfl) rfl rfl ?_ | refine D_skipP (i := 21) rfl (by kernel_rfl) (by skip) rfl rfl rfl rfl rfl rfl ?_ | refine D_skipUP (i := 21) rfl (by kernel_rfl) (by skip) rfl rfl rfl rfl rfl ?_)
          (first | refine D_lookGP (i := 22) rfl (by kernel_rfl) (by exact NP_then NP_body) rfl rfl rfl (by exact Y_fieldAddr0 rfl) rfl rfl ?_ | refine D_skipP (i := 22) rfl (by kernel_rfl) (by skip) rfl rfl rfl rfl rfl rfl ?_ | refine D_skipUP (i := 22) rfl (by kernel_rfl) (by skip) rfl rfl rfl rfl rfl ?_)
          (first | refine D_lookG (i := 23) rfl (by kernel_rfl) (by exact NP_then NP_body) (by exact Gives.cons (Take.next Take.here) Gives.nil) rfl rfl rfl (by exact Y_load rfl rfl) rfl rfl ?_ | refine D_skipP (i := 23) rfl (by kernel_rfl) (by skip) rfl rfl rfl rfl rfl rfl ?_ | refine D_skipUP (i := 23) rfl (by kernel_rfl) (by skip) rfl rfl rfl rfl rfl ?_)
          (first | refine D_lookGP (i := 24) rfl (by kernel_rfl) (by exact NP_then NP_body) rfl rfl rfl (by exact Y_ari64 rfl rfl rfl (by omega)) rfl rfl ?_ | refine D_skipP (i := 24) rfl (by kernel_rfl) (by skip) rfl rfl rfl rfl rfl rfl ?_ | refine D_skipUP (i := 24) rfl (by kernel_rfl) (by skip) rfl rfl rfl rfl rfl ?_)
          (first | refine D_lookGP (i := 25) rfl (by kernel_rfl) (by exact NP_then NP_body) rfl rfl rfl (by exact Y_move rfl) rfl rfl ?_ | refine D_skipP (i := 25) rfl (by kernel_rfl) (by skip) rfl rfl rfl rfl rfl rfl ?_ | refine D_skipUP (i := 25) rfl (by kernel_rfl) (by skip) rfl rfl rfl rfl rfl ?_)
          (first | refine D_lookGP (i := 26) rfl (by kernel_rfl) (by exact NP_then NP_body) rfl rfl rfl (by exact Y_nilCheck rfl) rfl rfl ?_ | refine D_skipP (i := 26) rfl (by kernel_rfl) (by skip) rfl rfl rfl rfl rfl rfl ?_ | refine D_skipUP (i := 26) rfl (by kernel_rfl) (by skip) rfl rfl rfl rfl rfl ?_)
          (first | refine D_lookGP (i := 27) rfl (by kernel_rfl) (by exact NP_then NP_body) rfl rfl rfl (by exact Y_fieldAddr0 rfl) rfl rfl ?_ | refine D_skipP (i := 27) rfl (by kernel_rfl) (by skip) rfl rfl rfl rfl rfl rfl ?_ | refine D_skipUP (i := 27) rfl (by kernel_rfl) (by skip) rfl rfl rfl rfl rfl ?_)
          (first | refine D_lookG (i := 28) rfl (by kernel_rfl) (by exact NP_then NP_body) (by exact Gives.cons (Take.next Take.here) Gives.nil) rfl rfl rfl (by exact Y_load rfl rfl) rfl rfl ?_ | refine D_skipP (i := 28) rfl (by kernel_rfl) (by skip) rfl rfl rfl rfl rfl rfl ?_ | refine D_skipUP (i := 28) rfl (by kernel_rfl) (by skip) rfl rfl rfl rfl rfl ?_)
          (first | refine D_lookGP (i := 29) rfl (by kernel_rfl) (by exact NP_then NP_body) rfl rfl rfl (by exact Y_cmpF rfl rfl rfl (by first | rfl | (simp only [decide_eq_false_iff_not, ge_iff_le, gt_iff_lt, beq_eq_false_iff_ne, bne_eq_false_iff_eq, ne_eq]; omega))) rfl rfl ?_ | refine D_skipP (i := 29) rfl (by kernel_rfl) (by skip) rfl rfl rfl rfl rfl rfl ?_ | refine D_skipUP (i := 29) rfl (by kernel_rfl) (by skip) rfl rfl rfl rfl rfl ?_)
          (first | refine D_lookGP (i := 30) rfl (by kernel_rfl) (by exact NP_then NP_body) rfl rfl rfl (by exact Y_pick_false rfl rfl) rfl rfl ?_ | refine D_skipP (i := 30) rfl (by kernel_rfl) (by skip) rfl rfl rfl rfl rfl rfl ?_ | refine D_skipUP (i := 30) rfl (by kernel_rfl) (by skip) rfl rfl rfl rfl rfl ?_)
          (refine D_lookP (i := 31) rfl (by kernel_rfl) (by exact NP_then NP_body) (by exact Y_pick_true rfl rfl) rfl rfl ?_)
          refine D_try1 (i := 32) (by kernel_rfl) rfl ?_
          refine J_assign rfl rfl rfl ?_
          refine D_last (by kernel_rfl) ?_
          (first | refine D_end1 (by kernel_rfl) ?_ | refine D_end (by kernel_rfl) ?_)
          refine E_then ?_
          refine R_ret ?_
          apply E_retP Tryz.results97
          · exact Res.tmp rfl (Res.nil)
          · exact Gives.last (Take.next Take.here)
          simp [one, c1, c2, c3, c4]
    · skip
      refine R_draw ([walH b W p]) [32] (by kernel_rfl) ?_
      (refine D_lookP (i := 0) rfl (by kernel_rfl) (by exact NP_then NP_body) (by exact Y_move rfl) rfl rfl ?_)
      (refine D_lookP (i := 1) rfl (by kernel_rfl) (by exact NP_then NP_body) (by exact Y_cmpT rfl rfl rfl (by first | rfl | (simp only [decide_eq_true_eq, ge_iff_le, gt_iff_lt, beq_iff_eq, bne_iff_ne, ne_eq]; omega))) rfl rfl ?_)
      (refine D_lookP (i := 2) rfl (by kernel_rfl) (by exact NP_then NP_body) (by exact Y_move rfl) rfl rfl ?_)
      (first | refine D_lookGP (i := 3) rfl (by kernel_rfl) (by exact NP_then NP_body) rfl rfl rfl (by exact Y_move rfl) rfl rfl ?_ | refine D_skipP (i := 3) rfl (by kernel_rfl) (by skip) rfl rfl rfl rfl rfl rfl ?_ | refine D_skipUP (i := 3) rfl (by kernel_rfl) (by skip) rfl rfl rfl rfl rfl ?_)
      (first | refine D_lookGP (i := 4) rfl (by kernel_rfl) (by exact NP_then NP_body) rfl rfl rfl (by exact Y_move rfl) rfl rfl ?_ | refine D_skipP (i := 4) rfl (by kernel_rfl) (by skip) rfl rfl rfl rfl rfl rfl ?_ | refine D_skipUP (i := 4) rfl (by kernel_rfl) (by skip) rfl rfl rfl rfl rfl ?_)
      (first | refine D_lookGP (i := 5) rfl (by kernel_rfl) (by exact NP_then NP_body) rfl rfl rfl (by exact Y_nilCheck rfl) rfl rfl ?_ | refine D_skipP (i := 5) rfl (by kernel_rfl) (by skip) rfl rfl rfl rfl rfl rfl ?_ | refine D_skipUP (i := 5) rfl (by kernel_rfl) (by skip) rfl rfl rfl rfl rfl ?_)
      (first | refine D_lookGP (i := 6) rfl (by kernel_rfl) (by exact NP_then NP_body) rfl rfl rfl (by exact Y_fieldAddr0 rfl) rfl rfl ?_ | refine D_skipP (i := 6) rfl (by kernel_rfl) (by skip) rfl rfl rfl rfl rfl rfl ?_ | refine D_skipUP (i := 6) rfl (by kernel_rfl) (by skip) rfl rfl rfl rfl rfl ?_)
      (first | refine D_lookG (i := 7) rfl (by kernel_rfl) (by exact NP_then NP_body) (by exact Gives.cons Take.here Gives.nil) rfl rfl rfl (by exact Y_load rfl rfl) rfl rfl ?_ | refine D_skipP (i := 7) rfl (by kernel_rfl) (by skip) rfl rfl rfl rfl rfl rfl ?_ | refine D_skipUP (i := 7) rfl (by kernel_rfl) (by skip) rfl rfl rfl rfl rfl ?_)
      refine D_try1 (i := 8) (by kernel_rfl) rfl ?_
      refine J_guard rfl rfl rfl ?_
      refine J_callr rfl (diskv_Sectors W.d W.V W.k _) (by exact Gives.last (Take.next Take.here)) rfl rfl ?_
      refine D_next (by exact Gives.cons (Take.next Take.here) Gives.nil) ?_
      (first | refine D_lookGP (i := 9) rfl (by kernel_rfl) (by exact NP_then NP_body) rfl rfl rfl (by exact Y_cmpF rfl rfl rfl (by first | rfl | (simp only [decide_eq_false_iff_not, ge_iff_le, gt_iff_lt, beq_eq_false_iff_ne, bne_eq_false_iff_eq, ne_eq]; omega))) rfl rfl ?_ | refine D_skipP (i := 9) rfl (by kernel_rfl) (by skip) rfl rfl rfl rfl rfl rfl ?_ | refine D_skipUP (i := 9) rfl (by kernel_rfl) (by skip) rfl rfl rfl rfl rfl ?_)
      (refine D_lookP (i := 10) rfl (by kernel_rfl) (by exact NP_then NP_body) (by exact Y_pick_true rfl rfl) rfl rfl ?_)
      (refine D_lookP (i := 11) rfl (by kernel_rfl) (by exact NP_then NP_body) (by exact Y_move rfl) rfl rfl ?_)
      (first | refine D_lookGP (i := 12) rfl (by kernel_rfl) (by skip) rfl rfl rfl (by skip) rfl rfl ?_ | refine D_skipP (i := 12) rfl (by kernel_rfl) (by exact NP_then NP_body) rfl rfl rfl rfl rfl rfl ?_ | refine D_skipUP (i := 12) rfl (by kernel_rfl) (by skip) rfl rfl rfl rfl rfl ?_)
      (first | refine D_lookGP (i := 13) rfl (by kernel_rfl) (by skip) rfl rfl rfl (by skip) rfl rfl ?_ | refine D_skipP (i := 13) rfl (by kernel_rfl) (by exact NP_then NP_body) rfl rfl rfl rfl rfl rfl ?_ | refine D_skipUP (i := 13) rfl (by kernel_rfl) (by skip) rfl rfl rfl rfl rfl ?_)
      (first | refine D_lookGP (i := 14) rfl (by kernel_rfl) (by skip) rfl rfl rfl (by skip) rfl rfl ?_ | refine D_skipP (i := 14) rfl (by kernel_rfl) (by exact NP_then NP_body) rfl rfl rfl rfl rfl rfl ?_ | refine D_skipUP (i := 14) rfl (by kernel_rfl) (by skip) rfl rfl rfl rfl rfl ?_)
      (first | refine D_lookGP (i := 15) rfl (by kernel_rfl) (by skip) rfl rfl rfl (by skip) rfl rfl ?_ | refine D_skipP (i := 15) rfl (by kernel_rfl) (by exact NP_then NP_body) rfl rfl rfl rfl rfl rfl ?_ | refine D_skipUP (i := 15) rfl (by kernel_rfl) (by skip) rfl rfl rfl rfl rfl ?_)
      (first | refine D_lookG (i := 16) rfl (by kernel_rfl) (by skip) (by skip) rfl rfl rfl (by skip) rfl rfl ?_ | refine D_skipP (i := 16) rfl (by kernel_rfl) (by exact NP_then NP_body) rfl rfl rfl rfl rfl rfl ?_ | refine D_skipUP (i := 16) rfl (by kernel_rfl) (by skip) rfl rfl rfl rfl rfl ?_)
      (first | refine D_lookGP (i := 17) rfl (by kernel_rfl) (by skip) rfl rfl rfl (by skip) rfl rfl ?_ | refine D_skipP (i := 17) rfl (by kernel_rfl) (by exact NP_then NP_body) rfl rfl rfl rfl rfl rfl ?_ | refine D_skipUP (i := 17) rfl (by kernel_rfl) (by skip) rfl rfl rfl rfl rfl ?_)
      (first | refine D_lookGP (i := 18) rfl (by kernel_rfl) (by skip) rfl rfl rfl (by skip) rfl rfl ?_ | refine D_skipP (i := 18) rfl (by kernel_rfl) (by exact NP_then NP_body) rfl rfl rfl rfl rfl rfl ?_ | refine D_skipUP (i := 18) rfl (by kernel_rfl) (by skip) rfl rfl rfl rfl rfl ?_)
      (first | refine D_lookGP (i := 19) rfl (by kernel_rfl) (by skip) rfl rfl rfl (by skip) rfl rfl ?_ | refine D_skipP (i := 19) rfl (by kernel_rfl) (by skip) rfl rfl rfl rfl rfl rfl ?_ | refine D_skipUP (i := 19) rfl (by kernel_rfl) (by exact NP_then NP_body) rfl rfl rfl rfl rfl ?_)
      (first | refine D_lookGP (i := 20) rfl (by kernel_rfl) (by skip) rfl rfl rfl (by skip) rfl rfl ?_ | refine D_skipP (i := 20) rfl (by kernel_rfl) (by skip) rfl rfl rfl rfl rfl rfl ?_ | refine D_skipUP (i := 20) rfl (by kernel_rfl) (by exact NP_then NP_body) rfl rfl rfl rfl rfl ?_)
      (first | refine D_lookGP (i := 21) rfl (by kernel_rfl) (by skip) rfl rfl rfl (by skip) rfl rfl ?_ | refine D_skipP (i := 21) rfl (by kernel_rfl) (by skip) rfl rfl rfl rfl rfl rfl ?_ | refine D_skipUP (i := 21) rfl (by kernel_rfl) (by exact NP_then NP_body) rfl rfl rfl rfl rfl ?_)
      (first | refine D_lookGP (i := 22) rfl (by kernel_rfl) (by skip) rfl rfl rfl (by skip) rfl rfl ?_ | refine D_skipP (i := 22) rfl (by kernel_rfl) (by skip) rfl rfl rfl rfl rfl rfl ?_ | refine D_skipUP (i := 22) rfl (by kernel_rfl) (by exact NP_then NP_body) rfl rfl rfl rfl rfl ?_)
      (first | refine D_lookG (i := 23) rfl (by kernel_rfl) (by skip) (by skip) rfl rfl rfl (by skip) rfl rfl ?_ | refine D_skipP (i := 23) rfl (by kernel_rfl) (by skip) rfl rfl rfl rfl rfl rfl ?_ | refine D_skipUP (i := 23) rfl (by kernel_rfl) (by exact NP_then NP_body) rfl rfl rfl rfl rfl ?_)
      (first | refine D_lookGP (i := 24) rfl (by kernel_rfl) (by skip) rfl rfl rfl (by skip) rfl rfl ?_ | refine D_skipP (i := 24) rfl (by kernel_rfl) (by skip) rfl rfl rfl rfl rfl rfl ?_ | refine D_skipUP (i := 24) rfl (by kernel_rfl) (by exact NP_then NP_body) rfl rfl rfl rfl rfl ?_)
      (first | refine D_lookGP (i := 25) rfl (by kernel_rfl) (by skip) rfl rfl rfl (by skip) rfl rfl ?_ | refine D_skipP (i := 25) rfl (by kernel_rfl) (by skip) rfl rfl rfl rfl rfl rfl ?_ | refine D_skipUP (i := 25) rfl (by kernel_rfl) (by exact NP_then NP_body) rfl rfl rfl rfl rfl ?_)
      (first | refine D_lookGP (i := 26) rfl (by kernel_rfl) (by skip) rfl rfl rfl (by skip) rfl rfl ?_ | refine D_skipP (i := 26) rfl (by kernel_rfl) (by skip) rfl rfl rfl rfl rfl rfl ?_ | refine D_skipUP (i := 26) rfl (by kernel_rfl) (by exact NP_then NP_body) rfl rfl rfl rfl rfl ?_)
      (first | refine D_lookGP (i := 27) rfl (by kernel_rfl) (by skip) rfl rfl rfl (by skip) rfl rfl ?_ | refine D_skipP (i := 27) rfl (by kernel_rfl) (by skip) rfl rfl rfl rfl rfl rfl ?_ | refine D_skipUP (i := 27) rfl (by kernel_rfl) (by exact NP_then NP_body) rfl rfl rfl rfl rfl ?_)
      (first | refine D_lookG (i := 28) rfl (by kernel_rfl) (by skip) (by skip) rfl rfl rfl (by skip) rfl rfl ?_ | refine D_skipP (i := 28) rfl (by kernel_rfl) (by skip) rfl rfl rfl rfl rfl rfl ?_ | refine D_skipUP (i := 28) rfl (by kernel_rfl) (by exact NP_then NP_body) rfl rfl rfl rfl rfl ?_)
      (first | refine D_lookGP (i := 29) rfl (by kernel_rfl) (by skip) rfl rfl rfl (by skip) rfl rfl ?_ | refine D_skipP (i := 29) rfl (by kernel_rfl) (by skip) rfl rfl rfl rfl rfl rfl ?_ | refine D_skipUP (i := 29) rfl (by kernel_rfl) (by exact NP_then NP_body) rfl rfl rfl rfl rfl ?_)
      (first | refine D_lookGP (i := 30) rfl (by kernel_rfl) (by skip) rfl rfl rfl (by skip) rfl rfl ?_ | refine D_skipP (i := 30) rfl (by kernel_rfl) (by exact NP_then NP_body) rfl rfl rfl rfl rfl rfl ?_ | refine D_skipUP (i := 30) rfl (by kernel_rfl) (by skip) rfl rfl rfl rfl rfl ?_)
      (refine D_lookP (i := 31) rfl (by kernel_rfl) (by exact NP_then NP_body) (by exact Y_pick_false rfl rfl) rfl rfl ?_)
      refine D_try1 (i := 32) (by kernel_rfl) rfl ?_
      refine J_assign rfl rfl rfl ?_
      refine D_last (by kernel_rfl) ?_
      (first | refine D_end1 (by kernel_rfl) ?_ | refine D_end (by kernel_rfl) ?_)
      refine E_then ?_
      refine R_ret ?_
      apply E_retP Tryz.results97
      · exact Res.tmp rfl (Res.nil)
      · exact Gives.last (Take.next Take.here)
      simp [one, c1, c2]
  · skip
    refine R_draw ([walH b W p]) [32] (by kernel_rfl) ?_
    (refine D_lookP (i := 0) rfl (by kernel_rfl) (by exact NP_then NP_body) (by exact Y_move rfl) rfl rfl ?_)
    (refine D_lookP (i := 1) rfl (by kernel_rfl) (by exact NP_then NP_body) (by exact Y_cmpF rfl rfl rfl (by first | rfl | (simp only [decide_eq_false_iff_not, ge_iff_le, gt_iff_lt, beq_eq_false_iff_ne, bne_eq_false_iff_eq, ne_eq]; omega))) rfl rfl ?_)
    (refine D_lookP (i := 2) rfl (by kernel_rfl) (by exact NP_then NP_body) (by exact Y_move rfl) rfl rfl ?_)
    (first | refine D_lookGP (i := 3) rfl (by kernel_rfl) (by skip) rfl rfl rfl (by skip) rfl rfl ?_ | refine D_skipP (i := 3) rfl (by kernel_rfl) (by exact NP_then NP_body) rfl rfl rfl rfl rfl rfl ?_ | refine D_skipUP (i := 3) rfl (by kernel_rfl) (by skip) rfl rfl rfl rfl rfl ?_)
    (first | refine D_lookGP (i := 4) rfl (by kernel_rfl) (by skip) rfl rfl rfl (by skip) rfl rfl ?_ | refine D_skipP (i := 4) rfl (by kernel_rfl) (by exact NP_then NP_body) rfl rfl rfl rfl rfl rfl ?_ | refine D_skipUP (i := 4) rfl (by kernel_rfl) (by skip) rfl rfl rfl rfl rfl ?_)
    (first | refine D_lookGP (i := 5) rfl (by kernel_rfl) (by skip) rfl rfl rfl (by skip) rfl rfl ?_ | refine D_skipP (i := 5) rfl (by kernel_rfl) (by exact NP_then NP_body) rfl rfl rfl rfl rfl rfl ?_ | refine D_skipUP (i := 5) rfl (by kernel_rfl) (by skip) rfl rfl rfl rfl rfl ?_)
    (first | refine D_lookGP (i := 6) rfl (by kernel_rfl) (by skip) rfl rfl rfl (by skip) rfl rfl ?_ | refine D_skipP (i := 6) rfl (by kernel_rfl) (by exact NP_then NP_body) rfl rfl rfl rfl rfl rfl ?_ | refine D_skipUP (i := 6) rfl (by kernel_rfl) (by skip) rfl rfl rfl rfl rfl ?_)
    (first | refine D_lookG (i := 7) rfl (by kernel_rfl) (by skip) (by skip) rfl rfl rfl (by skip) rfl rfl ?_ | refine D_skipP (i := 7) rfl (by kernel_rfl) (by exact NP_then NP_body) rfl rfl rfl rfl rfl rfl ?_ | refine D_skipUP (i := 7) rfl (by kernel_rfl) (by skip) rfl rfl rfl rfl rfl ?_)
    refine D_try1 (i := 8) (by kernel_rfl) rfl ?_
    refine J_guard_not rfl rfl rfl rfl rfl rfl ?_
    refine D_next (by exact Gives.cons Take.here Gives.nil) ?_
    (first | refine D_lookGP (i := 9) rfl (by kernel_rfl) (by skip) rfl rfl rfl (by skip) rfl rfl ?_ | refine D_skipP (i := 9) rfl (by kernel_rfl) (by exact NP_then NP_body) rfl rfl rfl rfl rfl rfl ?_ | refine D_skipUP (i := 9) rfl (by kernel_rfl) (by skip) rfl rfl rfl rfl rfl ?_)
    (refine D_lookP (i := 10) rfl (by kernel_rfl) (by exact NP_then NP_body) (by exact Y_pick_false rfl rfl) rfl rfl ?_)
    (refine D_lookP (i := 11) rfl (by kernel_rfl) (by exact NP_then NP_body) (by exact Y_move rfl) rfl rfl ?_)
    (first | refine D_lookGP (i := 12) rfl (by kernel_rfl) (by skip) rfl rfl rfl (by skip) rfl rfl ?_ | refine D_skipP (i := 12) rfl (by kernel_rfl) (by exact NP_then NP_body) rfl rfl rfl rfl rfl rfl ?_ | refine D_skipUP (i := 12) rfl (by kernel_rfl) (by skip) rfl rfl rfl rfl rfl ?_)
    (first | refine D_lookGP (i := 13) rfl (by kernel_rfl) (by skip) rfl rfl rfl (by skip) rfl rfl ?_ | refine D_skipP (i := 13) rfl (by kernel_rfl) (by exact NP_then NP_body) rfl rfl rfl rfl rfl rfl ?_ | refine D_skipUP (i := 13) rfl (by kernel_rfl) (by skip) rfl rfl rfl rfl rfl ?_)
    (first | refine D_lookGP (i := 14) rfl (by kernel_rfl) (by skip) rfl rfl rfl (by skip) rfl rfl ?_ | refine D_skipP (i := 14) rfl (by kernel_rfl) (by exact NP_then NP_body) rfl rfl rfl rfl rfl rfl ?_ | refine D_skipUP (i := 14) rfl (by kernel_rfl) (by skip) rfl rfl rfl rfl rfl ?_)
    (first | refine D_lookGP (i := 15) rfl (by kernel_rfl) (by skip) rfl rfl rfl (by skip) rfl rfl ?_ | refine D_skipP (i := 15) rfl (by kernel_rfl) (by exact NP_then NP_body) rfl rfl rfl rfl rfl rfl ?_ | refine D_skipUP (i := 15) rfl (by kernel_rfl) (by skip) rfl rfl rfl rfl rfl ?_)
    (first | refine D_lookG (i := 16) rfl (by kernel_rfl) (by skip) (by skip) rfl rfl rfl (by skip) rfl rfl ?_ | refine D_skipP (i := 16) rfl (by kernel_rfl) (by exact NP_then NP_body) rfl rfl rfl rfl rfl rfl ?_ | refine D_skipUP (i := 16) rfl (by kernel_rfl) (by skip) rfl rfl rfl rfl rfl ?_)
    (first | refine D_lookGP (i := 17) rfl (by kernel_rfl) (by skip) rfl rfl rfl (by skip) rfl rfl ?_ | refine D_skipP (i := 17) rfl (by kernel_rfl) (by exact NP_then NP_body) rfl rfl rfl rfl rfl rfl ?_ | refine D_skipUP (i := 17) rfl (by kernel_rfl) (by skip) rfl rfl rfl rfl rfl ?_)
    (first | refine D_lookGP (i := 18) rfl (by kernel_rfl) (by skip) rfl rfl rfl (by skip) rfl rfl ?_ | refine D_skipP (i := 18) rfl (by kernel_rfl) (by exact NP_then NP_body) rfl rfl rfl rfl rfl rfl ?_ | refine D_skipUP (i := 18) rfl (by kernel_rfl) (by skip) rfl rfl rfl rfl rfl ?_)
    (first | refine D_lookGP (i := 19) rfl (by kernel_rfl) (by skip) rfl rfl rfl (by skip) rfl rfl ?_ | refine D_skipP (i := 19) rfl (by kernel_rfl) (by skip) rfl rfl rfl rfl rfl rfl ?_ | refine D_skipUP (i := 19) rfl (by kernel_rfl) (by exact NP_then NP_body) rfl rfl rfl rfl rfl ?_)
    (first | refine D_lookGP (i := 20) rfl (by kernel_rfl) (by skip) rfl rfl rfl (by skip) rfl rfl ?_ | refine D_skipP (i := 20) rfl (by kernel_rfl) (by skip) rfl rfl rfl rfl rfl rfl ?_ | refine D_skipUP (i := 20) rfl (by kernel_rfl) (by exact NP_then NP_body) rfl rfl rfl rfl rfl ?_)
    (first | refine D_lookGP (i := 21) rfl (by kernel_rfl) (by skip) rfl rfl rfl (by skip) rfl rfl ?_ | refine D_skipP (i := 21) rfl (by kernel_rfl) (by skip) rfl rfl rfl rfl rfl rfl ?_ | refine D_skipUP (i := 21) rfl (by kernel_rfl) (by exact NP_then NP_body) rfl rfl rfl rfl rfl ?_)
    (first | refine D_lookGP (i := 22) rfl (by kernel_rfl) (by skip) rfl rfl rfl (by skip) rfl rfl ?_ | refine D_skipP (i := 22) rfl (by kernel_rfl) (by skip) rfl rfl rfl rfl rfl rfl ?_ | refine D_skipUP (i := 22) rfl (by kernel_rfl) (by exact NP_then NP_body) rfl rfl rfl rfl rfl ?_)
    (first | refine D_lookG (i := 23) rfl (by kernel_rfl) (by skip) (by skip) rfl rfl rfl (by skip) rfl rfl ?_ | refine D_skipP (i := 23) rfl (by kernel_rfl) (by skip) rfl rfl rfl rfl rfl rfl ?_ | refine D_skipUP (i := 23) rfl (by kernel_rfl) (by exact NP_then NP_body) rfl rfl rfl rfl rfl ?_)
    (first | refine D_lookGP (i := 24) rfl (by kernel_rfl) (by skip) rfl rfl rfl (by skip) rfl rfl ?_ | refine D_skipP (i := 24) rfl (by kernel_rfl) (by skip) rfl rfl rfl rfl rfl rfl ?_ | refine D_skipUP (i := 24) rfl (by kernel_rfl) (by exact NP_then NP_body) rfl rfl rfl rfl rfl ?_)
    (first | refine D_lookGP (i := 25) rfl (by kernel_rfl) (by skip) rfl rfl rfl (by skip) rfl rfl ?_ | refine D_skipP (i := 25) rfl (by kernel_rfl) (by skip) rfl rfl rfl rfl rfl rfl ?_ | refine D_skipUP (i := 25) rfl (by kernel_rfl) (by exact NP_then NP_body) rfl rfl rfl rfl rfl ?_)
    (first | refine D_lookGP (i := 26) rfl (by kernel_rfl) (by skip) rfl rfl rfl (by skip) rfl rfl ?_ | refine D_skipP (i := 26) rfl (by kernel_rfl) (by skip) rfl rfl rfl rfl rfl rfl ?_ | refine D_skipUP (i := 26) rfl (by kernel_rfl) (by exact NP_then NP_body) rfl rfl rfl rfl rfl ?_)
    (first | refine D_lookGP (i := 27) rfl (by kernel_rfl) (by skip) rfl rfl rfl (by skip) rfl rfl ?_ | refine D_skipP (i := 27) rfl (by kernel_rfl) (by skip) rfl rfl rfl rfl rfl rfl ?_ | refine D_skipUP (i := 27) rfl (by kernel_rfl) (by exact NP_then NP_body) rfl rfl rfl rfl rfl ?_)
    (first | refine D_lookG (i := 28) rfl (by kernel_rfl) (by skip) (by skip) rfl rfl rfl (by skip) rfl rfl ?_ | refine D_skipP (i := 28) rfl (by kernel_rfl) (by skip) rfl rfl rfl rfl rfl rfl ?_ | refine D_skipUP (i := 28) rfl (by kernel_rfl) (by exact NP_then NP_body) rfl rfl rfl rfl rfl ?_)
    (first | refine D_lookGP (i := 29) rfl (by kernel_rfl) (by skip) rfl rfl rfl (by skip) rfl rfl ?_ | refine D_skipP (i := 29) rfl (by kernel_rfl) (by skip) rfl rfl rfl rfl rfl rfl ?_ | refine D_skipUP (i := 29) rfl (by kernel_rfl) (by exact NP_then NP_body) rfl rfl rfl rfl rfl ?_)
    (first | refine D_lookGP (i := 30) rfl (by kernel_rfl) (by skip) rfl rfl rfl (by skip) rfl rfl ?_ | refine D_skipP (i := 30) rfl (by kernel_rfl) (by exact NP_then NP_body) rfl rfl rfl rfl rfl rfl ?_ | refine D_skipUP (i := 30) rfl (by kernel_rfl) (by skip) rfl rfl rfl rfl rfl ?_)
    (refine D_lookP (i := 31) rfl (by kernel_rfl) (by exact NP_then NP_body) (by exact Y_pick_false rfl rfl) rfl rfl ?_)
    refine D_try1 (i := 32) (by kernel_rfl) rfl ?_
    refine J_assign rfl rfl rfl ?_
    refine D_last (by kernel_rfl) ?_
    (first | refine D_end1 (by kernel_rfl) ?_ | refine D_end (by kernel_rfl) ?_)
    refine E_then ?_
    refine R_ret ?_
    apply E_retP Tryz.results97
    · exact Res.tmp rfl (Res.nil)
    · exact Gives.refl
    simp [one, c1]
end Go.Proofs.Sol

/- Reading fields. -/
namespace Go.Proofs.Sol
open Go Go.Proofs
set_option maxRecDepth 100000
set_option maxHeartbeats 4000000
set_option linter.unusedVariables false
set_option linter.unusedSimpArgs false
attribute [local irreducible] R J JW E D Fn Y clf mpI own Sat Exit.then Exit.inBlock bodyPost bodyPostM Code.wpIn wpL
/-- A reader: what is left, and what is wrong. -/
structure Rd where
  rest : List UInt8
  err : Int
abbrev rdr (b : Nat) (r : Rd) : HP := cl b 254 [.string (S r.rest), .int .i64 r.err]
def Rd.fail (r : Rd) (e : Int) : Rd := if r.err = 0 then ⟨r.rest, e⟩ else r
theorem field_New (s : List UInt8) (F : List HP) : Fn Tryz.prog 129 [.string (S s)] F (fun v w => ∃ b, v = .pointer (some ⟨b, 0, none⟩) ∧ Sat w (rdr b ⟨s, 0⟩ :: F)) := by
  refine Fn_enter Tryz.func129 rfl Tryz.ntmps129 rfl ?_
  refine R_seq ?_
  refine R_region ?_
  refine J_assign rfl rfl rfl ?_
  refine J_nil ?_
  refine E_then ?_
  refine R_seq ?_
  refine R_region ?_
  refine J_move rfl rfl rfl ?_
  refine J_build rfl rfl rfl rfl ?_
  refine J_boxA rfl rfl rfl ?_; intro
  refine J_assign rfl rfl rfl ?_
  refine J_nil2 ?_
  refine E_then ?_
  refine R_ret ?_
  apply E_ret Tryz.results129
  · exact Res.tmp rfl (Res.nil)
  · intro w s
    exact ⟨_, rfl, s⟩
theorem field_fail (b : Nat) (r : Rd) (e : Int) (F : List HP) : Fn Tryz.prog 191 [.pointer (some ⟨b, 0, none⟩), .int .i64 e] (rdr b r :: F) (Pst (.tuple #[]) (rdr b (r.fail e) :: F)) := by
  refine Fn_enter Tryz.func191 rfl Tryz.ntmps191 rfl ?_
  by_cases h : r.err = 0
  · simp only [rdr, Rd.fail, h, if_true]
    refine R_seq ?_
    refine R_region ?_
    refine J_move rfl rfl rfl ?_
    refine J_nilCheck rfl rfl rfl ?_
    refine J_fieldAddr0 rfl rfl rfl ?_
    refine J_load rfl rfl rfl rfl ?_
    refine J_cmp rfl rfl rfl rfl rfl ?_
    refine J_nil3 ?_
    refine E_then ?_
    refine R_cond_true rfl ?_
    refine R_region ?_
    refine J_move rfl rfl rfl ?_
    refine J_move rfl rfl rfl ?_
    refine J_nilCheck rfl rfl rfl ?_
    refine J_fieldAddr0 rfl rfl rfl ?_
    refine J_store rfl rfl rfl rfl ?_
    refine J_nil3 ?_
    apply E_endP Tryz.results191
    · exact Res.nil
    · exact Gives.refl
    rfl
  · simp only [rdr, Rd.fail, h, if_false]
    refine R_seq ?_
    refine R_region ?_
    refine J_move rfl rfl rfl ?_
    refine J_nilCheck rfl rfl rfl ?_
    refine J_fieldAddr0 rfl rfl rfl ?_
    refine J_load rfl rfl rfl rfl ?_
    refine J_cmp rfl rfl rfl rfl rfl ?_
    refine J_nil3 ?_
    refine E_then ?_
    refine R_cond rfl (fun hh => ?_) (fun hh => ?_)
    simp only [decide_eq_true_eq, decide_eq_false_iff_not, Bool.and_eq_true, Bool.or_eq_true, Bool.not_eq_true', Bool.not_eq_false', beq_iff_eq, bne_iff_ne, beq_eq_false_iff_ne, bne_eq_false_iff_eq, ne_eq, ge_iff_le, gt_iff_lt, Int.not_le, Int.not_lt, Bool.and_eq_false_iff, Bool.or_eq_false_iff, Decidable.not_not] at hh
    exfalso; omega
    simp only [decide_eq_true_eq, decide_eq_false_iff_not, Bool.and_eq_true, Bool.or_eq_true, Bool.not_eq_true', Bool.not_eq_false', beq_iff_eq, bne_iff_ne, beq_eq_false_iff_ne, bne_eq_false_iff_eq, ne_eq, ge_iff_le, gt_iff_lt, Int.not_le, Int.not_lt, Bool.and_eq_false_iff, Bool.or_eq_false_iff, Decidable.not_not] at hh
    refine R_skip ?_
    apply E_endP Tryz.results191
    · exact Res.nil
    · exact Gives.refl
    rfl
def Rd.got (r : Rd) (n : Int) : List UInt8 := if r.err = 0 ∧ 0 ≤ n ∧ n ≤ r.rest.length then r.rest.take n.toNat else []
def Rd.next (r : Rd) (n : Int) : Rd := if r.err = 0 then (if n < 0 then ⟨r.rest, 3⟩ else if n ≤ r.rest.length then ⟨r.rest.drop n.toNat, 0⟩ else ⟨r.rest, 1⟩) else r
theorem field_Bytes (b : Nat) (r : Rd) (n : Int) (F : List HP) : Fn Tryz.prog 130 [.pointer (some ⟨b, 0, none⟩), .int .i64 n] (rdr b r :: F) (Pst (.string (S (r.got n))) (rdr b (r.next n) :: F)) := by
  refine Fn_enter Tryz.func130 rfl Tryz.ntmps130 rfl ?_
  obtain ⟨s, e⟩ := r
  refine R_seq ?_
  refine R_region ?_
  refine J_assign rfl rfl rfl ?_
  refine J_nil ?_
  refine E_then ?_
  refine R_seq ?_
  refine R_seq ?_
  refine R_region ?_
  refine J_move rfl rfl rfl ?_
  refine J_ptr_nil rfl rfl rfl rfl ?_
  refine J_nil2 ?_
  refine E_then ?_
  refine R_cond_false rfl ?_
  refine R_skip ?_
  refine E_then ?_
  refine R_seq ?_
  refine R_seq ?_
  refine R_region ?_
  refine J_move rfl rfl rfl ?_
  refine J_cmp rfl rfl rfl rfl rfl ?_
  refine J_nil2 ?_
  refine E_then ?_
  refine R_cond rfl (fun hh => ?_) (fun hh => ?_)
  simp only [decide_eq_true_eq, decide_eq_false_iff_not, Bool.and_eq_true, Bool.or_eq_true, Bool.not_eq_true', Bool.not_eq_false', beq_iff_eq, bne_iff_ne, beq_eq_false_iff_ne, bne_eq_false_iff_eq, ne_eq, ge_iff_le, gt_iff_lt, Int.not_le, Int.not_lt, Bool.and_eq_false_iff, Bool.or_eq_false_iff, Decidable.not_not] at hh
  refine R_region ?_
  refine J_move rfl rfl rfl ?_
  rotate_left
  simp only [decide_eq_true_eq, decide_eq_false_iff_not, Bool.and_eq_true, Bool.or_eq_true, Bool.not_eq_true', Bool.not_eq_false', beq_iff_eq, bne_iff_ne, beq_eq_false_iff_ne, bne_eq_false_iff_eq, ne_eq, ge_iff_le, gt_iff_lt, Int.not_le, Int.not_lt, Bool.and_eq_false_iff, Bool.or_eq_false_iff, Decidable.not_not] at hh
  refine R_seq ?_
  refine R_region ?_
  refine J_move rfl rfl rfl ?_
  refine J_move rfl rfl rfl ?_
  refine J_nilCheck rfl rfl rfl ?_
  refine J_fieldAddr0 rfl rfl rfl ?_
  refine J_load rfl rfl rfl rfl ?_
  refine J_len_str rfl rfl rfl ?_
  refine J_cmp rfl rfl rfl rfl rfl ?_
  refine J_nil3 ?_
  refine E_then ?_
  refine R_cond rfl (fun hh => ?_) (fun hh => ?_)
  simp only [decide_eq_true_eq, decide_eq_false_iff_not, Bool.and_eq_true, Bool.or_eq_true, Bool.not_eq_true', Bool.not_eq_false', beq_iff_eq, bne_iff_ne, beq_eq_false_iff_ne, bne_eq_false_iff_eq, ne_eq, ge_iff_le, gt_iff_lt, Int.not_le, Int.not_lt, Bool.and_eq_false_iff, Bool.or_eq_false_iff, Decidable.not_not] at hh
  refine R_region ?_
  refine J_move rfl rfl rfl ?_
  rotate_left
  simp only [decide_eq_true_eq, decide_eq_false_iff_not, Bool.and_eq_true, Bool.or_eq_true, Bool.not_eq_true', Bool.not_eq_false', beq_iff_eq, bne_iff_ne, beq_eq_false_iff_ne, bne_eq_false_iff_eq, ne_eq, ge_iff_le, gt_iff_lt, Int.not_le, Int.not_lt, Bool.and_eq_false_iff, Bool.or_eq_false_iff, Decidable.not_not] at hh
  refine R_skip ?_
  refine E_then ?_
  refine R_seq ?_
  refine R_seq ?_
  refine R_region ?_
  refine J_move rfl rfl rfl ?_
  refine J_nilCheck rfl rfl rfl ?_
  refine J_fieldAddr0 rfl rfl rfl ?_
  refine J_load rfl rfl rfl rfl ?_
  refine J_cmp rfl rfl rfl rfl rfl ?_
  refine J_nil3 ?_
  refine E_then ?_
  refine R_cond rfl (fun hh => ?_) (fun hh => ?_)
  simp only [decide_eq_true_eq, decide_eq_false_iff_not, Bool.and_eq_true, Bool.or_eq_true, Bool.not_eq_true', Bool.not_eq_false', beq_iff_eq, bne_iff_ne, beq_eq_false_iff_ne, bne_eq_false_iff_eq, ne_eq, ge_iff_le, gt_iff_lt, Int.not_le, Int.not_lt, Bool.and_eq_false_iff, Bool.or_eq_false_iff, Decidable.not_not] at hh
  refine R_seq ?_
  refine R_region ?_
  refine J_assign rfl rfl rfl ?_
  refine J_nil ?_
  refine E_then ?_
  refine R_ret ?_
  refine E_then_ret ?_
  rotate_left
  simp only [decide_eq_true_eq, decide_eq_false_iff_not, Bool.and_eq_true, Bool.or_eq_true, Bool.not_eq_true', Bool.not_eq_false', beq_iff_eq, bne_iff_ne, beq_eq_false_iff_ne, bne_eq_false_iff_eq, ne_eq, ge_iff_le, gt_iff_lt, Int.not_le, Int.not_lt, Bool.and_eq_false_iff, Bool.or_eq_false_iff, Decidable.not_not] at hh
  refine R_skip ?_
  refine E_then ?_
  refine R_seq ?_
  refine R_region ?_
  refine J_move rfl rfl rfl ?_
  refine J_nilCheck rfl rfl rfl ?_
  refine J_fieldAddr0 rfl rfl rfl ?_
  refine J_load rfl rfl rfl rfl ?_
  refine J_move rfl rfl rfl ?_
  refine J_slice_hi rfl rfl (by omega) (by omega) rfl rfl ?_
  refine J_assign rfl rfl rfl ?_
  refine J_nil3 ?_
  refine E_then ?_
  refine R_seq ?_
  refine R_region ?_
  refine J_move rfl rfl rfl ?_
  refine J_move rfl rfl rfl ?_
  refine J_nilCheck rfl rfl rfl ?_
  refine J_fieldAddr0 rfl rfl rfl ?_
  refine J_load rfl rfl rfl rfl ?_
  refine J_move rfl rfl rfl ?_
  refine J_slice_lo rfl rfl (by omega) (by omega) rfl rfl ?_
  refine J_nilCheck rfl rfl rfl ?_
  refine J_fieldAddr0 rfl rfl rfl ?_
  refine J_store rfl rfl rfl rfl ?_
  refine J_nil3 ?_
  refine E_then ?_
  refine R_seq ?_
  refine R_region ?_
  refine J_move rfl rfl rfl ?_
  refine J_assign rfl rfl rfl ?_
  refine J_nil1 ?_
  refine E_then ?_
  refine R_ret ?_
  rotate_left
  · refine J_callr rfl (field_fail _ _ _ _) (by exact Gives.refl) rfl rfl ?_
    by_cases he : e = 0
    · simp only [rdr, Rd.fail, Rd.got, Rd.next, he, hh, if_true]
      refine J_nil2 ?_
      refine E_then ?_
      refine R_seq ?_
      refine R_seq ?_
      refine R_region ?_
      refine J_move rfl rfl rfl ?_
      refine J_nilCheck rfl rfl rfl ?_
      refine J_fieldAddr0 rfl rfl rfl ?_
      refine J_load rfl rfl rfl rfl ?_
      refine J_cmp rfl rfl rfl rfl rfl ?_
      refine J_nil3 ?_
      refine E_then ?_
      refine R_cond_true rfl ?_
      refine R_seq ?_
      refine R_region ?_
      refine J_assign rfl rfl rfl ?_
      refine J_nil ?_
      refine E_then ?_
      refine R_ret ?_
      refine E_then_ret ?_
      apply E_retP Tryz.results130
      · exact Res.tmp rfl (Res.nil)
      · exact Gives.refl
      simp [one]
      omega
    · simp only [rdr, Rd.fail, Rd.got, Rd.next, he, if_false, false_and]
      refine J_nil2 ?_
      refine E_then ?_
      refine R_seq ?_
      refine R_seq ?_
      refine R_region ?_
      refine J_move rfl rfl rfl ?_
      refine J_nilCheck rfl rfl rfl ?_
      refine J_fieldAddr0 rfl rfl rfl ?_
      refine J_load rfl rfl rfl rfl ?_
      refine J_cmp rfl rfl rfl rfl rfl ?_
      refine J_nil3 ?_
      refine E_then ?_
      refine R_cond rfl (fun hh => ?_) (fun hh => ?_)
      simp only [decide_eq_true_eq, decide_eq_false_iff_not, Bool.and_eq_true, Bool.or_eq_true, Bool.not_eq_true', Bool.not_eq_false', beq_iff_eq, bne_iff_ne, beq_eq_false_iff_ne, bne_eq_false_iff_eq, ne_eq, ge_iff_le, gt_iff_lt, Int.not_le, Int.not_lt, Bool.and_eq_false_iff, Bool.or_eq_false_iff, Decidable.not_not] at hh
      refine R_seq ?_
      refine R_region ?_
      refine J_assign rfl rfl rfl ?_
      refine J_nil ?_
      refine E_then ?_
      refine R_ret ?_
      refine E_then_ret ?_
      rotate_left
      simp only [decide_eq_true_eq, decide_eq_false_iff_not, Bool.and_eq_true, Bool.or_eq_true, Bool.not_eq_true', Bool.not_eq_false', beq_iff_eq, bne_iff_ne, beq_eq_false_iff_ne, bne_eq_false_iff_eq, ne_eq, ge_iff_le, gt_iff_lt, Int.not_le, Int.not_lt, Bool.and_eq_false_iff, Bool.or_eq_false_iff, Decidable.not_not] at hh
      exfalso; omega
      apply E_retP Tryz.results130
      · exact Res.tmp rfl (Res.nil)
      · exact Gives.refl
      rfl
  · refine J_callr rfl (field_fail _ _ _ _) (by exact Gives.refl) rfl rfl ?_
    by_cases he : e = 0
    · have h1 : ¬ n < 0 := by omega
      have h2 : ¬ n ≤ (s.length : Int) := by omega
      simp only [rdr, Rd.fail, Rd.got, Rd.next, he, h1, h2, if_true, if_false, and_false]
      refine J_nil2 ?_
      refine E_then ?_
      refine R_seq ?_
      refine R_seq ?_
      refine R_region ?_
      refine J_move rfl rfl rfl ?_
      refine J_nilCheck rfl rfl rfl ?_
      refine J_fieldAddr0 rfl rfl rfl ?_
      refine J_load rfl rfl rfl rfl ?_
      refine J_cmp rfl rfl rfl rfl rfl ?_
      refine J_nil3 ?_
      refine E_then ?_
      refine R_cond_true rfl ?_
      refine R_seq ?_
      refine R_region ?_
      refine J_assign rfl rfl rfl ?_
      refine J_nil ?_
      refine E_then ?_
      refine R_ret ?_
      refine E_then_ret ?_
      apply E_retP Tryz.results130
      · exact Res.tmp rfl (Res.nil)
      · exact Gives.refl
      rfl
    · simp only [rdr, Rd.fail, Rd.got, Rd.next, he, if_false, false_and]
      refine J_nil2 ?_
      refine E_then ?_
      refine R_seq ?_
      refine R_seq ?_
      refine R_region ?_
      refine J_move rfl rfl rfl ?_
      refine J_nilCheck rfl rfl rfl ?_
      refine J_fieldAddr0 rfl rfl rfl ?_
      refine J_load rfl rfl rfl rfl ?_
      refine J_cmp rfl rfl rfl rfl rfl ?_
      refine J_nil3 ?_
      refine E_then ?_
      refine R_cond rfl (fun hh => ?_) (fun hh => ?_)
      simp only [decide_eq_true_eq, decide_eq_false_iff_not, Bool.and_eq_true, Bool.or_eq_true, Bool.not_eq_true', Bool.not_eq_false', beq_iff_eq, bne_iff_ne, beq_eq_false_iff_ne, bne_eq_false_iff_eq, ne_eq, ge_iff_le, gt_iff_lt, Int.not_le, Int.not_lt, Bool.and_eq_false_iff, Bool.or_eq_false_iff, Decidable.not_not] at hh
      refine R_seq ?_
      refine R_region ?_
      refine J_assign rfl rfl rfl ?_
      refine J_nil ?_
      refine E_then ?_
      refine R_ret ?_
      refine E_then_ret ?_
      rotate_left
      simp only [decide_eq_true_eq, decide_eq_false_iff_not, Bool.and_eq_true, Bool.or_eq_true, Bool.not_eq_true', Bool.not_eq_false', beq_iff_eq, bne_iff_ne, beq_eq_false_iff_ne, bne_eq_false_iff_eq, ne_eq, ge_iff_le, gt_iff_lt, Int.not_le, Int.not_lt, Bool.and_eq_false_iff, Bool.or_eq_false_iff, Decidable.not_not] at hh
      exfalso; omega
      apply E_retP Tryz.results130
      · exact Res.tmp rfl (Res.nil)
      · exact Gives.refl
      rfl
  · simp only [rdr, Rd.fail, Rd.got, Rd.next, hh, if_false, false_and]
    skip
    apply E_retP Tryz.results130
    · exact Res.tmp rfl (Res.nil)
    · exact Gives.refl
    rfl
  · have h1 : ¬ n < 0 := by omega
    have h2 : n ≤ (s.length : Int) := by omega
    have h3 : 0 ≤ n := by omega
    subst hh
    have g1 : Rd.got ⟨s, 0⟩ n = s.take n.toNat := by simp [Rd.got, h2, h3]
    have g2 : Rd.next ⟨s, 0⟩ n = ⟨s.drop n.toNat, 0⟩ := by simp [Rd.next, h1, h2]
    rw [g1, g2]
    skip
    apply E_retP Tryz.results130
    · exact Res.tmp rfl (Res.nil)
    · exact Gives.refl
    rfl
theorem or_i64 {x : Int} {c : UInt8} (h0 : 0 ≤ x) (h1 : x < 36028797018963968) : bitI .or .i64 (x * 256) (c.toNat : Int) = x * 256 + (c.toNat : Int) := by
  have hc := c.toNat_lt
  obtain ⟨m, rfl⟩ : ∃ m : Nat, x = (m : Int) := ⟨x.toNat, by omega⟩
  have e64 : IntKind.i64.bits = 64 := rfl
  show IntKind.i64.wrap ((BitVec.ofInt 64 ((m : Int) * 256) ||| BitVec.ofInt 64 (c.toNat : Int)).toNat : Int) = _
  have e1 : BitVec.ofInt 64 ((m : Int) * 256) = BitVec.ofNat 64 (m * 256) := by
    rw [← BitVec.ofInt_natCast]; congr 1
  have e2 : BitVec.ofInt 64 (c.toNat : Int) = BitVec.ofNat 64 c.toNat := BitVec.ofInt_natCast ..
  rw [e1, e2, BitVec.toNat_or, BitVec.toNat_ofNat, BitVec.toNat_ofNat, Nat.mod_eq_of_lt (by omega), Nat.mod_eq_of_lt (by omega)]
  have e3 : m * 256 ||| c.toNat = m * 256 + c.toNat := by
    have := Nat.two_pow_add_eq_or_of_lt (i := 8) (b := c.toNat) (by omega) m
    rw [Nat.mul_comm m 256]
    exact this.symm
  rw [e3, wrap64_in (by omega)]
  omega
theorem num_take_snoc {s : List UInt8} {k : Nat} (h : k < s.length) : num (s.take (k + 1)) = num (s.take k) * 256 + s[k].toNat := by
  rw [List.take_succ_eq_append_getElem h, num_snoc]
def Rd.num (r : Rd) (k : Int) : Int := (Sol.num (r.got k) : Int)
theorem got_le (r : Rd) (k : Int) (h : 0 ≤ k) : (r.got k).length ≤ k.toNat := by
  unfold Rd.got; split <;> simp; omega
theorem field_Num (b : Nat) (r : Rd) (k : Int) (hk : 1 ≤ k ∧ k ≤ 7) (F : List HP) : Fn Tryz.prog 131 [.pointer (some ⟨b, 0, none⟩), .int .i64 k] (rdr b r :: F) (Pst (.int .i64 (r.num k)) (rdr b (r.next k) :: F)) := by
  refine Fn_enter Tryz.func131 rfl Tryz.ntmps131 rfl ?_
  have hw : (decide (1 ≤ k) && decide (k ≤ 7)) = true := by simp; omega
  refine R_seq ?_
  refine R_region ?_
  refine J_assign rfl rfl rfl ?_
  refine J_nil ?_
  refine E_then ?_
  refine R_seq ?_
  refine R_seq ?_
  refine R_region ?_
  refine J_move rfl rfl rfl ?_
  refine J_ptr_nil rfl rfl rfl rfl ?_
  refine J_nil2 ?_
  refine E_then ?_
  refine R_cond_false rfl ?_
  refine R_skip ?_
  refine E_then ?_
  refine R_seq ?_
  refine R_seq ?_
  refine R_region ?_
  refine J_move rfl rfl rfl ?_
  refine J_callr rfl (field_width _ _) (by exact Gives.refl) rfl rfl ?_
  simp only [hw]
  refine J_un_not rfl rfl rfl ?_
  refine J_nil3 ?_
  refine E_then ?_
  refine R_cond_false rfl ?_
  refine R_skip ?_
  refine E_then ?_
  refine R_seq ?_
  refine R_region ?_
  refine J_assign rfl rfl rfl ?_
  refine J_nil ?_
  refine E_then ?_
  refine R_seq ?_
  refine R_seq ?_
  refine R_region ?_
  refine J_move rfl rfl rfl ?_
  refine J_move rfl rfl rfl ?_
  refine J_callr rfl (field_Bytes _ _ _ _) (by exact Gives.refl) rfl rfl ?_
  have hle := got_le r k (by omega)
  generalize hs : r.got k = s at hle ⊢
  refine J_strToBytes rfl rfl rfl ?_
  intro b2 cp sp kk
  have h7 : 256 ^ k.toNat ≤ 256 ^ 7 := Nat.pow_le_pow_right (by omega) (by omega)
  have hp : ∀ j, num (s.take j) < 72057594037927936 := fun j => by
    have h1 := num_lt (s.take j)
    have h2 : 256 ^ (s.take j).length ≤ 256 ^ 7 := Nat.pow_le_pow_right (by omega) (by simp; omega)
    omega
  refine J_len_slice rfl rfl rfl ?_
  refine J_move rfl rfl rfl ?_
  refine J_nil3 ?_
  refine E_then ?_
  refine R_block ?_
  refine R_loop (X := {j : Nat // j ≤ s.length}) (fun j => [(20, .int .i64 (j.1 : Int)), (19, .int .i64 (s.length : Int)), (18, .slice (some ⟨b2, 0, none⟩) s.length cp), (5, .int .i64 (num (s.take j.1) : Int))])
      (fun _ => clf b2 5 (s.map byv ++ sp) kk (kk + 1) :: rdr b (r.next k) :: F) (fun j => s.length - j.1) ⟨0, by omega⟩ (by exact sub_cons rfl (sub_cons rfl (sub_cons rfl (sub_cons rfl sub_nil)))) Gives.refl ?_
  rintro ⟨j, hj⟩
  dsimp only
  refine R_seq ?_
  refine R_region ?_
  refine J_cmp rfl rfl rfl rfl rfl ?_
  refine J_nil1 ?_
  refine E_then ?_
  refine R_seq ?_
  refine R_cond rfl (fun hh => ?_) (fun hh => ?_)
  simp only [decide_eq_true_eq, decide_eq_false_iff_not, Bool.and_eq_true, Bool.or_eq_true, Bool.not_eq_true', Bool.not_eq_false', beq_iff_eq, bne_iff_ne, beq_eq_false_iff_ne, bne_eq_false_iff_eq, ne_eq, ge_iff_le, gt_iff_lt, Int.not_le, Int.not_lt, Bool.and_eq_false_iff, Bool.or_eq_false_iff, Decidable.not_not] at hh
  refine R_skip ?_
  refine E_then ?_
  refine R_seq ?_
  refine R_block ?_
  refine R_seq ?_
  refine R_region ?_
  refine J_indexAddr rfl rfl (by omega) (by omega) rfl rfl ?_
  rotate_left
  simp only [decide_eq_true_eq, decide_eq_false_iff_not, Bool.and_eq_true, Bool.or_eq_true, Bool.not_eq_true', Bool.not_eq_false', beq_iff_eq, bne_iff_ne, beq_eq_false_iff_ne, bne_eq_false_iff_eq, ne_eq, ge_iff_le, gt_iff_lt, Int.not_le, Int.not_lt, Bool.and_eq_false_iff, Bool.or_eq_false_iff, Decidable.not_not] at hh
  refine R_exit ?_
  refine E_then_exit ?_
  refine E_then_exit ?_
  refine E_block_hit ?_
  refine E_then ?_
  refine R_seq ?_
  refine R_region ?_
  refine J_move rfl rfl rfl ?_
  refine J_assign rfl rfl rfl ?_
  refine J_nil1 ?_
  refine E_then ?_
  refine R_ret ?_
  rotate_left
  · have hlt : j < s.length := by omega
    have e1 : (0 + (j : Int).toNat * 1) = j := by omega
    rw [e1]
    refine J_loadX (v := byv s[j]) rfl (by rw [List.getElem?_append_left (by simpa using hlt)]; simp [hlt]) rfl rfl ?_
    refine J_assign rfl rfl rfl ?_
    refine J_nil2 ?_
    refine E_then ?_
    refine R_region ?_
    refine J_move rfl rfl rfl ?_
    refine J_shift rfl rfl rfl (by omega) rfl rfl ?_
    refine J_move rfl rfl rfl ?_
    refine J_conv_byte rfl rfl rfl ?_
    have h8 : num (s.take j) < 36028797018963968 := by
      have h1 := num_lt (s.take j)
      have h2 : 256 ^ (s.take j).length ≤ 256 ^ 6 := Nat.pow_le_pow_right (by omega) (by simp; omega)
      omega
    have e8 : IntKind.i64.wrap (((num (s.take j) : Nat) : Int) * 2 ^ min (Int.toNat 8) IntKind.i64.bits) = ((num (s.take j) : Nat) : Int) * 256 := by
      show IntKind.i64.wrap (_ * 256) = _
      rw [wrap64_in (by omega)]
    rw [e8]
    refine J_bits rfl rfl rfl rfl rfl ?_
    rw [or_i64 (by omega) (by omega)]
    have e9 := num_take_snoc hlt
    refine J_assign rfl rfl rfl ?_
    refine J_nil3 ?_
    refine E_block_normal ?_
    refine E_then ?_
    refine R_region ?_
    refine J_ari64 rfl rfl rfl (by omega) rfl rfl ?_
    refine J_moveg rfl rfl rfl ?_
    refine J_nil1 ?_
    exact E_thenI fun a w he hs => ⟨⟨j + 1, by omega⟩, by simp; omega, he.sub (sub_cons' rfl (by simp) (sub_cons rfl (sub_cons rfl (sub_cons' rfl (by rw [e9]; simp) sub_nil)))), hs⟩
  · have e : j = s.length := by omega
    subst e
    apply E_retP Tryz.results131
    · exact Res.tmp rfl (Res.nil)
    · exact Gives.cons (Take.next Take.here) (Gives.drop Gives.refl)
    simp [one, Rd.num, hs]
end Go.Proofs.Sol

/- Heads of a log. -/
namespace Go.Proofs.Sol
open Go Go.Proofs
set_option maxRecDepth 100000
set_option maxHeartbeats 4000000
set_option linter.unusedVariables false
set_option linter.unusedSimpArgs false
attribute [local irreducible] R J JW E D Fn Y clf mpI own Sat Exit.then Exit.inBlock bodyPost bodyPostM Code.wpIn wpL
theorem loghead_within (n m : Int) (F : List HP) : Fn Tryz.prog 242 [.int .i64 n, .int .i64 m] F (Pst (.bool (decide (0 ≤ n) && decide (n < m))) F) := by
  refine Fn_enter Tryz.func242 rfl Tryz.ntmps242 rfl ?_
  refine R_seq ?_
  refine R_region ?_
  refine J_assign rfl rfl rfl ?_
  refine J_nil ?_
  refine E_then ?_
  refine R_seq ?_
  refine R_region ?_
  refine J_move rfl rfl rfl ?_
  refine J_cmp rfl rfl rfl rfl rfl ?_
  refine J_move rfl rfl rfl ?_
  refine J_guard_split rfl rfl (fun hh => ?_) (fun hh => ?_)
  simp only [decide_eq_true_eq, decide_eq_false_iff_not, Bool.and_eq_true, Bool.or_eq_true, Bool.not_eq_true', Bool.not_eq_false', beq_iff_eq, bne_iff_ne, beq_eq_false_iff_ne, bne_eq_false_iff_eq, ne_eq, ge_iff_le, gt_iff_lt, Int.not_le, Int.not_lt, Bool.and_eq_false_iff, Bool.or_eq_false_iff, Decidable.not_not] at hh
  refine J_guard rfl rfl rfl ?_
  refine J_move rfl rfl rfl ?_
  refine J_guard rfl rfl rfl ?_
  refine J_move rfl rfl rfl ?_
  refine J_guard rfl rfl rfl ?_
  refine J_cmp rfl rfl rfl rfl rfl ?_
  refine J_pick_true rfl rfl rfl rfl ?_
  refine J_assign rfl rfl rfl ?_
  refine J_nil3 ?_
  refine E_then ?_
  refine R_ret ?_
  rotate_left
  simp only [decide_eq_true_eq, decide_eq_false_iff_not, Bool.and_eq_true, Bool.or_eq_true, Bool.not_eq_true', Bool.not_eq_false', beq_iff_eq, bne_iff_ne, beq_eq_false_iff_ne, bne_eq_false_iff_eq, ne_eq, ge_iff_le, gt_iff_lt, Int.not_le, Int.not_lt, Bool.and_eq_false_iff, Bool.or_eq_false_iff, Decidable.not_not] at hh
  refine J_guard_not rfl rfl rfl rfl rfl rfl ?_
  refine J_guard_not rfl rfl rfl rfl rfl rfl ?_
  refine J_guard_not rfl rfl rfl rfl rfl rfl ?_
  refine J_pick_false rfl rfl rfl rfl ?_
  refine J_assign rfl rfl rfl ?_
  refine J_nil3 ?_
  refine E_then ?_
  refine R_ret ?_
  rotate_left
  all_goals
    apply E_retP Tryz.results242
    · exact Res.tmp rfl (Res.nil)
    · (repeat (with_reducible exact Gives.refl))
    simp only [one]
    congr 1
    rw [Bool.eq_iff_iff]
    simp
    try omega
abbrev headA (g q a : Int) : Value := .agg #[.int .i64 g, .int .i64 q, .int .i64 a]
theorem loghead_may (g q a : Int) (F : List HP) : Fn Tryz.prog 215 [headA g q a] F (Pst (.bool (headMay g q a)) F) := by
  refine Fn_enter Tryz.func215 rfl Tryz.ntmps215 rfl ?_
  refine R_seq ?_
  refine R_region ?_
  refine J_boxA rfl rfl rfl ?_; intro
  refine J_assign rfl rfl rfl ?_
  refine J_nil ?_
  refine E_then ?_
  refine R_seq ?_
  refine R_region ?_
  refine J_fieldAddr0 rfl rfl rfl ?_
  refine J_load rfl rfl rfl rfl ?_
  refine J_callr rfl (loghead_within _ _ _) (by exact Gives.refl) rfl rfl ?_
  rcases Bool.eq_false_or_eq_true (decide (0 ≤ g) && decide (g < 281474976710656)) with h1 | h1
  · rw [h1]
    refine J_move rfl rfl rfl ?_
    refine J_guard rfl rfl rfl ?_
    refine J_fieldAddr0 rfl rfl rfl ?_
    refine J_guard rfl rfl rfl ?_
    refine J_load rfl rfl rfl rfl ?_
    refine J_guard rfl rfl rfl ?_
    refine J_callr rfl (loghead_within _ _ _) (by exact Gives.refl) rfl rfl ?_
    rcases Bool.eq_false_or_eq_true (decide (0 ≤ q) && decide (q < 281474976710656)) with h2 | h2
    · rw [h2]
      refine J_pick_true rfl rfl rfl rfl ?_
      refine J_move rfl rfl rfl ?_
      refine J_guard rfl rfl rfl ?_
      refine J_fieldAddr0 rfl rfl rfl ?_
      refine J_guard rfl rfl rfl ?_
      refine J_load rfl rfl rfl rfl ?_
      refine J_guard rfl rfl rfl ?_
      refine J_callr rfl (loghead_within _ _ _) (by exact Gives.refl) rfl rfl ?_
      refine J_pick_true rfl rfl rfl rfl ?_
      refine J_assign rfl rfl rfl ?_
      refine J_nil3 ?_
      refine E_then ?_
      refine R_ret ?_
      apply E_retP Tryz.results215
      · exact Res.tmp rfl (Res.nil)
      · exact Gives.drop Gives.refl
      simp only [one, headMay]
      congr 1
      rw [Bool.eq_iff_iff]
      simp at h1 h2 ⊢
      omega
    · rw [h2]
      refine J_pick_true rfl rfl rfl rfl ?_
      refine J_move rfl rfl rfl ?_
      refine J_guard_not rfl rfl rfl rfl rfl rfl ?_
      refine J_guard_not rfl rfl rfl rfl rfl rfl ?_
      refine J_guard_not rfl rfl rfl rfl rfl rfl ?_
      refine J_pick_false rfl rfl rfl rfl ?_
      refine J_assign rfl rfl rfl ?_
      refine J_nil3 ?_
      refine E_then ?_
      refine R_ret ?_
      apply E_retP Tryz.results215
      · exact Res.tmp rfl (Res.nil)
      · exact Gives.drop Gives.refl
      simp only [one, headMay]
      congr 1
      rw [Bool.eq_iff_iff]
      simp at h1 h2 ⊢
      omega
  · rw [h1]
    refine J_move rfl rfl rfl ?_
    refine J_guard_not rfl rfl rfl rfl rfl rfl ?_
    refine J_guard_not rfl rfl rfl rfl rfl rfl ?_
    refine J_guard_not rfl rfl rfl rfl rfl rfl ?_
    refine J_pick_false rfl rfl rfl rfl ?_
    refine J_move rfl rfl rfl ?_
    refine J_guard_not rfl rfl rfl rfl rfl rfl ?_
    refine J_guard_not rfl rfl rfl rfl rfl rfl ?_
    refine J_guard_not rfl rfl rfl rfl rfl rfl ?_
    refine J_pick_false rfl rfl rfl rfl ?_
    refine J_assign rfl rfl rfl ?_
    refine J_nil3 ?_
    refine E_then ?_
    refine R_ret ?_
    apply E_retP Tryz.results215
    · exact Res.tmp rfl (Res.nil)
    · exact Gives.drop Gives.refl
    simp only [one, headMay]
    congr 1
    rw [Bool.eq_iff_iff]
    simp at h1 ⊢
    omega
theorem loghead_Put (g q a : Int) (F : List HP) : Fn Tryz.prog 175 [headA g q a] F (Pst (.tuple #[.string (S (if headMay g q a = true then headB g q a else [])), .int .i64 (if headMay g q a = true then 0 else 3)]) F) := by
  refine Fn_enter Tryz.func175 rfl Tryz.ntmps175 rfl ?_
  refine R_seq ?_
  refine R_region ?_
  refine J_boxA rfl rfl rfl ?_; intro
  refine J_assign rfl rfl rfl ?_
  refine J_assign rfl rfl rfl ?_
  refine J_nil ?_
  refine E_then ?_
  refine R_seq ?_
  refine R_seq ?_
  refine R_region ?_
  refine J_loadA rfl rfl rfl rfl ?_
  rename_i b
  refine J_callr rfl (loghead_may g q a _) (by exact Gives.refl) rfl rfl ?_
  by_cases h : headMay g q a = true
  · have hm := h
    simp only [headMay, decide_eq_true_eq] at hm
    rw [h]
    simp only [if_true]
    refine J_un_not rfl rfl rfl ?_
    refine J_nil3 ?_
    refine E_then ?_
    refine R_cond_false rfl ?_
    refine R_skip ?_
    refine E_then ?_
    refine R_seq ?_
    refine R_draw ([cl b 159 [.int .i64 g, .int .i64 q, .int .i64 a]]) [8, 9] (by kernel_rfl) ?_
    (refine D_lookP (i := 0) rfl (by kernel_rfl) (by exact NP_then NP_body) (by exact Y_fieldAddr0 rfl) rfl rfl ?_)
    (refine D_look (i := 1) rfl (by kernel_rfl) (by exact NP_then NP_body) (by exact Gives.cons Take.here Gives.nil) (by exact Y_load rfl rfl) rfl rfl ?_)
    (refine D_lookP (i := 3) rfl (by kernel_rfl) (by exact NP_then NP_body) (by exact Y_fieldAddr0 rfl) rfl rfl ?_)
    (refine D_look (i := 4) rfl (by kernel_rfl) (by exact NP_then NP_body) (by exact Gives.cons Take.here Gives.nil) (by exact Y_load rfl rfl) rfl rfl ?_)
    (refine D_lookP (i := 6) rfl (by kernel_rfl) (by exact NP_then NP_body) (by exact Y_fieldAddr0 rfl) rfl rfl ?_)
    (refine D_look (i := 7) rfl (by kernel_rfl) (by exact NP_then NP_body) (by exact Gives.cons Take.here Gives.nil) (by exact Y_load rfl rfl) rfl rfl ?_)
    refine D_try1 (i := 2) (by kernel_rfl) rfl ?_
    refine J_callr rfl (field_Put [76] g 6 (by simp) (by omega) _) (by exact Gives.refl) rfl rfl ?_
    have l1 := putF_length [76] g 6
    simp at l1
    refine D_next (by exact Gives.cons Take.here Gives.nil) ?_
    refine D_try1 (i := 5) (by kernel_rfl) rfl ?_
    refine J_callr rfl (field_Put _ q 6 (by omega) (by omega) _) (by exact Gives.refl) rfl rfl ?_
    have l2 := putF_length (putF [76] g 6) q 6
    refine D_next (by exact Gives.cons Take.here Gives.nil) ?_
    refine D_try1 (i := 8) (by kernel_rfl) rfl ?_
    refine J_callr rfl (field_Put _ a 2 (by omega) (by omega) _) (by exact Gives.refl) rfl rfl ?_
    refine D_last (by kernel_rfl) ?_
    refine D_try1 (i := 9) (by kernel_rfl) rfl ?_
    refine J_assign rfl rfl rfl ?_
    refine D_last (by kernel_rfl) ?_
    (first | refine D_end1 (by kernel_rfl) ?_ | refine D_end (by kernel_rfl) ?_)
    refine E_then ?_
    refine R_seq ?_
    refine R_region ?_
    refine J_move rfl rfl rfl ?_
    refine J_move rfl rfl rfl ?_
    have l3 := headP_length h
    unfold headP at l3
    refine J_callr rfl (cyclic_Tail _ (by omega) _) (by exact Gives.refl) rfl rfl ?_
    have l4 := tail_length (putF (putF (putF [76] g 6) q 6) a 2)
    refine J_str_add rfl rfl (by omega) rfl rfl ?_
    refine J_callr rfl (region_Pad _ (by simp; omega) _) (by exact Gives.refl) rfl rfl ?_
    refine J_assign rfl rfl rfl ?_
    refine J_assign rfl rfl rfl ?_
    refine J_nil3 ?_
    refine E_then ?_
    refine R_ret ?_
    apply E_retP Tryz.results175
    · exact Res.tmp rfl (Res.tmp rfl (Res.nil))
    · exact Gives.drop Gives.refl
    rfl
  · rw [Bool.not_eq_true] at h
    rw [h]
    simp only [Bool.false_eq_true, if_false]
    refine J_un_not rfl rfl rfl ?_
    refine J_nil3 ?_
    refine E_then ?_
    refine R_cond_true rfl ?_
    refine R_seq ?_
    refine R_region ?_
    refine J_assign rfl rfl rfl ?_
    refine J_assign rfl rfl rfl ?_
    refine J_nil ?_
    refine E_then ?_
    refine R_ret ?_
    refine E_then_ret ?_
    apply E_retP Tryz.results175
    · exact Res.tmp rfl (Res.tmp rfl (Res.nil))
    · exact Gives.drop Gives.refl
    rfl
end Go.Proofs.Sol

/- A log over a disk: its parts, its head. -/
namespace Go.Proofs.Sol
open Go Go.Proofs
set_option maxRecDepth 100000
set_option maxHeartbeats 4000000
set_option linter.unusedVariables false
set_option linter.unusedSimpArgs false
attribute [local irreducible] R J JW E D Fn Y clf mpI own Sat Exit.then Exit.inBlock bodyPost bodyPostM Code.wpIn wpL
theorem wal_tried (s : Bytes) (F : List HP) : Fn Tryz.prog 157 [.string (S s), .int .i64 0] F (Pst .nilIface F) := by
  refine Fn_enter Tryz.func157 rfl Tryz.ntmps157 rfl ?_
  refine R_seq ?_
  refine R_region ?_
  refine J_assign rfl rfl rfl ?_
  refine J_nil ?_
  refine E_then ?_
  refine R_seq ?_
  refine R_seq ?_
  refine R_region ?_
  refine J_move rfl rfl rfl ?_
  refine J_cmp rfl rfl rfl rfl rfl ?_
  refine J_nil2 ?_
  refine E_then ?_
  refine R_cond_true rfl ?_
  refine R_seq ?_
  refine R_region ?_
  refine J_assign rfl rfl rfl ?_
  refine J_nil ?_
  refine E_then ?_
  refine R_ret ?_
  refine E_then_ret ?_
  apply E_retP Tryz.results157
  · exact Res.tmp rfl (Res.nil)
  · exact Gives.refl
  rfl
theorem wal_number (F : List HP) : Fn Tryz.prog 94 [.nilIface] F (Pst (.int .i64 0) F) := by
  refine Fn_enter Tryz.func94 rfl Tryz.ntmps94 rfl ?_
  refine R_seq ?_
  refine R_region ?_
  refine J_assign rfl rfl rfl ?_
  refine J_nil ?_
  refine E_then ?_
  refine R_seq ?_
  refine R_region ?_
  refine J_alloc rfl rfl ?_; intro
  refine J_nil ?_
  refine E_then ?_
  refine R_seq ?_
  refine R_block ?_
  refine R_seq ?_
  refine R_region ?_
  refine J_move rfl rfl rfl ?_
  refine J_ifc_nil rfl rfl rfl rfl ?_
  refine J_assign rfl rfl rfl ?_
  refine J_nil2 ?_
  refine E_then ?_
  refine R_cond_true rfl ?_
  refine R_seq ?_
  refine R_region ?_
  refine J_assign rfl rfl rfl ?_
  refine J_nil ?_
  refine E_then ?_
  refine R_ret ?_
  refine E_block_ret ?_
  refine E_then_ret ?_
  apply E_retP Tryz.results94
  · exact Res.tmp rfl (Res.nil)
  · exact Gives.drop Gives.refl
  rfl
/-- May a log be there? -/
def walMay (n : Nat) (fr many : Int) : Bool := decide (24 ≤ many) && decide (many ≤ 200) && insB fr many n
theorem walMay_spec {n : Nat} {fr many : Int} (h : walMay n fr many = true) : 24 ≤ many ∧ many ≤ 200 ∧ 0 ≤ fr ∧ fr + many ≤ n := by
  simp [walMay, insB] at h; omega
def Wl.none_ (d : Nat) (fr many : Int) (V : List Bytes) (k : Nat) : Wl := ⟨d, fr, many, 0, 0, 0, 0, false, false, [], [], V, k⟩
theorem wal_parted (d : Nat) (V : List Bytes) (k : Nat) (fr many : Int) (h : walMay V.length fr many = true) (hV : V.length ≤ 1000) (F : List HP) :
    Fn Tryz.prog 105 [.pointer (some ⟨d, 0, none⟩), .int .i64 fr, .int .i64 many] (dvk d V k :: F) (fun v w => ∃ b, v = .tuple #[.pointer (some ⟨b, 0, none⟩), .int .i64 0] ∧ Sat w (wal b (Wl.none_ d fr many V k) :: F)) := by
  have hs := walMay_spec h
  have i1 : insB fr many V.length = true := by simp [insB]; omega
  have i2 : insB fr 2 V.length = true := by simp [insB]; omega
  have i3 : insB (fr + 2) (many - 2) V.length = true := by simp [insB]; omega
  refine Fn_enter Tryz.func105 rfl Tryz.ntmps105 rfl ?_
  refine R_seq ?_
  refine R_region ?_
  refine J_assign rfl rfl rfl ?_
  refine J_assign rfl rfl rfl ?_
  refine J_nil ?_
  refine E_then ?_
  refine R_seq ?_
  refine R_seq ?_
  refine R_region ?_
  refine J_move rfl rfl rfl ?_
  refine J_cmp rfl rfl rfl rfl rfl ?_
  refine J_move rfl rfl rfl ?_
  refine J_guard_split rfl rfl (fun hh => ?_) (fun hh => ?_)
  simp only [decide_eq_true_eq, decide_eq_false_iff_not, Bool.and_eq_true, Bool.or_eq_true, Bool.not_eq_true', Bool.not_eq_false', beq_iff_eq, bne_iff_ne, beq_eq_false_iff_ne, bne_eq_false_iff_eq, ne_eq, ge_iff_le, gt_iff_lt, Int.not_le, Int.not_lt, Bool.and_eq_false_iff, Bool.or_eq_false_iff, Decidable.not_not] at hh
  exfalso; omega
  simp only [decide_eq_true_eq, decide_eq_false_iff_not, Bool.and_eq_true, Bool.or_eq_true, Bool.not_eq_true', Bool.not_eq_false', beq_iff_eq, bne_iff_ne, beq_eq_false_iff_ne, bne_eq_false_iff_eq, ne_eq, ge_iff_le, gt_iff_lt, Int.not_le, Int.not_lt, Bool.and_eq_false_iff, Bool.or_eq_false_iff, Decidable.not_not] at hh
  refine J_guard rfl rfl rfl ?_
  refine J_move rfl rfl rfl ?_
  refine J_guard rfl rfl rfl ?_
  refine J_cmp rfl rfl rfl rfl rfl ?_
  refine J_pick_false rfl rfl rfl rfl ?_
  refine J_nil3 ?_
  refine E_then ?_
  refine R_cond rfl (fun hh => ?_) (fun hh => ?_)
  simp only [decide_eq_true_eq, decide_eq_false_iff_not, Bool.and_eq_true, Bool.or_eq_true, Bool.not_eq_true', Bool.not_eq_false', beq_iff_eq, bne_iff_ne, beq_eq_false_iff_ne, bne_eq_false_iff_eq, ne_eq, ge_iff_le, gt_iff_lt, Int.not_le, Int.not_lt, Bool.and_eq_false_iff, Bool.or_eq_false_iff, Decidable.not_not] at hh
  exfalso; omega
  simp only [decide_eq_true_eq, decide_eq_false_iff_not, Bool.and_eq_true, Bool.or_eq_true, Bool.not_eq_true', Bool.not_eq_false', beq_iff_eq, bne_iff_ne, beq_eq_false_iff_ne, bne_eq_false_iff_eq, ne_eq, ge_iff_le, gt_iff_lt, Int.not_le, Int.not_lt, Bool.and_eq_false_iff, Bool.or_eq_false_iff, Decidable.not_not] at hh
  refine R_skip ?_
  refine E_then ?_
  refine R_seq ?_
  refine R_seq ?_
  refine R_region ?_
  refine J_move rfl rfl rfl ?_
  refine J_move rfl rfl rfl ?_
  refine J_move rfl rfl rfl ?_
  refine J_callm rfl (region_New d V k fr many hV F) Gives.refl rfl rfl ?_
  rintro v w hp
  rw [if_pos i1] at hp
  obtain ⟨r0, rfl, s0⟩ := hp
  refine JW.of s0 ?_
  refine J_move rfl rfl rfl ?_
  refine J_extract rfl rfl rfl rfl ?_
  refine J_extract rfl rfl rfl rfl ?_
  refine J_assign rfl rfl rfl ?_
  refine J_assign rfl rfl rfl ?_
  refine J_nil3 ?_
  refine E_then ?_
  refine R_seq ?_
  refine R_region ?_
  refine J_move rfl rfl rfl ?_
  refine J_cmp rfl rfl rfl rfl rfl ?_
  refine J_nil2 ?_
  refine E_then ?_
  refine R_cond_false rfl ?_
  refine R_skip ?_
  refine E_then ?_
  refine R_seq ?_
  refine R_region ?_
  refine J_move rfl rfl rfl ?_
  refine J_move rfl rfl rfl ?_
  refine J_callm rfl (region_New d V k fr 2 hV F) (by exact Gives.cons (Take.next Take.here) (Gives.drop Gives.refl)) rfl rfl ?_
  rintro v w hp
  rw [if_pos i2] at hp
  obtain ⟨r1, rfl, s0⟩ := hp
  refine JW.of s0 ?_
  refine J_move rfl rfl rfl ?_
  refine J_extract rfl rfl rfl rfl ?_
  refine J_extract rfl rfl rfl rfl ?_
  refine J_assign rfl rfl rfl ?_
  refine J_assign rfl rfl rfl ?_
  refine J_nil3 ?_
  refine E_then ?_
  refine R_seq ?_
  refine R_seq ?_
  refine R_region ?_
  refine J_move rfl rfl rfl ?_
  refine J_cmp rfl rfl rfl rfl rfl ?_
  refine J_nil2 ?_
  refine E_then ?_
  refine R_cond_false rfl ?_
  refine R_skip ?_
  refine E_then ?_
  refine R_seq ?_
  refine R_region ?_
  refine J_move rfl rfl rfl ?_
  refine J_move rfl rfl rfl ?_
  refine J_ari64 rfl rfl rfl (by omega) rfl rfl ?_
  refine J_move rfl rfl rfl ?_
  refine J_ari64 rfl rfl rfl (by omega) rfl rfl ?_
  refine J_callm rfl (region_New d V k (fr + 2) (many - 2) hV (reg r1 d fr 2 :: F)) (by exact Gives.last (Take.next Take.here)) rfl rfl ?_
  rintro v w hp
  rw [if_pos i3] at hp
  obtain ⟨r2, rfl, s0⟩ := hp
  refine JW.of s0 ?_
  refine J_move rfl rfl rfl ?_
  refine J_extract rfl rfl rfl rfl ?_
  refine J_extract rfl rfl rfl rfl ?_
  refine J_assign rfl rfl rfl ?_
  refine J_assign rfl rfl rfl ?_
  refine J_nil3 ?_
  refine E_then ?_
  refine R_seq ?_
  refine R_seq ?_
  refine R_region ?_
  refine J_move rfl rfl rfl ?_
  refine J_cmp rfl rfl rfl rfl rfl ?_
  refine J_nil2 ?_
  refine E_then ?_
  refine R_cond_false rfl ?_
  refine R_skip ?_
  refine E_then ?_
  refine R_seq ?_
  refine R_region ?_
  refine J_move rfl rfl rfl ?_
  refine J_move rfl rfl rfl ?_
  refine J_move rfl rfl rfl ?_
  refine J_move rfl rfl rfl ?_
  refine J_move rfl rfl rfl ?_
  refine J_callm rfl (shadow_New _) Gives.refl rfl rfl ?_
  rintro v w ⟨sh, rfl, s0⟩
  refine JW.of s0 ?_
  refine J_build rfl rfl rfl rfl ?_
  refine J_boxA rfl rfl rfl ?_; intro
  refine J_assign rfl rfl rfl ?_
  refine J_assign rfl rfl rfl ?_
  refine J_nil3 ?_
  refine E_then ?_
  refine R_ret ?_
  rename_i b
  apply E_ret Tryz.results105
  · exact Res.tmp rfl (Res.tmp rfl (Res.nil))
  · intro w s
    refine ⟨b, rfl, shut_wal (p := (r1, r2, sh)) ?_⟩
    dsimp only [walL, List.cons_append, List.nil_append, Wl.none_]
    exact s.gives (by exact Gives.cons Take.here (Gives.cons (Take.next (Take.next (Take.next Take.here))) (Gives.last (Take.next Take.here))))
theorem wal_parted0 (d : Nat) (V : List Bytes) (k : Nat) (fr many : Int) (h : walMay V.length fr many = false) (hV : V.length ≤ 1000) (F : List HP) :
    Fn Tryz.prog 105 [.pointer (some ⟨d, 0, none⟩), .int .i64 fr, .int .i64 many] (dvk d V k :: F) (Pst (.tuple #[.pointer none, .int .i64 3]) (dvk d V k :: F)) := by
  refine Fn_enter Tryz.func105 rfl Tryz.ntmps105 rfl ?_
  refine R_seq ?_
  refine R_region ?_
  refine J_assign rfl rfl rfl ?_
  refine J_assign rfl rfl rfl ?_
  refine J_nil ?_
  refine E_then ?_
  refine R_seq ?_
  refine R_seq ?_
  refine R_region ?_
  refine J_move rfl rfl rfl ?_
  refine J_cmp rfl rfl rfl rfl rfl ?_
  refine J_move rfl rfl rfl ?_
  refine J_guard_split rfl rfl (fun hh => ?_) (fun hh => ?_)
  simp only [decide_eq_true_eq, decide_eq_false_iff_not, Bool.and_eq_true, Bool.or_eq_true, Bool.not_eq_true', Bool.not_eq_false', beq_iff_eq, bne_iff_ne, beq_eq_false_iff_ne, bne_eq_false_iff_eq, ne_eq, ge_iff_le, gt_iff_lt, Int.not_le, Int.not_lt, Bool.and_eq_false_iff, Bool.or_eq_false_iff, Decidable.not_not] at hh
  refine J_guard_not rfl rfl rfl rfl rfl rfl ?_
  refine J_guard_not rfl rfl rfl rfl rfl rfl ?_
  refine J_pick_true rfl rfl rfl rfl ?_
  refine J_nil3 ?_
  refine E_then ?_
  refine R_cond_true rfl ?_
  refine R_seq ?_
  refine R_region ?_
  refine J_assign rfl rfl rfl ?_
  refine J_assign rfl rfl rfl ?_
  refine J_nil ?_
  refine E_then ?_
  refine R_ret ?_
  refine E_then_ret ?_
  rotate_left
  simp only [decide_eq_true_eq, decide_eq_false_iff_not, Bool.and_eq_true, Bool.or_eq_true, Bool.not_eq_true', Bool.not_eq_false', beq_iff_eq, bne_iff_ne, beq_eq_false_iff_ne, bne_eq_false_iff_eq, ne_eq, ge_iff_le, gt_iff_lt, Int.not_le, Int.not_lt, Bool.and_eq_false_iff, Bool.or_eq_false_iff, Decidable.not_not] at hh
  refine J_guard rfl rfl rfl ?_
  refine J_move rfl rfl rfl ?_
  refine J_guard rfl rfl rfl ?_
  refine J_cmp rfl rfl rfl rfl rfl ?_
  refine J_pick_false rfl rfl rfl rfl ?_
  refine J_nil3 ?_
  refine E_then ?_
  refine R_cond rfl (fun hh => ?_) (fun hh => ?_)
  simp only [decide_eq_true_eq, decide_eq_false_iff_not, Bool.and_eq_true, Bool.or_eq_true, Bool.not_eq_true', Bool.not_eq_false', beq_iff_eq, bne_iff_ne, beq_eq_false_iff_ne, bne_eq_false_iff_eq, ne_eq, ge_iff_le, gt_iff_lt, Int.not_le, Int.not_lt, Bool.and_eq_false_iff, Bool.or_eq_false_iff, Decidable.not_not] at hh
  refine R_seq ?_
  refine R_region ?_
  refine J_assign rfl rfl rfl ?_
  refine J_assign rfl rfl rfl ?_
  refine J_nil ?_
  refine E_then ?_
  refine R_ret ?_
  refine E_then_ret ?_
  rotate_left
  simp only [decide_eq_true_eq, decide_eq_false_iff_not, Bool.and_eq_true, Bool.or_eq_true, Bool.not_eq_true', Bool.not_eq_false', beq_iff_eq, bne_iff_ne, beq_eq_false_iff_ne, bne_eq_false_iff_eq, ne_eq, ge_iff_le, gt_iff_lt, Int.not_le, Int.not_lt, Bool.and_eq_false_iff, Bool.or_eq_false_iff, Decidable.not_not] at hh
  refine R_skip ?_
  refine E_then ?_
  refine R_seq ?_
  refine R_seq ?_
  refine R_region ?_
  refine J_move rfl rfl rfl ?_
  refine J_move rfl rfl rfl ?_
  refine J_move rfl rfl rfl ?_
  rotate_left
  · apply E_retP Tryz.results105
    · exact Res.tmp rfl (Res.tmp rfl (Res.nil))
    · exact Gives.refl
    rfl
  · apply E_retP Tryz.results105
    · exact Res.tmp rfl (Res.tmp rfl (Res.nil))
    · exact Gives.refl
    rfl
  · have i1 : insB fr many V.length = false := by
      simp only [walMay] at h
      rw [decide_eq_true (by omega), decide_eq_true (by omega)] at h
      simpa using h
    refine J_callm rfl (region_New d V k fr many hV F) Gives.refl rfl rfl ?_
    rintro v w hp
    rw [i1] at hp
    simp only [Bool.false_eq_true, if_false] at hp
    obtain ⟨rfl, s0⟩ := hp
    refine JW.of s0 ?_
    refine J_move rfl rfl rfl ?_
    refine J_extract rfl rfl rfl rfl ?_
    refine J_extract rfl rfl rfl rfl ?_
    refine J_assign rfl rfl rfl ?_
    refine J_assign rfl rfl rfl ?_
    refine J_nil3 ?_
    refine E_then ?_
    refine R_seq ?_
    refine R_region ?_
    refine J_move rfl rfl rfl ?_
    refine J_cmp rfl rfl rfl rfl rfl ?_
    refine J_nil2 ?_
    refine E_then ?_
    refine R_cond_true rfl ?_
    refine R_seq ?_
    refine R_region ?_
    refine J_move rfl rfl rfl ?_
    refine J_assign rfl rfl rfl ?_
    refine J_assign rfl rfl rfl ?_
    refine J_nil1 ?_
    refine E_then ?_
    refine R_ret ?_
    refine E_then_ret ?_
    apply E_retP Tryz.results105
    · exact Res.tmp rfl (Res.tmp rfl (Res.nil))
    · exact Gives.refl
    rfl
theorem wal_head (b : Nat) (W : Wl) (g q a : Int) (hg : headMay g q a = true) (hf : 0 ≤ W.fr ∧ W.fr + 2 ≤ W.V.length) (hk : W.k < 100000000) (F : List HP) :
    Fn Tryz.prog 107 [.pointer (some ⟨b, 0, none⟩), headA g q a] (wal b W :: F) (Pst .nilIface (wal b { W with V := W.V.set (W.fr + g % 2).toNat (headB g q a), k := W.k + 2 } :: F)) := by
  have hm := hg
  simp only [headMay, decide_eq_true_eq] at hm
  refine Fn.open_ (fun w h => open_wal h) ?_
  rintro p
  dsimp only [walL, List.cons_append, List.nil_append]
  refine Fn.know (fun w h => dvk_know h.drop.drop.drop.drop) ?_
  rintro ⟨hV, hV6⟩
  refine Fn_enter Tryz.func107 rfl Tryz.ntmps107 rfl ?_
  refine R_seq ?_
  refine R_region ?_
  refine J_boxA rfl rfl rfl ?_; intro
  refine J_assign rfl rfl rfl ?_
  refine J_nil ?_
  refine E_then ?_
  refine R_seq ?_
  refine R_region ?_
  refine J_loadA rfl rfl rfl rfl ?_
  rename_i bh
  refine J_callr rfl (loghead_Put g q a _) (by exact Gives.refl) rfl rfl ?_
  rw [hg]
  simp only [if_true]
  have hl := headB_length hg
  refine J_move rfl rfl rfl ?_
  refine J_extract rfl rfl rfl rfl ?_
  refine J_extract rfl rfl rfl rfl ?_
  refine J_assign rfl rfl rfl ?_
  refine J_assign rfl rfl rfl ?_
  refine J_nil3 ?_
  refine E_then ?_
  refine R_seq ?_
  refine R_seq ?_
  refine R_region ?_
  refine J_move rfl rfl rfl ?_
  refine J_cmp rfl rfl rfl rfl rfl ?_
  refine J_nil2 ?_
  refine E_then ?_
  refine R_cond_false rfl ?_
  refine R_skip ?_
  refine E_then ?_
  refine R_seq ?_
  refine R_seq ?_
  refine R_draw ([cl bh 159 [.int .i64 g, .int .i64 q, .int .i64 a], walH b W p]) [8, 9] (by kernel_rfl) ?_
  (refine D_lookP (i := 0) rfl (by kernel_rfl) (by exact NP_then (NP_then NP_body)) (by exact Y_move rfl) rfl rfl ?_)
  (refine D_lookP (i := 1) rfl (by kernel_rfl) (by exact NP_then (NP_then NP_body)) (by exact Y_nilCheck rfl) rfl rfl ?_)
  (refine D_lookP (i := 2) rfl (by kernel_rfl) (by exact NP_then (NP_then NP_body)) (by exact Y_fieldAddr0 rfl) rfl rfl ?_)
  (refine D_look (i := 3) rfl (by kernel_rfl) (by exact NP_then (NP_then NP_body)) (by exact Gives.cons Take.here (Gives.cons Take.here Gives.nil)) (by exact Y_load rfl rfl) rfl rfl ?_)
  (refine D_lookP (i := 4) rfl (by kernel_rfl) (by exact NP_then (NP_then NP_body)) (by exact Y_fieldAddr0 rfl) rfl rfl ?_)
  (refine D_look (i := 5) rfl (by kernel_rfl) (by exact NP_then (NP_then NP_body)) (by exact Gives.cons Take.here (Gives.cons Take.here Gives.nil)) (by exact Y_load rfl rfl) rfl rfl ?_)
  (refine D_lookP (i := 6) rfl (by kernel_rfl) (by exact NP_then (NP_then NP_body)) (by exact Y_rem rfl rfl (by omega) (by omega)) rfl rfl ?_)
  (refine D_lookP (i := 7) rfl (by kernel_rfl) (by exact NP_then (NP_then NP_body)) (by exact Y_move rfl) rfl rfl ?_)
  refine D_try1 (i := 8) (by kernel_rfl) rfl ?_
  refine J_callr rfl (region_Write1 p.1 W.d W.V W.k W.fr 2 (g % 2) (headB g q a) hl (by omega) hf hV (by omega) _) (by exact Gives.cons (Take.next (Take.next (Take.next (Take.next (Take.next Take.here))))) (Gives.last (Take.next (Take.next Take.here)))) rfl rfl ?_
  refine D_last (by kernel_rfl) ?_
  refine D_try1 (i := 9) (by kernel_rfl) rfl ?_
  refine J_assign rfl rfl rfl ?_
  refine D_last (by kernel_rfl) ?_
  (first | refine D_end1 (by kernel_rfl) ?_ | refine D_end (by kernel_rfl) ?_)
  refine E_then ?_
  refine R_seq ?_
  refine R_region ?_
  refine J_move rfl rfl rfl ?_
  refine J_cmp rfl rfl rfl rfl rfl ?_
  refine J_nil2 ?_
  refine E_then ?_
  refine R_cond_false rfl ?_
  refine R_skip ?_
  refine E_then ?_
  refine R_seq ?_
  refine R_region ?_
  refine J_move rfl rfl rfl ?_
  refine J_nilCheck rfl rfl rfl ?_
  refine J_fieldAddr0 rfl rfl rfl ?_
  refine J_load rfl rfl rfl rfl ?_
  refine J_callr rfl (diskv_Flush W.d _ (W.k + 1) (by omega) _) (by exact Gives.refl) rfl rfl ?_
  skip
  refine J_callr rfl (wal_tried _ _) (by exact Gives.refl) rfl rfl ?_
  refine J_assign rfl rfl rfl ?_
  refine J_nil3 ?_
  refine E_then ?_
  refine R_ret ?_
  apply E_ret Tryz.results107
  · exact Res.tmp rfl (Res.nil)
  · intro w s
    refine ⟨rfl, shut_wal (p := p) ?_⟩
    dsimp only [walL, List.cons_append, List.nil_append]
    have s2 : Sat w (walH b W p :: reg p.1 W.d W.fr 2 :: reg p.2.1 W.d (W.fr + 2) (W.many - 2) :: shd p.2.2 W.K W.Lo :: dvk W.d (W.V.set (W.fr + g % 2).toNat (headB g q a)) (W.k + 1 + 1) :: F) := s.gives (by exact Gives.cons (Take.next (Take.next (Take.next Take.here))) (Gives.cons (Take.next Take.here) (Gives.cons (Take.next (Take.next Take.here)) (Gives.cons (Take.next (Take.next Take.here)) (Gives.cons Take.here (Gives.drop Gives.refl))))))
    exact s2
end Go.Proofs.Sol

/- A log over a disk, laid. -/
namespace Go.Proofs.Sol
open Go Go.Proofs
set_option maxRecDepth 100000
set_option maxHeartbeats 4000000
set_option linter.unusedVariables false
set_option linter.unusedSimpArgs false
attribute [local irreducible] R J JW E D Fn Y clf mpI own Sat Exit.then Exit.inBlock bodyPost bodyPostM Code.wpIn wpL
def zf (V : List Bytes) (a : Int) : Nat → List Bytes
  | 0 => V
  | j + 1 => (zf V a j).set (a + j).toNat zs64
theorem zf_length (V : List Bytes) (a : Int) (j : Nat) : (zf V a j).length = V.length := by
  induction j with
  | zero => rfl
  | succ j ih => simp only [zf, List.length_set, ih]
/-- A disk on which a log is laid. -/
def fmtV (V : List Bytes) (fr many : Int) : List Bytes := (zf (zf V fr 2) (fr + 2) (many - 2).toNat).set (fr + 1).toNat (headB 1 1 0)
theorem wal_Format (d : Nat) (V : List Bytes) (k : Nat) (fr many : Int) (h : walMay V.length fr many = true) (hV : V.length ≤ 1000) (hk : k < 10000000) (F : List HP) :
    Fn Tryz.prog 27 [.pointer (some ⟨d, 0, none⟩), .int .i64 fr, .int .i64 many] (dvk d V k :: F) (Pst (.int .i64 0) (dvk d (fmtV V fr many) (k + many.toNat + 2) :: F)) := by
  have hs := walMay_spec h
  refine Fn_enter Tryz.func27 rfl Tryz.ntmps27 rfl ?_
  refine R_seq ?_
  refine R_region ?_
  refine J_assign rfl rfl rfl ?_
  refine J_nil ?_
  refine E_then ?_
  refine R_seq ?_
  refine R_region ?_
  refine J_move rfl rfl rfl ?_
  refine J_move rfl rfl rfl ?_
  refine J_move rfl rfl rfl ?_
  refine J_callm rfl (wal_parted d V k fr many h hV F) Gives.refl rfl rfl ?_
  rintro v w ⟨b, rfl, s0⟩
  obtain ⟨p, s0⟩ := open_wal s0
  dsimp only [walL, List.cons_append, List.nil_append] at s0
  refine JW.of s0 ?_
  refine J_move rfl rfl rfl ?_
  refine J_extract rfl rfl rfl rfl ?_
  refine J_extract rfl rfl rfl rfl ?_
  refine J_assign rfl rfl rfl ?_
  refine J_assign rfl rfl rfl ?_
  refine J_nil3 ?_
  refine E_then ?_
  refine R_seq ?_
  refine R_seq ?_
  refine R_region ?_
  refine J_move rfl rfl rfl ?_
  refine J_cmp rfl rfl rfl rfl rfl ?_
  refine J_nil2 ?_
  refine E_then ?_
  refine R_cond_false rfl ?_
  refine R_skip ?_
  refine E_then ?_
  refine R_seq ?_
  refine R_region ?_
  refine J_makeSlice rfl rfl (by omega) (by omega) (by omega) rfl rfl ?_
  intro bz
  rw [zeroRow_one]
  have hz : List.replicate (Int.toNat 64 * 1) (Value.int .u8 0) = zs64.map byv := rfl
  have hz2 : List.replicate (Int.toNat 64) (Value.int .u8 0) = zs64.map byv := rfl
  first
    | rw [hz]
    | rw [hz2]
  refine J_bytesToStr (cs := zs64) rfl (by simp) rfl rfl rfl ?_
  refine J_assign rfl rfl rfl ?_
  refine J_nil2 ?_
  refine E_then ?_
  refine R_seq ?_
  refine R_seq ?_
  refine R_region ?_
  refine J_move rfl rfl rfl ?_
  refine J_nil1 ?_
  refine E_then ?_
  refine R_block ?_
  refine R_loop (X := {j : Nat // j ≤ 2}) (fun j => [(26, .int .i64 (j.1 : Int)), (7, .pointer (some ⟨b, 0, none⟩)), (9, .string (S zs64))])
    (fun j => walH b (Wl.none_ d fr many V k) p :: reg p.1 d fr 2 :: reg p.2.1 d (fr + 2) (many - 2) :: shd p.2.2 [] [] :: dvk d (zf V fr j.1) (k + j.1) :: F) (fun j => 2 - j.1) ⟨0, by omega⟩ (by exact sub_cons rfl (sub_cons rfl (sub_cons rfl sub_nil))) (by exact Gives.cons (Take.next Take.here) (Gives.cons (Take.next Take.here) (Gives.cons (Take.next Take.here) (Gives.cons (Take.next Take.here) (Gives.cons (Take.next Take.here) (Gives.drop Gives.refl)))))) ?_
  rintro ⟨j, hj⟩
  dsimp only
  have hl := zf_length V fr j
  refine R_seq ?_
  refine R_region ?_
  refine J_cmp rfl rfl rfl rfl rfl ?_
  refine J_nil1 ?_
  refine E_then ?_
  refine R_seq ?_
  refine R_cond rfl (fun hh => ?_) (fun hh => ?_)
  simp only [decide_eq_true_eq, decide_eq_false_iff_not, Bool.and_eq_true, Bool.or_eq_true, Bool.not_eq_true', Bool.not_eq_false', beq_iff_eq, bne_iff_ne, beq_eq_false_iff_ne, bne_eq_false_iff_eq, ne_eq, ge_iff_le, gt_iff_lt, Int.not_le, Int.not_lt, Bool.and_eq_false_iff, Bool.or_eq_false_iff, Decidable.not_not] at hh
  refine R_skip ?_
  refine E_then ?_
  refine R_seq ?_
  refine R_block ?_
  refine R_seq ?_
  refine R_region ?_
  refine J_move rfl rfl rfl ?_
  refine J_assign rfl rfl rfl ?_
  refine J_nil1 ?_
  refine E_then ?_
  refine R_seq ?_
  refine R_region ?_
  refine J_move rfl rfl rfl ?_
  refine J_nilCheck rfl rfl rfl ?_
  refine J_fieldAddr0 rfl rfl rfl ?_
  refine J_load rfl rfl rfl rfl ?_
  refine J_move rfl rfl rfl ?_
  refine J_move rfl rfl rfl ?_
  rotate_left
  simp only [decide_eq_true_eq, decide_eq_false_iff_not, Bool.and_eq_true, Bool.or_eq_true, Bool.not_eq_true', Bool.not_eq_false', beq_iff_eq, bne_iff_ne, beq_eq_false_iff_ne, bne_eq_false_iff_eq, ne_eq, ge_iff_le, gt_iff_lt, Int.not_le, Int.not_lt, Bool.and_eq_false_iff, Bool.or_eq_false_iff, Decidable.not_not] at hh
  refine R_exit ?_
  refine E_then_exit ?_
  refine E_then_exit ?_
  refine E_block_hit ?_
  refine E_then ?_
  refine R_seq ?_
  refine R_seq ?_
  refine R_region ?_
  refine J_move rfl rfl rfl ?_
  refine J_nilCheck rfl rfl rfl ?_
  refine J_fieldAddr0 rfl rfl rfl ?_
  refine J_load rfl rfl rfl rfl ?_
  rotate_left
  · refine J_callr rfl (region_Write1 p.1 d (zf V fr j) (k + j) fr 2 (j : Int) zs64 rfl (by omega) (by omega) (by omega) (by omega) _) (by exact Gives.cons (Take.next (Take.next (Take.next (Take.next Take.here)))) (Gives.last (Take.next Take.here))) rfl rfl ?_
    refine J_assign rfl rfl rfl ?_
    refine J_nil3 ?_
    refine E_then ?_
    refine R_seq ?_
    refine R_region ?_
    refine J_move rfl rfl rfl ?_
    refine J_cmp rfl rfl rfl rfl rfl ?_
    refine J_nil2 ?_
    refine E_then ?_
    refine R_cond_false rfl ?_
    refine R_skip ?_
    refine E_block_normal ?_
    refine E_then ?_
    refine R_region ?_
    refine J_ari64 rfl rfl rfl (by omega) rfl rfl ?_
    refine J_moveg rfl rfl rfl ?_
    refine J_nil1 ?_
    exact E_thenI fun a w he hs => ⟨⟨j + 1, by omega⟩, by simp; omega, he.sub (by exact sub_cons rfl (sub_cons rfl (sub_cons rfl sub_nil))), by
      have hs2 : Sat w (walH b (Wl.none_ d fr many V k) p :: reg p.1 d fr 2 :: reg p.2.1 d (fr + 2) (many - 2) :: shd p.2.2 [] [] :: dvk d ((zf V fr j).set (fr + (j : Int)).toNat zs64) (k + j + 1) :: F) := hs.gives (by exact Gives.cons (Take.next (Take.next Take.here)) (Gives.cons (Take.next Take.here) (Gives.cons (Take.next Take.here) (Gives.last (Take.next Take.here)))))
      exact hs2⟩
  · have ej : j = 2 := by omega
    subst ej
    refine J_callr rfl (region_Many p.2.1 d (fr + 2) (many - 2) _) (by exact Gives.last (Take.next (Take.next Take.here))) rfl rfl ?_
    refine J_move rfl rfl rfl ?_
    refine J_nil3 ?_
    refine E_then ?_
    refine R_block ?_
    refine R_loop (X := {j : Nat // (j : Int) ≤ many - 2}) (fun j => [(45, .int .i64 (j.1 : Int)), (44, .int .i64 (many - 2)), (7, .pointer (some ⟨b, 0, none⟩)), (9, .string (S zs64))])
      (fun j => walH b (Wl.none_ d fr many V k) p :: reg p.1 d fr 2 :: reg p.2.1 d (fr + 2) (many - 2) :: shd p.2.2 [] [] :: dvk d (zf (zf V fr 2) (fr + 2) j.1) (k + 2 + j.1) :: F) (fun j => many.toNat - j.1) ⟨0, by omega⟩ (by exact sub_cons rfl (sub_cons rfl (sub_cons rfl (sub_cons rfl sub_nil)))) (by exact Gives.cons (Take.next Take.here) (Gives.last (Take.next Take.here))) ?_
    rintro ⟨j, hj⟩
    dsimp only
    have hl2 := zf_length (zf V fr 2) (fr + 2) j
    refine R_seq ?_
    refine R_region ?_
    refine J_cmp rfl rfl rfl rfl rfl ?_
    refine J_nil1 ?_
    refine E_then ?_
    refine R_seq ?_
    refine R_cond rfl (fun hh => ?_) (fun hh => ?_)
    simp only [decide_eq_true_eq, decide_eq_false_iff_not, Bool.and_eq_true, Bool.or_eq_true, Bool.not_eq_true', Bool.not_eq_false', beq_iff_eq, bne_iff_ne, beq_eq_false_iff_ne, bne_eq_false_iff_eq, ne_eq, ge_iff_le, gt_iff_lt, Int.not_le, Int.not_lt, Bool.and_eq_false_iff, Bool.or_eq_false_iff, Decidable.not_not] at hh
    refine R_skip ?_
    refine E_then ?_
    refine R_seq ?_
    refine R_block ?_
    refine R_seq ?_
    refine R_region ?_
    refine J_move rfl rfl rfl ?_
    refine J_assign rfl rfl rfl ?_
    refine J_nil1 ?_
    refine E_then ?_
    refine R_seq ?_
    refine R_region ?_
    refine J_move rfl rfl rfl ?_
    refine J_nilCheck rfl rfl rfl ?_
    refine J_fieldAddr0 rfl rfl rfl ?_
    refine J_load rfl rfl rfl rfl ?_
    refine J_move rfl rfl rfl ?_
    refine J_move rfl rfl rfl ?_
    rotate_left
    simp only [decide_eq_true_eq, decide_eq_false_iff_not, Bool.and_eq_true, Bool.or_eq_true, Bool.not_eq_true', Bool.not_eq_false', beq_iff_eq, bne_iff_ne, beq_eq_false_iff_ne, bne_eq_false_iff_eq, ne_eq, ge_iff_le, gt_iff_lt, Int.not_le, Int.not_lt, Bool.and_eq_false_iff, Bool.or_eq_false_iff, Decidable.not_not] at hh
    refine R_exit ?_
    refine E_then_exit ?_
    refine E_then_exit ?_
    refine E_block_hit ?_
    refine E_then ?_
    refine R_seq ?_
    refine R_region ?_
    refine J_move rfl rfl rfl ?_
    refine J_build rfl rfl rfl rfl ?_
    rotate_left
    · refine J_callr rfl (region_Write1 p.2.1 d (zf (zf V fr 2) (fr + 2) j) (k + 2 + j) (fr + 2) (many - 2) (j : Int) zs64 rfl (by omega) (by omega) (by omega) (by omega) _) (by exact Gives.cons (Take.next (Take.next (Take.next (Take.next Take.here)))) (Gives.last (Take.next (Take.next Take.here)))) rfl rfl ?_
      refine J_assign rfl rfl rfl ?_
      refine J_nil3 ?_
      refine E_then ?_
      refine R_seq ?_
      refine R_region ?_
      refine J_move rfl rfl rfl ?_
      refine J_cmp rfl rfl rfl rfl rfl ?_
      refine J_nil2 ?_
      refine E_then ?_
      refine R_cond_false rfl ?_
      refine R_skip ?_
      refine E_block_normal ?_
      refine E_then ?_
      refine R_region ?_
      refine J_ari64 rfl rfl rfl (by omega) rfl rfl ?_
      refine J_moveg rfl rfl rfl ?_
      refine J_nil1 ?_
      exact E_thenI fun a w he hs => ⟨⟨j + 1, by omega⟩, by simp; omega, he.sub (by exact sub_cons rfl (sub_cons rfl (sub_cons rfl (sub_cons rfl sub_nil)))), by
        have hs2 : Sat w (walH b (Wl.none_ d fr many V k) p :: reg p.1 d fr 2 :: reg p.2.1 d (fr + 2) (many - 2) :: shd p.2.2 [] [] :: dvk d ((zf (zf V fr 2) (fr + 2) j).set (fr + 2 + (j : Int)).toNat zs64) (k + 2 + j + 1) :: F) := hs.gives (by exact Gives.cons (Take.next (Take.next Take.here)) (Gives.cons (Take.next (Take.next Take.here)) (Gives.cons (Take.next Take.here) (Gives.last (Take.next Take.here)))))
        exact hs2⟩
    · have ej : j = (many - 2).toNat := by omega
      subst ej
      refine J.open_ (α := Unit) (M := fun _ => wal b { Wl.none_ d fr many V k with V := zf (zf V fr 2) (fr + 2) (many - 2).toNat, k := k + 2 + (many - 2).toNat } :: F) (fun w s => ⟨(), shut_wal (p := p) (by exact s)⟩) ?_
      rintro ⟨⟩
      refine J_callr rfl (wal_head b { Wl.none_ d fr many V k with V := zf (zf V fr 2) (fr + 2) (many - 2).toNat, k := k + 2 + (many - 2).toNat } 1 1 0 rfl (by dsimp only [Wl.none_]; omega) (by dsimp only; omega) _) (by exact Gives.refl) rfl rfl ?_
      skip
      refine J_callr rfl (wal_number _) (by exact Gives.refl) rfl rfl ?_
      refine J_assign rfl rfl rfl ?_
      refine J_nil3 ?_
      refine E_then ?_
      refine R_ret ?_
      apply E_ret Tryz.results27
      · exact Res.tmp rfl (Res.nil)
      · intro w s
        refine ⟨rfl, ?_⟩
        obtain ⟨q, s⟩ := open_wal s
        dsimp only [walL, List.cons_append, List.nil_append, Wl.none_] at s
        have e : k + many.toNat + 2 = k + 2 + (many - 2).toNat + 2 := by omega
        rw [e]
        have s2 : Sat w (dvk d ((zf (zf V fr 2) (fr + 2) (many - 2).toNat).set (fr + 1 % 2).toNat (headB 1 1 0)) (k + 2 + (many - 2).toNat + 2) :: F) := s.gives (by exact Gives.cons (Take.next (Take.next (Take.next (Take.next Take.here)))) (Gives.drop (Gives.drop (Gives.drop (Gives.drop Gives.refl)))))
        exact s2
end Go.Proofs.Sol

/- Records of a log: what is looked for in slices; what may be a transaction; turns. -/
namespace Go.Proofs.Sol
open Go Go.Proofs
set_option maxRecDepth 100000
set_option maxHeartbeats 4000000
set_option linter.unusedVariables false
set_option linter.unusedSimpArgs false
attribute [local irreducible] R J JW E D Fn Y clf mpI own Sat Exit.then Exit.inBlock bodyPost bodyPostM Code.wpIn wpL
/-- A function of sectors that tells p. -/
def Tst (f : Nat) (cs : List Value) (C : List HP) (p : Int × Bytes → Bool) (x : Int × Bytes) : Prop := Fn Tryz.prog f (.agg #[.int .i64 x.1, .string (S x.2)] :: cs) C (Pst (.bool (p x)) C)
theorem slices_IndexFunc (f : Nat) [u : IsFn Tryz.prog f] (cs : List Value) (p : Int × Bytes → Bool) (b2 len cap : Nat) (l : List (Int × Bytes)) (sp : List Value) (C : List HP) (hl : l.length < 1000000)
    (hp : ∀ x ∈ l, Tst f cs (cl b2 164 (secs l ++ sp) :: C) p x) (hlen : len = l.length) :
    Fn Tryz.prog 241 [.slice (some ⟨b2, 0, none⟩) len cap, .func (.func f) #[] cs.toArray] (cl b2 164 (secs l ++ sp) :: C)
      (Pst (.int .i64 (match l.findIdx? p with | some i => (i : Int) | none => -1)) (cl b2 164 (secs l ++ sp) :: C)) := by
  subst hlen
  refine Fn_enter Tryz.func241 rfl Tryz.ntmps241 rfl ?_
  refine R_seq ?_
  refine R_region ?_
  refine J_assign rfl rfl rfl ?_
  refine J_nil ?_
  refine E_then ?_
  refine R_seq ?_
  refine R_seq ?_
  refine R_region ?_
  refine J_move rfl rfl rfl ?_
  refine J_len_slice rfl rfl rfl ?_
  refine J_move rfl rfl rfl ?_
  refine J_nil3 ?_
  refine E_then ?_
  refine R_block ?_
  refine R_loop (X := {j : Nat // j ≤ l.length ∧ ∀ i (h : i < l.length), i < j → p l[i] = false}) (fun j => [(8, .int .i64 (j.1 : Int)), (7, .int .i64 (l.length : Int)), (0, .slice (some ⟨b2, 0, none⟩) l.length cap), (1, .func (.func f) #[] cs.toArray)])
    (fun j => cl b2 164 (secs l ++ sp) :: C) (fun j => l.length - j.1) ⟨0, by omega, fun i _ h => by omega⟩ (by exact sub_cons rfl (sub_cons rfl (sub_cons rfl (sub_cons rfl sub_nil)))) Gives.refl ?_
  rintro ⟨j, hj, hn⟩
  dsimp only
  refine R_seq ?_
  refine R_region ?_
  refine J_cmp rfl rfl rfl rfl rfl ?_
  refine J_nil1 ?_
  refine E_then ?_
  refine R_seq ?_
  refine R_cond rfl (fun hh => ?_) (fun hh => ?_)
  simp only [decide_eq_true_eq, decide_eq_false_iff_not, Bool.and_eq_true, Bool.or_eq_true, Bool.not_eq_true', Bool.not_eq_false', beq_iff_eq, bne_iff_ne, beq_eq_false_iff_ne, bne_eq_false_iff_eq, ne_eq, ge_iff_le, gt_iff_lt, Int.not_le, Int.not_lt, Bool.and_eq_false_iff, Bool.or_eq_false_iff, Decidable.not_not] at hh
  refine R_skip ?_
  refine E_then ?_
  refine R_seq ?_
  refine R_block ?_
  refine R_seq ?_
  refine R_region ?_
  refine J_move rfl rfl rfl ?_
  refine J_assign rfl rfl rfl ?_
  refine J_nil1 ?_
  refine E_then ?_
  refine R_seq ?_
  refine R_region ?_
  refine J_move rfl rfl rfl ?_
  refine J_move rfl rfl rfl ?_
  refine J_move rfl rfl rfl ?_
  refine J_indexAddr rfl rfl (by omega) (by omega) rfl rfl ?_
  rotate_left
  simp only [decide_eq_true_eq, decide_eq_false_iff_not, Bool.and_eq_true, Bool.or_eq_true, Bool.not_eq_true', Bool.not_eq_false', beq_iff_eq, bne_iff_ne, beq_eq_false_iff_ne, bne_eq_false_iff_eq, ne_eq, ge_iff_le, gt_iff_lt, Int.not_le, Int.not_lt, Bool.and_eq_false_iff, Bool.or_eq_false_iff, Decidable.not_not] at hh
  refine R_exit ?_
  refine E_then_exit ?_
  refine E_then_exit ?_
  refine E_block_hit ?_
  refine E_then ?_
  refine R_seq ?_
  refine R_region ?_
  refine J_assign rfl rfl rfl ?_
  refine J_nil ?_
  refine E_then ?_
  refine R_ret ?_
  rotate_left
  · have hlt : j < l.length := by omega
    have e1 : 0 + (j : Int).toNat * 2 = j * 2 := by omega
    rw [e1]
    refine J_loadAX (us := [.int .i64 l[j].1, .string (S l[j].2)]) rfl (by simp [secs_length]; omega) (by
      have := secs_drop l j hlt
      rw [List.drop_append_of_le_length (by simp [secs_length]; omega), List.take_append_of_le_length (by simp [secs_length]; omega)]
      exact this) rfl rfl ?_
    refine J_callv (us := []) (cs := cs) (all := .agg #[.int .i64 l[j].1, .string (S l[j].2)] :: cs) rfl rfl rfl (hp l[j] (List.getElem_mem hlt)) rfl rfl ?_
    rintro v w ⟨rfl, s0⟩
    refine JW.of s0 ?_
    rcases Bool.eq_false_or_eq_true (p l[j]) with hx | hx
    · rw [hx]
      refine J_nil3 ?_
      refine E_then ?_
      refine R_cond_true rfl ?_
      refine R_seq ?_
      refine R_region ?_
      refine J_move rfl rfl rfl ?_
      refine J_assign rfl rfl rfl ?_
      refine J_nil1 ?_
      refine E_then ?_
      refine R_ret ?_
      refine E_block_ret ?_
      refine E_then_ret ?_
      refine E_then_ret ?_
      refine E_block_ret ?_
      refine E_then_ret ?_
      apply E_retP Tryz.results241
      · exact Res.tmp rfl (Res.nil)
      · exact Gives.refl
      have e : l.findIdx? p = some j := by
        rw [List.findIdx?_eq_some_iff_getElem]
        exact ⟨hlt, hx, fun i hi => by simpa using hn i (by omega) hi⟩
      rw [e]; rfl
    · rw [hx]
      refine J_nil3 ?_
      refine E_then ?_
      refine R_cond_false rfl ?_
      refine R_skip ?_
      refine E_block_normal ?_
      refine E_then ?_
      refine R_region ?_
      refine J_ari64 rfl rfl rfl (by omega) rfl rfl ?_
      refine J_moveg rfl rfl rfl ?_
      refine J_nil1 ?_
      exact E_thenI fun a w he hs => ⟨⟨j + 1, by omega, fun i h hi => by
        rcases Nat.lt_or_ge i j with h2 | h2
        · exact hn i h h2
        · have : i = j := by omega
          subst this; exact hx⟩, by simp; omega, he.sub (by exact sub_cons rfl (sub_cons rfl (sub_cons rfl (sub_cons rfl sub_nil)))), hs⟩
  · have e : j = l.length := by omega
    apply E_retP Tryz.results241
    · exact Res.tmp rfl (Res.nil)
    · exact Gives.refl
    have e2 : l.findIdx? p = none := by
      rw [List.findIdx?_eq_none_iff]
      intro x hx
      obtain ⟨i, hi, rfl⟩ := List.getElem_of_mem hx
      exact hn i hi (by omega)
    rw [e2]; rfl
theorem slices_ContainsFunc (f : Nat) [u : IsFn Tryz.prog f] (cs : List Value) (p : Int × Bytes → Bool) (b2 len cap : Nat) (l : List (Int × Bytes)) (sp : List Value) (C : List HP) (hl : l.length < 1000000)
    (hp : ∀ x ∈ l, Tst f cs (cl b2 164 (secs l ++ sp) :: C) p x) (hlen : len = l.length) :
    Fn Tryz.prog 210 [.slice (some ⟨b2, 0, none⟩) len cap, .func (.func f) #[] cs.toArray] (cl b2 164 (secs l ++ sp) :: C)
      (Pst (.bool (l.any p)) (cl b2 164 (secs l ++ sp) :: C)) := by
  refine Fn_enter Tryz.func210 rfl Tryz.ntmps210 rfl ?_
  refine R_seq ?_
  refine R_region ?_
  refine J_assign rfl rfl rfl ?_
  refine J_nil ?_
  refine E_then ?_
  refine R_seq ?_
  refine R_region ?_
  refine J_move rfl rfl rfl ?_
  refine J_move rfl rfl rfl ?_
  refine J_callr rfl (slices_IndexFunc f cs p b2 len cap l sp C hl hp hlen) (by exact Gives.refl) rfl rfl ?_
  refine J_cmp rfl rfl rfl rfl rfl ?_
  refine J_assign rfl rfl rfl ?_
  refine J_nil3 ?_
  refine E_then ?_
  refine R_ret ?_
  apply E_retP Tryz.results210
  · exact Res.tmp rfl (Res.nil)
  · exact Gives.refl
  simp only [one]
  congr 1
  cases e : l.findIdx? p with
  | none =>
    rw [List.findIdx?_eq_none_iff] at e
    have : l.any p = false := by rw [List.any_eq_false]; intro x hx; simpa using e x hx
    rw [this]; rfl
  | some i =>
    rw [List.findIdx?_eq_some_iff_getElem] at e
    obtain ⟨h1, h2, _⟩ := e
    have : l.any p = true := List.any_eq_true.2 ⟨_, List.getElem_mem h1, h2⟩
    rw [this]
    simp
theorem logrec_tail (a b : Bytes) (h : a.length + b.length < 1000000000000) (F : List HP) : Fn Tryz.prog 167 [.string (S a), .string (S b)] F (Pst (.string (S (tail (a ++ b)))) F) := by
  refine Fn_enter Tryz.func167 rfl Tryz.ntmps167 rfl ?_
  refine R_seq ?_
  refine R_region ?_
  refine J_assign rfl rfl rfl ?_
  refine J_nil ?_
  refine E_then ?_
  refine R_seq ?_
  refine R_region ?_
  refine J_move rfl rfl rfl ?_
  refine J_move rfl rfl rfl ?_
  refine J_str_add rfl rfl (by omega) rfl rfl ?_
  refine J_callr rfl (cyclic_Tail (a ++ b) (by simp; omega) _) (by exact Gives.refl) rfl rfl ?_
  refine J_assign rfl rfl rfl ?_
  refine J_nil3 ?_
  refine E_then ?_
  refine R_ret ?_
  apply E_retP Tryz.results167
  · exact Res.tmp rfl (Res.nil)
  · exact Gives.refl
  rfl
end Go.Proofs.Sol

/- Records of a log: what may be a transaction; turns. -/
namespace Go.Proofs.Sol
open Go Go.Proofs
set_option maxRecDepth 100000
set_option maxHeartbeats 4000000
set_option linter.unusedVariables false
set_option linter.unusedSimpArgs false
attribute [local irreducible] R J JW E D Fn Y clf mpI own Sat Exit.then Exit.inBlock bodyPost bodyPostM Code.wpIn wpL
theorem logrec_Check1 (b4 b2 : Nat) (x y : Int × Bytes) (vs : List Value) (F : List HP) : Tst 211 [.pointer (some ⟨b4, 0, none⟩)] (cl b2 164 vs :: cl b4 164 [.int .i64 y.1, .string (S y.2)] :: F) (fun x => x.1 == y.1) x := by
  unfold Tst
  refine Fn_enter Tryz.func211 rfl Tryz.ntmps211 rfl ?_
  refine R_seq ?_
  refine R_region ?_
  refine J_boxA rfl rfl rfl ?_; intro
  refine J_assign rfl rfl rfl ?_
  refine J_nil ?_
  refine E_then ?_
  refine R_seq ?_
  refine R_region ?_
  refine J_fieldAddr0 rfl rfl rfl ?_
  refine J_load rfl rfl rfl rfl ?_
  refine J_fieldAddr0 rfl rfl rfl ?_
  refine J_load rfl rfl rfl rfl ?_
  refine J_cmp rfl rfl rfl rfl rfl ?_
  refine J_assign rfl rfl rfl ?_
  refine J_nil3 ?_
  refine E_then ?_
  refine R_ret ?_
  apply E_retP Tryz.results211
  · exact Res.tmp rfl (Res.nil)
  · exact Gives.cons (Take.next Take.here) (Gives.cons (Take.next Take.here) (Gives.drop Gives.refl))
  rfl
theorem logrec_turn1 (b3 b2 n : Nat) (x : Int × Bytes) (hx : x.2.length = 64) (vs : List Value) (F : List HP) : Tst 212 [.pointer (some ⟨b3, 0, none⟩)] (cl b2 164 vs :: cl b3 3 [.int .i64 (n : Int)] :: F) (fun x => x.2.headD 0 ^^^ UInt8.ofNat n == 82) x := by
  unfold Tst
  obtain ⟨i, s⟩ := x
  dsimp only at hx ⊢
  obtain ⟨c, s', rfl⟩ : ∃ c s', s = c :: s' := by
    cases s with
    | nil => simp at hx
    | cons c s' => exact ⟨c, s', rfl⟩
  have hc : (c :: s')[0]? = some c := rfl
  refine Fn_enter Tryz.func212 rfl Tryz.ntmps212 rfl ?_
  refine R_seq ?_
  refine R_region ?_
  refine J_boxA rfl rfl rfl ?_; intro
  refine J_assign rfl rfl rfl ?_
  refine J_nil ?_
  refine E_then ?_
  refine R_seq ?_
  refine R_draw0 [8] (by kernel_rfl) ?_
  (refine D_lookP (i := 0) rfl (by kernel_rfl) (by exact NP_then NP_body) (by exact Y_fieldAddr0 rfl) rfl rfl ?_)
  (refine D_look (i := 1) rfl (by kernel_rfl) (by exact NP_then NP_body) (by exact Gives.refl) (by exact Y_load rfl rfl) rfl rfl ?_)
  (refine D_lookP (i := 2) rfl (by kernel_rfl) (by exact NP_then NP_body) (by exact Y_index_str rfl rfl (by omega) (by first | assumption | rfl)) rfl rfl ?_)
  (refine D_look (i := 3) rfl (by kernel_rfl) (by exact NP_then NP_body) (by exact Gives.refl) (by exact Y_load rfl rfl) rfl rfl ?_)
  (refine D_look (i := 4) rfl (by kernel_rfl) (by exact NP_then NP_body) (by exact Gives.refl) (by exact Y_conv8 rfl (by omega)) rfl rfl ?_)
  (refine D_lookP (i := 5) rfl (by kernel_rfl) (by exact NP_then NP_body) (by exact Y_xor8 rfl rfl) rfl rfl ?_)
  (refine D_lookP (i := 6) rfl (by kernel_rfl) (by exact NP_then NP_body) (by exact Y_index_str rfl rfl (by omega) (by first | assumption | rfl)) rfl rfl ?_)
  (refine D_lookP (i := 7) rfl (by kernel_rfl) (by exact NP_then NP_body) (by exact Y_cmp rfl rfl rfl) rfl rfl ?_)
  refine D_try1 (i := 8) (by kernel_rfl) rfl ?_
  refine J_assign rfl rfl rfl ?_
  refine D_last (by kernel_rfl) ?_
  (first | refine D_end1 (by kernel_rfl) ?_ | refine D_end (by kernel_rfl) ?_)
  refine E_then ?_
  refine R_ret ?_
  apply E_retP Tryz.results212
  · exact Res.tmp rfl (Res.nil)
  · exact Gives.cons (Take.next Take.here) (Gives.cons (Take.next Take.here) (Gives.drop Gives.refl))
  have e : (n : Int).toNat = n := by omega
  simp only [one, e, List.headD_cons]
  congr 1
  rw [Bool.eq_iff_iff]
  simp
  rw [← UInt8.toNat_inj]
  simp
  omega
theorem logrec_turned (s : Bytes) (hs : s.length = 64) (n : Int) (hn : 0 ≤ n ∧ n < 256) (F : List HP) : Fn Tryz.prog 166 [.string (S s), .int .i64 n] F (Pst (.string (S (turnB s n))) F) := by
  obtain ⟨c, s', rfl⟩ : ∃ c s', s = c :: s' := by
    cases s with
    | nil => simp at hs
    | cons c s' => exact ⟨c, s', rfl⟩
  have hc : (c :: s')[0]? = some c := rfl
  have h1 : [c ^^^ UInt8.ofNat n.toNat].length = 1 := rfl
  have h2 : ((c :: s').drop 1).length = 63 := by simp at hs ⊢; omega
  have h3 : ((c :: s').drop (Int.toNat 1)).length = 63 := h2
  refine Fn_enter Tryz.func166 rfl Tryz.ntmps166 rfl ?_
  refine R_seq ?_
  refine R_region ?_
  refine J_assign rfl rfl rfl ?_
  refine J_nil ?_
  refine E_then ?_
  refine R_seq ?_
  refine R_draw (F) [10] (by kernel_rfl) ?_
  (refine D_lookP (i := 0) rfl (by kernel_rfl) (by exact NP_then NP_body) (by exact Y_move rfl) rfl rfl ?_)
  (refine D_lookP (i := 1) rfl (by kernel_rfl) (by exact NP_then NP_body) (by exact Y_index_str rfl rfl (by omega) (by first | assumption | rfl)) rfl rfl ?_)
  (refine D_lookP (i := 2) rfl (by kernel_rfl) (by exact NP_then NP_body) (by exact Y_move rfl) rfl rfl ?_)
  (refine D_look (i := 3) rfl (by kernel_rfl) (by exact NP_then NP_body) (by exact Gives.refl) (by exact Y_conv8 rfl (by omega)) rfl rfl ?_)
  (refine D_lookP (i := 4) rfl (by kernel_rfl) (by exact NP_then NP_body) (by exact Y_xor8 rfl rfl) rfl rfl ?_)
  (refine D_lookP (i := 7) rfl (by kernel_rfl) (by exact NP_then NP_body) (by exact Y_move rfl) rfl rfl ?_)
  (refine D_look (i := 8) rfl (by kernel_rfl) (by exact NP_then NP_body) (by exact Gives.refl) (by exact Y_slice_lo rfl rfl (by omega) (by omega)) rfl rfl ?_)
  refine D_try1 (i := 5) (by kernel_rfl) rfl ?_
  (refine J_buildSlice rfl rfl rfl rfl rfl rfl ?_; intro)
  refine D_next (by exact Gives.drop Gives.refl) ?_
  refine D_try1 (i := 6) (by kernel_rfl) rfl ?_
  refine J_bytesToStr (cs := [c ^^^ UInt8.ofNat n.toNat]) rfl (by simp) rfl rfl rfl ?_
  refine D_next (by exact Gives.drop Gives.refl) ?_
  (refine D_lookP (i := 9) rfl (by kernel_rfl) (by exact NP_then NP_body) (by exact Y_str_add rfl rfl (by omega)) rfl rfl ?_)
  refine D_try1 (i := 10) (by kernel_rfl) rfl ?_
  refine J_assign rfl rfl rfl ?_
  refine D_last (by kernel_rfl) ?_
  (first | refine D_end1 (by kernel_rfl) ?_ | refine D_end (by kernel_rfl) ?_)
  refine E_then ?_
  refine R_ret ?_
  apply E_retP Tryz.results166
  · exact Res.tmp rfl (Res.nil)
  · exact Gives.drop Gives.refl
  rfl
end Go.Proofs.Sol

/- Records of a log: what may be a transaction; the least turn; a record's size. -/
namespace Go.Proofs.Sol
open Go Go.Proofs
set_option maxRecDepth 100000
set_option maxHeartbeats 4000000
set_option linter.unusedVariables false
set_option linter.unusedSimpArgs false
attribute [local irreducible] R J JW E D Fn Y clf mpI own Sat Exit.then Exit.inBlock bodyPost bodyPostM Code.wpIn wpL
theorem logrec_Check (b2 cap : Nat) (l : List (Int × Bytes)) (sp : List Value) (hcap : l.length ≤ cap) (h : RecOk l) (hne : l ≠ []) (F : List HP) : Fn Tryz.prog 164 [.slice (some ⟨b2, 0, none⟩) l.length cap] (cl b2 164 (secs l ++ sp) :: F) (Pst (.int .i64 0) (cl b2 164 (secs l ++ sp) :: F)) := by
  have hm := h.many
  have h0 : 0 < l.length := List.length_pos_iff.2 hne
  refine Fn_enter Tryz.func164 rfl Tryz.ntmps164 rfl ?_
  refine R_seq ?_
  refine R_region ?_
  refine J_assign rfl rfl rfl ?_
  refine J_nil ?_
  refine E_then ?_
  refine R_seq ?_
  refine R_block ?_
  refine R_seq ?_
  refine R_region ?_
  refine J_move rfl rfl rfl ?_
  refine J_len_slice rfl rfl rfl ?_
  refine J_cmp rfl rfl rfl rfl rfl ?_
  refine J_assign rfl rfl rfl ?_
  refine J_nil3 ?_
  refine E_then ?_
  refine R_cond rfl (fun hh => ?_) (fun hh => ?_)
  simp only [decide_eq_true_eq, decide_eq_false_iff_not, Bool.and_eq_true, Bool.or_eq_true, Bool.not_eq_true', Bool.not_eq_false', beq_iff_eq, bne_iff_ne, beq_eq_false_iff_ne, bne_eq_false_iff_eq, ne_eq, ge_iff_le, gt_iff_lt, Int.not_le, Int.not_lt, Bool.and_eq_false_iff, Bool.or_eq_false_iff, Decidable.not_not] at hh
  exfalso; omega
  simp only [decide_eq_true_eq, decide_eq_false_iff_not, Bool.and_eq_true, Bool.or_eq_true, Bool.not_eq_true', Bool.not_eq_false', beq_iff_eq, bne_iff_ne, beq_eq_false_iff_ne, bne_eq_false_iff_eq, ne_eq, ge_iff_le, gt_iff_lt, Int.not_le, Int.not_lt, Bool.and_eq_false_iff, Bool.or_eq_false_iff, Decidable.not_not] at hh
  refine R_seq ?_
  refine R_region ?_
  refine J_move rfl rfl rfl ?_
  refine J_len_slice rfl rfl rfl ?_
  refine J_cmp rfl rfl rfl rfl rfl ?_
  refine J_assign rfl rfl rfl ?_
  refine J_nil3 ?_
  refine E_then ?_
  refine R_cond rfl (fun hh => ?_) (fun hh => ?_)
  simp only [decide_eq_true_eq, decide_eq_false_iff_not, Bool.and_eq_true, Bool.or_eq_true, Bool.not_eq_true', Bool.not_eq_false', beq_iff_eq, bne_iff_ne, beq_eq_false_iff_ne, bne_eq_false_iff_eq, ne_eq, ge_iff_le, gt_iff_lt, Int.not_le, Int.not_lt, Bool.and_eq_false_iff, Bool.or_eq_false_iff, Decidable.not_not] at hh
  exfalso; omega
  simp only [decide_eq_true_eq, decide_eq_false_iff_not, Bool.and_eq_true, Bool.or_eq_true, Bool.not_eq_true', Bool.not_eq_false', beq_iff_eq, bne_iff_ne, beq_eq_false_iff_ne, bne_eq_false_iff_eq, ne_eq, ge_iff_le, gt_iff_lt, Int.not_le, Int.not_lt, Bool.and_eq_false_iff, Bool.or_eq_false_iff, Decidable.not_not] at hh
  refine R_skip ?_
  refine E_block_normal ?_
  refine E_then ?_
  refine R_seq ?_
  refine R_seq ?_
  refine R_region ?_
  refine J_move rfl rfl rfl ?_
  refine J_len_slice rfl rfl rfl ?_
  refine J_move rfl rfl rfl ?_
  refine J_nil3 ?_
  refine E_then ?_
  refine R_block ?_
  refine R_loop (X := {j : Nat // j ≤ l.length}) (fun j => [(15, .int .i64 (j.1 : Int)), (14, .int .i64 (l.length : Int)), (13, .slice (some ⟨b2, 0, none⟩) l.length cap), (0, .slice (some ⟨b2, 0, none⟩) l.length cap)])
    (fun j => cl b2 164 (secs l ++ sp) :: F) (fun j => l.length - j.1) ⟨0, by omega⟩ (by exact sub_cons rfl (sub_cons rfl (sub_cons rfl (sub_cons rfl sub_nil)))) Gives.refl ?_
  rintro ⟨j, hj⟩
  dsimp only
  refine R_seq ?_
  refine R_region ?_
  refine J_cmp rfl rfl rfl rfl rfl ?_
  refine J_nil1 ?_
  refine E_then ?_
  refine R_seq ?_
  refine R_cond rfl (fun hh => ?_) (fun hh => ?_)
  simp only [decide_eq_true_eq, decide_eq_false_iff_not, Bool.and_eq_true, Bool.or_eq_true, Bool.not_eq_true', Bool.not_eq_false', beq_iff_eq, bne_iff_ne, beq_eq_false_iff_ne, bne_eq_false_iff_eq, ne_eq, ge_iff_le, gt_iff_lt, Int.not_le, Int.not_lt, Bool.and_eq_false_iff, Bool.or_eq_false_iff, Decidable.not_not] at hh
  refine R_skip ?_
  refine E_then ?_
  refine R_seq ?_
  refine R_block ?_
  refine R_seq ?_
  refine R_region ?_
  refine J_move rfl rfl rfl ?_
  refine J_indexAddr rfl rfl (by omega) (by omega) rfl rfl ?_
  rotate_left
  simp only [decide_eq_true_eq, decide_eq_false_iff_not, Bool.and_eq_true, Bool.or_eq_true, Bool.not_eq_true', Bool.not_eq_false', beq_iff_eq, bne_iff_ne, beq_eq_false_iff_ne, bne_eq_false_iff_eq, ne_eq, ge_iff_le, gt_iff_lt, Int.not_le, Int.not_lt, Bool.and_eq_false_iff, Bool.or_eq_false_iff, Decidable.not_not] at hh
  refine R_exit ?_
  refine E_then_exit ?_
  refine E_then_exit ?_
  refine E_block_hit ?_
  refine E_then ?_
  refine R_seq ?_
  refine R_region ?_
  refine J_assign rfl rfl rfl ?_
  refine J_nil ?_
  refine E_then ?_
  refine R_ret ?_
  rotate_left
  · have hlt : j < l.length := by omega
    have e1 : 0 + (j : Int).toNat * 2 = j * 2 := by omega
    rw [e1]
    refine J_loadAX (us := [.int .i64 l[j].1, .string (S l[j].2)]) rfl (by simp [secs_length]; omega) (by
      have := secs_drop l j hlt
      rw [List.drop_append_of_le_length (by simp [secs_length]; omega), List.take_append_of_le_length (by simp [secs_length]; omega)]
      exact this) rfl rfl ?_
    have ha := h.at_ l[j] (List.getElem_mem hlt)
    have hd := h.data l[j] (List.getElem_mem hlt)
    generalize hx : l[j] = x at ha hd ⊢
    refine J_alloc rfl rfl ?_; intro
    refine J_assign rfl rfl rfl ?_
    refine J_storeA rfl rfl rfl rfl rfl rfl ?_
    refine J_nil3 ?_
    refine E_then ?_
    refine R_block ?_
    refine R_seq ?_
    refine R_region ?_
    refine J_fieldAddr0 rfl rfl rfl ?_
    refine J_load rfl rfl rfl rfl ?_
    refine J_cmp rfl rfl rfl rfl rfl ?_
    refine J_move rfl rfl rfl ?_
    refine J_guard_split rfl rfl (fun hh => ?_) (fun hh => ?_)
    simp only [decide_eq_true_eq, decide_eq_false_iff_not, Bool.and_eq_true, Bool.or_eq_true, Bool.not_eq_true', Bool.not_eq_false', beq_iff_eq, bne_iff_ne, beq_eq_false_iff_ne, bne_eq_false_iff_eq, ne_eq, ge_iff_le, gt_iff_lt, Int.not_le, Int.not_lt, Bool.and_eq_false_iff, Bool.or_eq_false_iff, Decidable.not_not] at hh
    exfalso; omega
    simp only [decide_eq_true_eq, decide_eq_false_iff_not, Bool.and_eq_true, Bool.or_eq_true, Bool.not_eq_true', Bool.not_eq_false', beq_iff_eq, bne_iff_ne, beq_eq_false_iff_ne, bne_eq_false_iff_eq, ne_eq, ge_iff_le, gt_iff_lt, Int.not_le, Int.not_lt, Bool.and_eq_false_iff, Bool.or_eq_false_iff, Decidable.not_not] at hh
    refine J_guard rfl rfl rfl ?_
    refine J_fieldAddr0 rfl rfl rfl ?_
    refine J_guard rfl rfl rfl ?_
    refine J_load rfl rfl rfl rfl ?_
    refine J_guard rfl rfl rfl ?_
    refine J_cmp rfl rfl rfl rfl rfl ?_
    refine J_pick_false rfl rfl rfl rfl ?_
    refine J_assign rfl rfl rfl ?_
    refine J_nil3 ?_
    refine E_then ?_
    refine R_cond rfl (fun hh => ?_) (fun hh => ?_)
    simp only [decide_eq_true_eq, decide_eq_false_iff_not, Bool.and_eq_true, Bool.or_eq_true, Bool.not_eq_true', Bool.not_eq_false', beq_iff_eq, bne_iff_ne, beq_eq_false_iff_ne, bne_eq_false_iff_eq, ne_eq, ge_iff_le, gt_iff_lt, Int.not_le, Int.not_lt, Bool.and_eq_false_iff, Bool.or_eq_false_iff, Decidable.not_not] at hh
    exfalso; omega
    simp only [decide_eq_true_eq, decide_eq_false_iff_not, Bool.and_eq_true, Bool.or_eq_true, Bool.not_eq_true', Bool.not_eq_false', beq_iff_eq, bne_iff_ne, beq_eq_false_iff_ne, bne_eq_false_iff_eq, ne_eq, ge_iff_le, gt_iff_lt, Int.not_le, Int.not_lt, Bool.and_eq_false_iff, Bool.or_eq_false_iff, Decidable.not_not] at hh
    refine R_seq ?_
    refine R_region ?_
    refine J_fieldAddr0 rfl rfl rfl ?_
    refine J_load rfl rfl rfl rfl ?_
    refine J_len_str rfl rfl rfl ?_
    refine J_cmp rfl rfl rfl rfl rfl ?_
    refine J_assign rfl rfl rfl ?_
    refine J_nil3 ?_
    refine E_then ?_
    refine R_cond rfl (fun hh => ?_) (fun hh => ?_)
    simp only [decide_eq_true_eq, decide_eq_false_iff_not, Bool.and_eq_true, Bool.or_eq_true, Bool.not_eq_true', Bool.not_eq_false', beq_iff_eq, bne_iff_ne, beq_eq_false_iff_ne, bne_eq_false_iff_eq, ne_eq, ge_iff_le, gt_iff_lt, Int.not_le, Int.not_lt, Bool.and_eq_false_iff, Bool.or_eq_false_iff, Decidable.not_not] at hh
    exfalso; omega
    simp only [decide_eq_true_eq, decide_eq_false_iff_not, Bool.and_eq_true, Bool.or_eq_true, Bool.not_eq_true', Bool.not_eq_false', beq_iff_eq, bne_iff_ne, beq_eq_false_iff_ne, bne_eq_false_iff_eq, ne_eq, ge_iff_le, gt_iff_lt, Int.not_le, Int.not_lt, Bool.and_eq_false_iff, Bool.or_eq_false_iff, Decidable.not_not] at hh
    refine R_seq ?_
    refine R_region ?_
    refine J_move rfl rfl rfl ?_
    refine J_move rfl rfl rfl ?_
    refine J_sliceTo rfl rfl rfl (by omega) (by omega) rfl rfl ?_
    refine J_makeFunc rfl rfl rfl rfl ?_
    rename_i b4 hq1 hq2
    have e2 : secs l ++ sp = secs (l.take j) ++ (secs (l.drop j) ++ sp) := by
      rw [← List.append_assoc]; congr 1
      unfold secs
      rw [← List.flatMap_append, List.take_append_drop]
    have e3 : (j : Int).toNat = (l.take j).length := by simp; omega
    have hc := slices_ContainsFunc 211 [.pointer (some ⟨b4, 0, none⟩)] (fun y => y.1 == x.1) b2 (j : Int).toNat cap (l.take j) (secs (l.drop j) ++ sp) (cl b4 164 [.int .i64 x.1, .string (S x.2)] :: F) (by simp; omega)
      (fun y _ => logrec_Check1 b4 b2 y x _ F) e3
    rw [← e2] at hc
    refine J_callr rfl (hc) (by exact Gives.last (Take.next Take.here)) rfl rfl ?_
    have e4 : (l.take j).any (fun y => y.1 == x.1) = false := by
      rw [List.any_eq_false]
      intro y hy he
      have he' : y.1 = x.1 := by simpa using he
      have hn := h.nd
      rw [← List.take_append_drop j l, List.map_append, List.nodup_append] at hn
      refine hn.2.2 y.1 (List.mem_map.2 ⟨y, hy, rfl⟩) x.1 (List.mem_map.2 ⟨x, ?_, rfl⟩) he'
      rw [← hx, List.drop_eq_getElem_cons hlt]
      exact List.mem_cons_self
    rw [e4]
    refine J_assign rfl rfl rfl ?_
    refine J_nil3 ?_
    refine E_then ?_
    refine R_cond_false rfl ?_
    refine R_skip ?_
    refine E_block_normal ?_
    refine E_block_normal ?_
    refine E_then ?_
    refine R_region ?_
    refine J_ari64 rfl rfl rfl (by omega) rfl rfl ?_
    refine J_moveg rfl rfl rfl ?_
    refine J_nil1 ?_
    exact E_thenI fun a w he hs => ⟨⟨j + 1, by omega⟩, by simp; omega, he.sub (by exact sub_cons rfl (sub_cons rfl (sub_cons rfl (sub_cons rfl sub_nil)))), hs.gives (by exact Gives.cons Take.here (Gives.drop Gives.refl))⟩
  · apply E_retP Tryz.results164
    · exact Res.tmp rfl (Res.nil)
    · exact Gives.refl
    rfl
/-- The least turn. -/
def turnOf (l : List (Int × Bytes)) : Nat := ((List.range 257).find? fun n => !meets l n).getD 0
theorem turnOf_eq {l : List (Int × Bytes)} {n : Nat} (hn : n < 257) (h1 : ∀ j, j < n → meets l j = true) (h2 : meets l n = false) : turnOf l = n := by
  unfold turnOf
  have : (List.range 257).find? (fun n => !meets l n) = some n := by
    rw [List.find?_range_eq_some]
    exact ⟨by simp [h2], List.mem_range.2 hn, fun j hj => by simp [h1 j hj]⟩
  rw [this]; rfl
theorem logrec_turn (b2 cap : Nat) (l : List (Int × Bytes)) (sp : List Value) (h : RecOk l) (F : List HP) : Fn Tryz.prog 165 [.slice (some ⟨b2, 0, none⟩) l.length cap] (cl b2 164 (secs l ++ sp) :: F)
    (fun v w => v = .int .i64 (turnOf l : Int) ∧ turnOf l ≤ 16 ∧ Sat w (cl b2 164 (secs l ++ sp) :: F)) := by
  have hm := h.many
  refine Fn_enter Tryz.func165 rfl Tryz.ntmps165 rfl ?_
  refine R_seq ?_
  refine R_region ?_
  refine J_assign rfl rfl rfl ?_
  refine J_nil ?_
  refine E_then ?_
  refine R_seq ?_
  refine R_region ?_
  refine J_alloc rfl rfl ?_; intro
  refine J_store rfl rfl rfl rfl ?_
  refine J_nil ?_
  refine E_then ?_
  refine R_seq ?_
  refine R_block ?_
  rename_i b3
  refine R_loop (X := {n : Nat // n ≤ l.length ∧ ∀ j, j < n → meets l j = true}) (fun n => [(3, .pointer (some ⟨b3, 0, none⟩)), (0, .slice (some ⟨b2, 0, none⟩) l.length cap)])
    (fun n => cl b3 3 [.int .i64 (n.1 : Int)] :: cl b2 164 (secs l ++ sp) :: F) (fun n => l.length + 1 - n.1) ⟨0, by omega, fun j hj => by omega⟩ (by exact sub_cons rfl (sub_cons rfl sub_nil)) Gives.refl ?_
  rintro ⟨n, hn, hall⟩
  dsimp only
  refine R_seq ?_
  refine R_seq ?_
  refine R_region ?_
  refine J_move rfl rfl rfl ?_
  refine J_makeFunc rfl rfl rfl rfl ?_
  refine J_callr rfl (slices_ContainsFunc 212 [.pointer (some ⟨b3, 0, none⟩)] (fun x => x.2.headD 0 ^^^ UInt8.ofNat n == 82) b2 l.length cap l sp (cl b3 3 [.int .i64 (n : Int)] :: F) (by omega) (fun x hx => logrec_turn1 b3 b2 n x (h.data x hx) _ F) rfl) (by exact Gives.last (Take.next Take.here)) rfl rfl ?_
  rcases Bool.eq_false_or_eq_true (l.any fun x => x.2.headD 0 ^^^ UInt8.ofNat n == 82) with hx | hx
  · rw [hx]
    have hall' : ∀ j, j < n + 1 → meets l j = true := fun j hj => by
      rcases Nat.lt_or_ge j n with h2 | h2
      · exact hall j h2
      · have : j = n := by omega
        subst this; exact hx
    have hle := meets_le (by omega) hall'
    refine J_nil3 ?_
    refine E_then ?_
    refine R_cond_true rfl ?_
    refine R_skip ?_
    refine E_then ?_
    refine R_block ?_
    refine R_region ?_
    refine J_load rfl rfl rfl rfl ?_
    refine J_ari64 rfl rfl rfl (by omega) rfl rfl ?_
    refine J_store rfl rfl rfl rfl ?_
    refine J_nil2 ?_
    refine E_block_normal ?_
    exact E_thenI fun a w he hs => ⟨⟨n + 1, hle, hall'⟩, by simp; omega, he.sub (by exact sub_cons rfl (sub_cons rfl sub_nil)), hs.gives (by exact Gives.last (Take.next Take.here))⟩
  · rw [hx]
    have e := turnOf_eq (l := l) (n := n) (by omega) hall hx
    refine J_nil3 ?_
    refine E_then ?_
    refine R_cond_false rfl ?_
    refine R_exit ?_
    refine E_then_exit ?_
    refine E_then_exit ?_
    refine E_block_hit ?_
    refine E_then ?_
    refine R_seq ?_
    refine R_region ?_
    refine J_load rfl rfl rfl rfl ?_
    refine J_assign rfl rfl rfl ?_
    refine J_nil1 ?_
    refine E_then ?_
    refine R_ret ?_
    apply E_ret Tryz.results165
    · exact Res.tmp rfl (Res.nil)
    · intro w s
      rw [e]
      exact ⟨rfl, by omega, s.gives (by exact Gives.cons Take.here (Gives.drop Gives.refl))⟩
end Go.Proofs.Sol

/- Records, laid into a log. -/
namespace Go.Proofs.Sol
open Go Go.Proofs
set_option maxRecDepth 100000
set_option maxHeartbeats 4000000
set_option linter.unusedVariables false
set_option linter.unusedSimpArgs false
attribute [local irreducible] R J JW E D Fn Y clf mpI own Sat Exit.then Exit.inBlock bodyPost bodyPostM Code.wpIn wpL
theorem logscan_wrap (r d : Nat) (f m i : Int) (hm : 0 < m) (hi : 0 ≤ i) (F : List HP) : Fn Tryz.prog 170 [.pointer (some ⟨r, 0, none⟩), .int .i64 i] (reg r d f m :: F) (Pst (.int .i64 (i % m)) (reg r d f m :: F)) := by
  refine Fn_enter Tryz.func170 rfl Tryz.ntmps170 rfl ?_
  refine R_seq ?_
  refine R_region ?_
  refine J_assign rfl rfl rfl ?_
  refine J_nil ?_
  refine E_then ?_
  refine R_seq ?_
  refine R_region ?_
  refine J_move rfl rfl rfl ?_
  refine J_move rfl rfl rfl ?_
  refine J_callr rfl (region_Many r d f m _) (by exact Gives.refl) rfl rfl ?_
  refine J_rem rfl rfl (by omega) (by omega) rfl rfl ?_
  refine J_assign rfl rfl rfl ?_
  refine J_nil3 ?_
  refine E_then ?_
  refine R_ret ?_
  apply E_retP Tryz.results170
  · exact Res.tmp rfl (Res.nil)
  · exact Gives.refl
  rfl
theorem logscan_there (r d : Nat) (f m i : Int) (hi : 0 ≤ i ∧ i < m) (hf : 0 ≤ f ∧ f ≤ 1000 ∧ m ≤ 1000) (F : List HP) : Fn Tryz.prog 168 [.pointer (some ⟨r, 0, none⟩), .int .i64 i] (reg r d f m :: F) (Pst (.int .i64 0) (reg r d f m :: F)) := by
  refine Fn_enter Tryz.func168 rfl Tryz.ntmps168 rfl ?_
  refine R_seq ?_
  refine R_region ?_
  refine J_assign rfl rfl rfl ?_
  refine J_nil ?_
  refine E_then ?_
  refine R_seq ?_
  refine R_region ?_
  refine J_move rfl rfl rfl ?_
  refine J_move rfl rfl rfl ?_
  refine J_callr rfl (region_Place r d f m i hf _) (by exact Gives.refl) rfl rfl ?_
  rw [if_pos hi, if_pos hi]
  refine J_move rfl rfl rfl ?_
  refine J_extract rfl rfl rfl rfl ?_
  refine J_extract rfl rfl rfl rfl ?_
  refine J_assign rfl rfl rfl ?_
  refine J_assign rfl rfl rfl ?_
  refine J_nil3 ?_
  refine E_then ?_
  refine R_seq ?_
  refine R_region ?_
  refine J_move rfl rfl rfl ?_
  refine J_assign rfl rfl rfl ?_
  refine J_nil1 ?_
  refine E_then ?_
  refine R_ret ?_
  apply E_retP Tryz.results168
  · exact Res.tmp rfl (Res.nil)
  · exact Gives.refl
  rfl
/-- A sector of a record, laid. -/
def layV (V : List Bytes) (f m a : Int) (s : Bytes) (k : Nat) : List Bytes := V.set (f + (a + k) % m).toNat ((s.drop (64 * k)).take 64)
theorem layV_length (V : List Bytes) (f m a : Int) (s : Bytes) (k : Nat) : (layV V f m a s k).length = V.length := by simp [layV]
theorem logscan_Put1 (b1 b2 b3 r d : Nat) (V : List Bytes) (k : Nat) (f m a : Int) (s : Bytes) (j : Nat) (hj : 64 * (j + 1) ≤ s.length) (hs : s.length ≤ 100000) (ha : 0 ≤ a ∧ a < m) (hf : 0 ≤ f ∧ f + m ≤ V.length) (hD : V.length ≤ 1000) (hk : k < 1000000000) (F : List HP) :
    Fn Tryz.prog 169 [.int .i64 (j : Int), .pointer (some ⟨b1, 0, none⟩), .pointer (some ⟨b2, 0, none⟩), .pointer (some ⟨b3, 0, none⟩)]
      (cl b1 150 [.pointer (some ⟨r, 0, none⟩)] :: cl b2 3 [.int .i64 a] :: cl b3 9 [.string (S s)] :: dvk d V k :: reg r d f m :: F)
      (Pst (.int .i64 0) (cl b1 150 [.pointer (some ⟨r, 0, none⟩)] :: cl b2 3 [.int .i64 a] :: cl b3 9 [.string (S s)] :: dvk d (layV V f m a s j) (k + 1) :: reg r d f m :: F)) := by
  unfold layV
  have hm : 0 < m := by omega
  have h1 : 0 ≤ (a + j) % m := Int.emod_nonneg _ (by omega)
  have h2 : (a + j) % m < m := Int.emod_lt_of_pos _ hm
  have e1 : ((j : Int) * 64).toNat = 64 * j := by omega
  have e2 : (s.drop ((j : Int) * 64).toNat).length = s.length - ((j : Int) * 64).toNat := List.length_drop
  refine Fn_enter Tryz.func169 rfl Tryz.ntmps169 rfl ?_
  refine R_seq ?_
  refine R_region ?_
  refine J_assign rfl rfl rfl ?_
  refine J_nil ?_
  refine E_then ?_
  refine R_seq ?_
  refine R_draw ([cl b1 150 [.pointer (some ⟨r, 0, none⟩)], cl b2 3 [.int .i64 a], cl b3 9 [.string (S s)]]) [11, 12] (by kernel_rfl) ?_
  (refine D_look (i := 0) rfl (by kernel_rfl) (by exact NP_then NP_body) (by exact Gives.cons Take.here (Gives.cons Take.here (Gives.cons Take.here Gives.nil))) (by exact Y_load rfl rfl) rfl rfl ?_)
  (refine D_look (i := 1) rfl (by kernel_rfl) (by exact NP_then NP_body) (by exact Gives.cons Take.here (Gives.cons Take.here (Gives.cons Take.here Gives.nil))) (by exact Y_load rfl rfl) rfl rfl ?_)
  (refine D_look (i := 2) rfl (by kernel_rfl) (by exact NP_then NP_body) (by exact Gives.cons Take.here (Gives.cons Take.here (Gives.cons Take.here Gives.nil))) (by exact Y_load rfl rfl) rfl rfl ?_)
  (refine D_lookP (i := 3) rfl (by kernel_rfl) (by exact NP_then NP_body) (by exact Y_move rfl) rfl rfl ?_)
  (refine D_lookP (i := 4) rfl (by kernel_rfl) (by exact NP_then NP_body) (by exact Y_ari64 rfl rfl rfl (by omega)) rfl rfl ?_)
  (refine D_look (i := 6) rfl (by kernel_rfl) (by exact NP_then NP_body) (by exact Gives.cons Take.here (Gives.cons Take.here (Gives.cons Take.here Gives.nil))) (by exact Y_load rfl rfl) rfl rfl ?_)
  (refine D_lookP (i := 7) rfl (by kernel_rfl) (by exact NP_then NP_body) (by exact Y_move rfl) rfl rfl ?_)
  (refine D_lookP (i := 8) rfl (by kernel_rfl) (by exact NP_then NP_body) (by exact Y_ari64 rfl rfl rfl (by omega)) rfl rfl ?_)
  (refine D_look (i := 9) rfl (by kernel_rfl) (by exact NP_then NP_body) (by exact Gives.cons Take.here (Gives.cons Take.here (Gives.cons Take.here Gives.nil))) (by exact Y_slice_lo rfl rfl (by omega) (by omega)) rfl rfl ?_)
  (refine D_look (i := 10) rfl (by kernel_rfl) (by exact NP_then NP_body) (by exact Gives.cons Take.here (Gives.cons Take.here (Gives.cons Take.here Gives.nil))) (by exact Y_slice_hi rfl rfl (by omega) (by omega)) rfl rfl ?_)
  refine D_try1 (i := 5) (by kernel_rfl) rfl ?_
  refine J_callr rfl (logscan_wrap r d f m (a + j) hm (by omega) _) (by exact Gives.last (Take.next (Take.next (Take.next (Take.next Take.here))))) rfl rfl ?_
  refine D_next (by exact Gives.cons (Take.next Take.here) (Gives.cons (Take.next Take.here) (Gives.cons (Take.next Take.here) Gives.nil))) ?_
  refine D_try1 (i := 11) (by kernel_rfl) rfl ?_
  have e3 : ((s.drop ((j : Int) * 64).toNat).take (Int.toNat 64)) = (s.drop (64 * j)).take 64 := by rw [e1]; rfl
  rw [e3]
  refine J_callr rfl (region_Write1 r d V k f m ((a + j) % m) ((s.drop (64 * j)).take 64) (by simp; omega) ⟨h1, h2⟩ hf hD hk _) (by exact Gives.last (Take.next (Take.next (Take.next (Take.next Take.here))))) rfl rfl ?_
  refine D_last (by kernel_rfl) ?_
  refine D_try1 (i := 12) (by kernel_rfl) rfl ?_
  refine J_assign rfl rfl rfl ?_
  refine D_last (by kernel_rfl) ?_
  (first | refine D_end1 (by kernel_rfl) ?_ | refine D_end (by kernel_rfl) ?_)
  refine E_then ?_
  refine R_ret ?_
  apply E_retP Tryz.results169
  · exact Res.tmp rfl (Res.nil)
  · exact Gives.cons (Take.next (Take.next Take.here)) (Gives.cons (Take.next (Take.next Take.here)) (Gives.last (Take.next (Take.next Take.here))))
  rfl
def layC (V : List Bytes) (f m a : Int) (s : Bytes) : Nat → List Bytes
  | 0 => V
  | c + 1 => layV (layC V f m a s c) f m a s (c + 1)
theorem layC_length (V : List Bytes) (f m a : Int) (s : Bytes) (c : Nat) : (layC V f m a s c).length = V.length := by
  induction c with
  | zero => rfl
  | succ c ih => simp only [layC, layV_length, ih]
/-- A log's sectors, a record laid into them. -/
def putV (V : List Bytes) (f m a : Int) (s : Bytes) (n : Nat) : List Bytes := layV (layC V f m a s (n - 1)) f m a s 0
theorem putV_length (V : List Bytes) (f m a : Int) (s : Bytes) (n : Nat) : (putV V f m a s n).length = V.length := by simp only [putV, layV_length, layC_length]
theorem logscan_Put (r d : Nat) (V : List Bytes) (k : Nat) (f m a : Int) (s : Bytes) (n : Nat) (hs : s.length = 64 * n) (hn : 2 ≤ n ∧ n ≤ m) (ha : 0 ≤ a ∧ a < m) (hf : 0 ≤ f ∧ f + m ≤ V.length) (hD : V.length ≤ 1000) (hk : k < 100000000) (F : List HP) :
    Fn Tryz.prog 103 [.pointer (some ⟨r, 0, none⟩), .int .i64 a, .string (S s)] (dvk d V k :: reg r d f m :: F) (Pst (.int .i64 0) (dvk d (putV V f m a s n) (k + n + 1) :: reg r d f m :: F)) := by
  have e1 : (s.length : Int) / 64 = (n : Int) := by omega
  refine Fn_enter Tryz.func103 rfl Tryz.ntmps103 rfl ?_
  refine R_seq ?_
  refine R_region ?_
  refine J_box rfl rfl rfl rfl ?_; intro
  refine J_box rfl rfl rfl rfl ?_; intro
  refine J_box rfl rfl rfl rfl ?_; intro
  refine J_assign rfl rfl rfl ?_
  refine J_nil ?_
  refine E_then ?_
  refine R_seq ?_
  refine R_region ?_
  refine J_load rfl rfl rfl rfl ?_
  refine J_len_str rfl rfl rfl ?_
  refine J_quo rfl rfl (by omega) (by omega) rfl rfl ?_
  refine J_assign rfl rfl rfl ?_
  refine J_nil3 ?_
  refine E_then ?_
  refine R_seq ?_
  refine R_seq ?_
  refine R_region ?_
  refine J_load rfl rfl rfl rfl ?_
  refine J_load rfl rfl rfl rfl ?_
  rename_i b1 b2 b3
  rw [e1]
  refine J_callr rfl (logscan_there r d f m a ha (by omega) _) (by exact Gives.last (Take.next (Take.next (Take.next (Take.next Take.here))))) rfl rfl ?_
  refine J_assign rfl rfl rfl ?_
  refine J_nil3 ?_
  refine E_then ?_
  refine R_block ?_
  refine R_seq ?_
  refine R_region ?_
  refine J_move rfl rfl rfl ?_
  refine J_cmp rfl rfl rfl rfl rfl ?_
  refine J_assign rfl rfl rfl ?_
  refine J_nil2 ?_
  refine E_then ?_
  refine R_cond_false rfl ?_
  refine R_seq ?_
  refine R_region ?_
  refine J_move rfl rfl rfl ?_
  refine J_cmp rfl rfl rfl rfl rfl ?_
  refine J_move rfl rfl rfl ?_
  refine J_guard_split rfl rfl (fun hh => ?_) (fun hh => ?_)
  simp only [decide_eq_true_eq, decide_eq_false_iff_not, Bool.and_eq_true, Bool.or_eq_true, Bool.not_eq_true', Bool.not_eq_false', beq_iff_eq, bne_iff_ne, beq_eq_false_iff_ne, bne_eq_false_iff_eq, ne_eq, ge_iff_le, gt_iff_lt, Int.not_le, Int.not_lt, Bool.and_eq_false_iff, Bool.or_eq_false_iff, Decidable.not_not] at hh
  exfalso; omega
  simp only [decide_eq_true_eq, decide_eq_false_iff_not, Bool.and_eq_true, Bool.or_eq_true, Bool.not_eq_true', Bool.not_eq_false', beq_iff_eq, bne_iff_ne, beq_eq_false_iff_ne, bne_eq_false_iff_eq, ne_eq, ge_iff_le, gt_iff_lt, Int.not_le, Int.not_lt, Bool.and_eq_false_iff, Bool.or_eq_false_iff, Decidable.not_not] at hh
  refine J_guard rfl rfl rfl ?_
  refine J_load rfl rfl rfl rfl ?_
  refine J_guard rfl rfl rfl ?_
  refine J_len_str rfl rfl rfl ?_
  refine J_guard rfl rfl rfl ?_
  refine J_move rfl rfl rfl ?_
  refine J_guard rfl rfl rfl ?_
  refine J_ari64 rfl rfl rfl (by omega) rfl rfl ?_
  refine J_guard rfl rfl rfl ?_
  refine J_cmp rfl rfl rfl rfl rfl ?_
  refine J_pick_false rfl rfl rfl rfl ?_
  refine J_assign rfl rfl rfl ?_
  refine J_nil3 ?_
  refine E_then ?_
  refine R_cond rfl (fun hh => ?_) (fun hh => ?_)
  simp only [decide_eq_true_eq, decide_eq_false_iff_not, Bool.and_eq_true, Bool.or_eq_true, Bool.not_eq_true', Bool.not_eq_false', beq_iff_eq, bne_iff_ne, beq_eq_false_iff_ne, bne_eq_false_iff_eq, ne_eq, ge_iff_le, gt_iff_lt, Int.not_le, Int.not_lt, Bool.and_eq_false_iff, Bool.or_eq_false_iff, Decidable.not_not] at hh
  exfalso; omega
  simp only [decide_eq_true_eq, decide_eq_false_iff_not, Bool.and_eq_true, Bool.or_eq_true, Bool.not_eq_true', Bool.not_eq_false', beq_iff_eq, bne_iff_ne, beq_eq_false_iff_ne, bne_eq_false_iff_eq, ne_eq, ge_iff_le, gt_iff_lt, Int.not_le, Int.not_lt, Bool.and_eq_false_iff, Bool.or_eq_false_iff, Decidable.not_not] at hh
  refine R_seq ?_
  refine R_region ?_
  refine J_move rfl rfl rfl ?_
  refine J_cmp rfl rfl rfl rfl rfl ?_
  refine J_move rfl rfl rfl ?_
  refine J_guard rfl rfl rfl ?_
  refine J_move rfl rfl rfl ?_
  refine J_guard rfl rfl rfl ?_
  refine J_load rfl rfl rfl rfl ?_
  refine J_guard rfl rfl rfl ?_
  refine J_callr rfl (region_Many r d f m _) (by exact Gives.refl) rfl rfl ?_
  refine J_guard rfl rfl rfl ?_
  refine J_cmp rfl rfl rfl rfl rfl ?_
  refine J_pick_false rfl rfl rfl rfl ?_
  refine J_assign rfl rfl rfl ?_
  refine J_nil3 ?_
  refine E_then ?_
  refine R_cond rfl (fun hh => ?_) (fun hh => ?_)
  simp only [decide_eq_true_eq, decide_eq_false_iff_not, Bool.and_eq_true, Bool.or_eq_true, Bool.not_eq_true', Bool.not_eq_false', beq_iff_eq, bne_iff_ne, beq_eq_false_iff_ne, bne_eq_false_iff_eq, ne_eq, ge_iff_le, gt_iff_lt, Int.not_le, Int.not_lt, Bool.and_eq_false_iff, Bool.or_eq_false_iff, Decidable.not_not] at hh
  exfalso; omega
  simp only [decide_eq_true_eq, decide_eq_false_iff_not, Bool.and_eq_true, Bool.or_eq_true, Bool.not_eq_true', Bool.not_eq_false', beq_iff_eq, bne_iff_ne, beq_eq_false_iff_ne, bne_eq_false_iff_eq, ne_eq, ge_iff_le, gt_iff_lt, Int.not_le, Int.not_lt, Bool.and_eq_false_iff, Bool.or_eq_false_iff, Decidable.not_not] at hh
  refine R_skip ?_
  refine E_block_normal ?_
  refine E_then ?_
  refine R_seq ?_
  refine R_region ?_
  refine J_makeFunc rfl rfl rfl rfl ?_
  refine J_assign rfl rfl rfl ?_
  refine J_nil1 ?_
  refine E_then ?_
  refine R_seq ?_
  refine R_seq ?_
  refine R_region ?_
  refine J_assign rfl rfl rfl ?_
  refine J_nil ?_
  refine E_then ?_
  refine R_block ?_
  refine R_loop (X := {c : Nat // c + 1 ≤ n}) (fun c => [(10, .int .i64 ((c.1 : Int) + 1)), (7, .int .i64 (n : Int)), (9, .func (.func 169) #[] #[.pointer (some ⟨b1, 0, none⟩), .pointer (some ⟨b2, 0, none⟩), .pointer (some ⟨b3, 0, none⟩)]), (3, .pointer (some ⟨b1, 0, none⟩))])
    (fun c => cl b1 150 [.pointer (some ⟨r, 0, none⟩)] :: cl b2 3 [.int .i64 a] :: cl b3 9 [.string (S s)] :: dvk d (layC V f m a s c.1) (k + c.1) :: reg r d f m :: F) (fun c => n - c.1) ⟨0, by omega⟩ (by exact sub_cons rfl (sub_cons rfl (sub_cons rfl (sub_cons rfl sub_nil)))) (by exact Gives.cons (Take.next (Take.next (Take.next Take.here))) (Gives.cons (Take.next (Take.next Take.here)) (Gives.cons (Take.next Take.here) (Gives.last (Take.next Take.here))))) ?_
  rintro ⟨c, hc⟩
  dsimp only
  have hl := layC_length V f m a s c
  refine R_seq ?_
  refine R_seq ?_
  refine R_region ?_
  refine J_move rfl rfl rfl ?_
  refine J_move rfl rfl rfl ?_
  refine J_cmp rfl rfl rfl rfl rfl ?_
  refine J_nil3 ?_
  refine E_then ?_
  refine R_cond rfl (fun hh => ?_) (fun hh => ?_)
  simp only [decide_eq_true_eq, decide_eq_false_iff_not, Bool.and_eq_true, Bool.or_eq_true, Bool.not_eq_true', Bool.not_eq_false', beq_iff_eq, bne_iff_ne, beq_eq_false_iff_ne, bne_eq_false_iff_eq, ne_eq, ge_iff_le, gt_iff_lt, Int.not_le, Int.not_lt, Bool.and_eq_false_iff, Bool.or_eq_false_iff, Decidable.not_not] at hh
  refine R_skip ?_
  refine E_then ?_
  refine R_seq ?_
  refine R_block ?_
  refine R_seq ?_
  refine R_region ?_
  refine J_move rfl rfl rfl ?_
  refine J_move rfl rfl rfl ?_
  rotate_left
  simp only [decide_eq_true_eq, decide_eq_false_iff_not, Bool.and_eq_true, Bool.or_eq_true, Bool.not_eq_true', Bool.not_eq_false', beq_iff_eq, bne_iff_ne, beq_eq_false_iff_ne, bne_eq_false_iff_eq, ne_eq, ge_iff_le, gt_iff_lt, Int.not_le, Int.not_lt, Bool.and_eq_false_iff, Bool.or_eq_false_iff, Decidable.not_not] at hh
  refine R_exit ?_
  refine E_then_exit ?_
  refine E_then_exit ?_
  refine E_block_hit ?_
  refine E_then ?_
  refine R_seq ?_
  refine R_seq ?_
  refine R_region ?_
  refine J_move rfl rfl rfl ?_
  refine J_cmp rfl rfl rfl rfl rfl ?_
  refine J_nil2 ?_
  refine E_then ?_
  refine R_cond rfl (fun hh => ?_) (fun hh => ?_)
  simp only [decide_eq_true_eq, decide_eq_false_iff_not, Bool.and_eq_true, Bool.or_eq_true, Bool.not_eq_true', Bool.not_eq_false', beq_iff_eq, bne_iff_ne, beq_eq_false_iff_ne, bne_eq_false_iff_eq, ne_eq, ge_iff_le, gt_iff_lt, Int.not_le, Int.not_lt, Bool.and_eq_false_iff, Bool.or_eq_false_iff, Decidable.not_not] at hh
  refine R_seq ?_
  refine R_region ?_
  refine J_load rfl rfl rfl rfl ?_
  rotate_left
  simp only [decide_eq_true_eq, decide_eq_false_iff_not, Bool.and_eq_true, Bool.or_eq_true, Bool.not_eq_true', Bool.not_eq_false', beq_iff_eq, bne_iff_ne, beq_eq_false_iff_ne, bne_eq_false_iff_eq, ne_eq, ge_iff_le, gt_iff_lt, Int.not_le, Int.not_lt, Bool.and_eq_false_iff, Bool.or_eq_false_iff, Decidable.not_not] at hh
  exfalso; omega
  · have e2 : (c : Int) + 1 = ((c + 1 : Nat) : Int) := by omega
    have hput := logscan_Put1 b1 b2 b3 r d (layC V f m a s c) (k + c) f m a s (c + 1) (by omega) (by omega) ha (by omega) (by omega) (by omega) F
    rw [← e2] at hput
    refine J_callvr (us := []) (cs := [.pointer (some ⟨b1, 0, none⟩), .pointer (some ⟨b2, 0, none⟩), .pointer (some ⟨b3, 0, none⟩)]) rfl rfl rfl hput Gives.refl rfl rfl ?_
    refine J_assign rfl rfl rfl ?_
    refine J_nil3 ?_
    refine E_then ?_
    refine R_seq ?_
    refine R_region ?_
    refine J_move rfl rfl rfl ?_
    refine J_cmp rfl rfl rfl rfl rfl ?_
    refine J_nil2 ?_
    refine E_then ?_
    refine R_cond_false rfl ?_
    refine R_skip ?_
    refine E_block_normal ?_
    refine E_then ?_
    refine R_region ?_
    refine J_move rfl rfl rfl ?_
    refine J_ari64 rfl rfl rfl (by omega) rfl rfl ?_
    refine J_assign rfl rfl rfl ?_
    refine J_nil2 ?_
    exact E_thenI fun a w he hs => ⟨⟨c + 1, by omega⟩, by simp; omega, he.sub (by exact sub_cons rfl (sub_cons rfl (sub_cons rfl (sub_cons rfl sub_nil)))), hs⟩
  · have ec : c = n - 1 := by omega
    refine J_callr rfl (region_Flush r d (layC V f m a s c) (k + c) f m (by omega) _) (by exact Gives.cons (Take.next (Take.next (Take.next Take.here))) (Gives.last (Take.next (Take.next (Take.next Take.here))))) rfl rfl ?_
    refine J_assign rfl rfl rfl ?_
    refine J_nil2 ?_
    refine E_then ?_
    refine R_seq ?_
    refine R_region ?_
    refine J_move rfl rfl rfl ?_
    refine J_cmp rfl rfl rfl rfl rfl ?_
    refine J_nil2 ?_
    refine E_then ?_
    refine R_cond_false rfl ?_
    refine R_skip ?_
    refine E_then ?_
    refine R_seq ?_
    refine R_region ?_
    refine J_move rfl rfl rfl ?_
    have hput := logscan_Put1 b1 b2 b3 r d (layC V f m a s c) (k + c + 1) f m a s 0 (by omega) (by omega) ha (by omega) (by omega) (by omega) F
    refine J_callvr (us := []) (cs := [.pointer (some ⟨b1, 0, none⟩), .pointer (some ⟨b2, 0, none⟩), .pointer (some ⟨b3, 0, none⟩)]) rfl rfl rfl hput (by exact Gives.cons (Take.next (Take.next Take.here)) (Gives.cons (Take.next (Take.next Take.here)) (Gives.last (Take.next (Take.next Take.here))))) rfl rfl ?_
    refine J_assign rfl rfl rfl ?_
    refine J_nil2 ?_
    refine E_then ?_
    refine R_ret ?_
    have e3 : k + c + 1 + 1 = k + n + 1 := by omega
    rw [e3, ec]
    apply E_retP Tryz.results103
    · exact Res.tmp rfl (Res.nil)
    · exact Gives.cons (Take.next (Take.next (Take.next Take.here))) (Gives.cons (Take.next (Take.next (Take.next Take.here))) (Gives.drop (Gives.drop (Gives.drop Gives.refl))))
    rfl
end Go.Proofs.Sol

/- Records of a log, looked for. -/
namespace Go.Proofs.Sol
open Go Go.Proofs
set_option maxRecDepth 100000
set_option maxHeartbeats 4000000
set_option linter.unusedVariables false
set_option linter.unusedSimpArgs false
attribute [local irreducible] R J JW E D Fn Y clf mpI own Sat Exit.then Exit.inBlock bodyPost bodyPostM Code.wpIn wpL
theorem rd_step {s : Bytes} {n : Int} (h : 0 ≤ n ∧ n ≤ s.length) : Rd.next ⟨s, 0⟩ n = ⟨s.drop n.toNat, 0⟩ ∧ Rd.got ⟨s, 0⟩ n = s.take n.toNat := by
  unfold Rd.next Rd.got
  rw [if_pos rfl, if_neg (by omega), if_pos h.2, if_pos ⟨rfl, h.1, h.2⟩]
  exact ⟨rfl, rfl⟩
theorem rd_num {s : Bytes} {n : Int} (h : 0 ≤ n ∧ n ≤ s.length) : Rd.num ⟨s, 0⟩ n = (num (s.take n.toNat) : Int) := by
  unfold Rd.num
  rw [(rd_step h).2]
theorem logrec_Size (s : Bytes) (q : Int) (F : List HP) : Fn Tryz.prog 264 [.string (S s), .int .i64 q] F (Pst (.tuple #[.int .i64 (recSize s q).1, .int .i64 (recSize s q).2]) F) := by
  by_cases h64 : s.length = 64
  · refine Fn_enter Tryz.func264 rfl Tryz.ntmps264 rfl ?_
    refine R_seq ?_
    refine R_region ?_
    refine J_assign rfl rfl rfl ?_
    refine J_assign rfl rfl rfl ?_
    refine J_nil ?_
    refine E_then ?_
    refine R_seq ?_
    refine R_seq ?_
    refine R_region ?_
    refine J_move rfl rfl rfl ?_
    refine J_len_str rfl rfl rfl ?_
    refine J_cmp rfl rfl rfl rfl rfl ?_
    refine J_nil3 ?_
    refine E_then ?_
    refine R_cond rfl (fun hh => ?_) (fun hh => ?_)
    simp only [decide_eq_true_eq, decide_eq_false_iff_not, Bool.and_eq_true, Bool.or_eq_true, Bool.not_eq_true', Bool.not_eq_false', beq_iff_eq, bne_iff_ne, beq_eq_false_iff_ne, bne_eq_false_iff_eq, ne_eq, ge_iff_le, gt_iff_lt, Int.not_le, Int.not_lt, Bool.and_eq_false_iff, Bool.or_eq_false_iff, Decidable.not_not] at hh
    exfalso; omega
    simp only [decide_eq_true_eq, decide_eq_false_iff_not, Bool.and_eq_true, Bool.or_eq_true, Bool.not_eq_true', Bool.not_eq_false', beq_iff_eq, bne_iff_ne, beq_eq_false_iff_ne, bne_eq_false_iff_eq, ne_eq, ge_iff_le, gt_iff_lt, Int.not_le, Int.not_lt, Bool.and_eq_false_iff, Bool.or_eq_false_iff, Decidable.not_not] at hh
    refine R_skip ?_
    refine E_then ?_
    refine R_seq ?_
    refine R_region ?_
    refine J_move rfl rfl rfl ?_
    refine J_callm rfl (field_New s F) (by exact Gives.refl) rfl rfl ?_
    rintro v w ⟨b, rfl, s0⟩
    refine JW.of s0 ?_
    refine J_assign rfl rfl rfl ?_
    refine J_nil2 ?_
    refine E_then ?_
    refine R_seq ?_
    refine R_region ?_
    refine J_move rfl rfl rfl ?_
    refine J_callr rfl (field_Bytes b _ 1 _) (by exact Gives.refl) rfl rfl ?_
    rw [(rd_step (s := s) (n := 1) (by omega)).1, (rd_step (s := s) (n := 1) (by omega)).2]
    refine J_move rfl rfl rfl ?_
    have l1 : (s.drop (Int.toNat 1)).length = 63 := by simp; omega
    refine J_callr rfl (field_Num b _ 6 (by omega) _) (by exact Gives.refl) rfl rfl ?_
    rw [(rd_step (s := s.drop (Int.toNat 1)) (n := 6) (by omega)).1, rd_num (s := s.drop (Int.toNat 1)) (n := 6) (by omega)]
    refine J_move rfl rfl rfl ?_
    have l2 : ((s.drop (Int.toNat 1)).drop (Int.toNat 6)).length = 57 := by simp; omega
    refine J_callr rfl (field_Num b _ 1 (by omega) _) (by exact Gives.refl) rfl rfl ?_
    rw [rd_num (s := (s.drop (Int.toNat 1)).drop (Int.toNat 6)) (n := 1) (by omega)]
    have e1 : s.drop (Int.toNat 1) = s.drop 1 := rfl
    have e2 : (s.drop 1).drop (Int.toNat 6) = s.drop 7 := by rw [List.drop_drop]; rfl
    have e3 : s.take (Int.toNat 1) = s.take 1 := rfl
    rw [e1, e2, e3]
    generalize hn1 : (num ((s.drop 1).take (Int.toNat 6)) : Int) = x1
    generalize hn2 : (num ((s.drop 7).take (Int.toNat 1)) : Int) = x2
    have hx2 : 0 ≤ x2 ∧ x2 < 256 := by
      rw [← hn2]
      have h1 := num_lt ((s.drop 7).take (Int.toNat 1))
      have h2 : ((s.drop 7).take (Int.toNat 1)).length ≤ 1 := List.length_take_le ..
      have h3 : 256 ^ ((s.drop 7).take (Int.toNat 1)).length ≤ 256 ^ 1 := Nat.pow_le_pow_right (by omega) h2
      omega
    have hr : recSize s q = if s.take 1 ≠ [82] ∨ x1 ≠ q ∨ x2 < 1 ∨ 16 < x2 then (0, 8) else (x2 + 1, 0) := by
      unfold recSize
      rw [if_neg (by simp [h64]), ← hn1, ← hn2]; rfl
    rw [hr]
    refine J_assign rfl rfl rfl ?_
    refine J_assign rfl rfl rfl ?_
    refine J_assign rfl rfl rfl ?_
    refine J_nil3 ?_
    refine E_then ?_
    refine R_seq ?_
    refine R_seq ?_
    refine R_region ?_
    refine J_move rfl rfl rfl ?_
    refine J_str_cmp rfl rfl rfl rfl rfl ?_
    refine J_move rfl rfl rfl ?_
    refine J_guard_split rfl rfl (fun hh => ?_) (fun hh => ?_)
    simp only [decide_eq_true_eq, decide_eq_false_iff_not, Bool.and_eq_true, Bool.or_eq_true, Bool.not_eq_true', Bool.not_eq_false', beq_iff_eq, bne_iff_ne, beq_eq_false_iff_ne, bne_eq_false_iff_eq, ne_eq, ge_iff_le, gt_iff_lt, Int.not_le, Int.not_lt, Bool.and_eq_false_iff, Bool.or_eq_false_iff, Decidable.not_not] at hh
    refine J_guard_not rfl rfl rfl rfl rfl rfl ?_
    refine J_guard_not rfl rfl rfl rfl rfl rfl ?_
    refine J_guard_not rfl rfl rfl rfl rfl rfl ?_
    refine J_pick_true rfl rfl rfl rfl ?_
    refine J_move rfl rfl rfl ?_
    refine J_guard_not rfl rfl rfl rfl rfl rfl ?_
    refine J_guard_not rfl rfl rfl rfl rfl rfl ?_
    refine J_pick_true rfl rfl rfl rfl ?_
    refine J_move rfl rfl rfl ?_
    refine J_guard_not rfl rfl rfl rfl rfl rfl ?_
    refine J_guard_not rfl rfl rfl rfl rfl rfl ?_
    refine J_pick_true rfl rfl rfl rfl ?_
    refine J_nil3 ?_
    refine E_then ?_
    refine R_cond_true rfl ?_
    refine R_seq ?_
    refine R_region ?_
    refine J_assign rfl rfl rfl ?_
    refine J_assign rfl rfl rfl ?_
    refine J_nil ?_
    refine E_then ?_
    refine R_ret ?_
    refine E_then_ret ?_
    rotate_left
    simp only [decide_eq_true_eq, decide_eq_false_iff_not, Bool.and_eq_true, Bool.or_eq_true, Bool.not_eq_true', Bool.not_eq_false', beq_iff_eq, bne_iff_ne, beq_eq_false_iff_ne, bne_eq_false_iff_eq, ne_eq, ge_iff_le, gt_iff_lt, Int.not_le, Int.not_lt, Bool.and_eq_false_iff, Bool.or_eq_false_iff, Decidable.not_not] at hh
    refine J_guard rfl rfl rfl ?_
    refine J_move rfl rfl rfl ?_
    refine J_guard rfl rfl rfl ?_
    refine J_move rfl rfl rfl ?_
    refine J_guard rfl rfl rfl ?_
    refine J_cmp rfl rfl rfl rfl rfl ?_
    refine J_pick_false rfl rfl rfl rfl ?_
    refine J_move rfl rfl rfl ?_
    refine J_guard_split rfl rfl (fun hh => ?_) (fun hh => ?_)
    simp only [decide_eq_true_eq, decide_eq_false_iff_not, Bool.and_eq_true, Bool.or_eq_true, Bool.not_eq_true', Bool.not_eq_false', beq_iff_eq, bne_iff_ne, beq_eq_false_iff_ne, bne_eq_false_iff_eq, ne_eq, ge_iff_le, gt_iff_lt, Int.not_le, Int.not_lt, Bool.and_eq_false_iff, Bool.or_eq_false_iff, Decidable.not_not] at hh
    refine J_guard_not rfl rfl rfl rfl rfl rfl ?_
    refine J_guard_not rfl rfl rfl rfl rfl rfl ?_
    refine J_pick_true rfl rfl rfl rfl ?_
    refine J_move rfl rfl rfl ?_
    refine J_guard_not rfl rfl rfl rfl rfl rfl ?_
    refine J_guard_not rfl rfl rfl rfl rfl rfl ?_
    refine J_pick_true rfl rfl rfl rfl ?_
    refine J_nil3 ?_
    refine E_then ?_
    refine R_cond_true rfl ?_
    refine R_seq ?_
    refine R_region ?_
    refine J_assign rfl rfl rfl ?_
    refine J_assign rfl rfl rfl ?_
    refine J_nil ?_
    refine E_then ?_
    refine R_ret ?_
    refine E_then_ret ?_
    rotate_left
    simp only [decide_eq_true_eq, decide_eq_false_iff_not, Bool.and_eq_true, Bool.or_eq_true, Bool.not_eq_true', Bool.not_eq_false', beq_iff_eq, bne_iff_ne, beq_eq_false_iff_ne, bne_eq_false_iff_eq, ne_eq, ge_iff_le, gt_iff_lt, Int.not_le, Int.not_lt, Bool.and_eq_false_iff, Bool.or_eq_false_iff, Decidable.not_not] at hh
    refine J_guard rfl rfl rfl ?_
    refine J_move rfl rfl rfl ?_
    refine J_guard rfl rfl rfl ?_
    refine J_cmp rfl rfl rfl rfl rfl ?_
    refine J_pick_false rfl rfl rfl rfl ?_
    refine J_move rfl rfl rfl ?_
    refine J_guard_split rfl rfl (fun hh => ?_) (fun hh => ?_)
    simp only [decide_eq_true_eq, decide_eq_false_iff_not, Bool.and_eq_true, Bool.or_eq_true, Bool.not_eq_true', Bool.not_eq_false', beq_iff_eq, bne_iff_ne, beq_eq_false_iff_ne, bne_eq_false_iff_eq, ne_eq, ge_iff_le, gt_iff_lt, Int.not_le, Int.not_lt, Bool.and_eq_false_iff, Bool.or_eq_false_iff, Decidable.not_not] at hh
    refine J_guard_not rfl rfl rfl rfl rfl rfl ?_
    refine J_guard_not rfl rfl rfl rfl rfl rfl ?_
    refine J_pick_true rfl rfl rfl rfl ?_
    refine J_nil3 ?_
    refine E_then ?_
    refine R_cond_true rfl ?_
    refine R_seq ?_
    refine R_region ?_
    refine J_assign rfl rfl rfl ?_
    refine J_assign rfl rfl rfl ?_
    refine J_nil ?_
    refine E_then ?_
    refine R_ret ?_
    refine E_then_ret ?_
    rotate_left
    simp only [decide_eq_true_eq, decide_eq_false_iff_not, Bool.and_eq_true, Bool.or_eq_true, Bool.not_eq_true', Bool.not_eq_false', beq_iff_eq, bne_iff_ne, beq_eq_false_iff_ne, bne_eq_false_iff_eq, ne_eq, ge_iff_le, gt_iff_lt, Int.not_le, Int.not_lt, Bool.and_eq_false_iff, Bool.or_eq_false_iff, Decidable.not_not] at hh
    refine J_guard rfl rfl rfl ?_
    refine J_move rfl rfl rfl ?_
    refine J_guard rfl rfl rfl ?_
    refine J_cmp rfl rfl rfl rfl rfl ?_
    refine J_pick_false rfl rfl rfl rfl ?_
    refine J_nil3 ?_
    refine E_then ?_
    refine R_cond rfl (fun hh => ?_) (fun hh => ?_)
    simp only [decide_eq_true_eq, decide_eq_false_iff_not, Bool.and_eq_true, Bool.or_eq_true, Bool.not_eq_true', Bool.not_eq_false', beq_iff_eq, bne_iff_ne, beq_eq_false_iff_ne, bne_eq_false_iff_eq, ne_eq, ge_iff_le, gt_iff_lt, Int.not_le, Int.not_lt, Bool.and_eq_false_iff, Bool.or_eq_false_iff, Decidable.not_not] at hh
    refine R_seq ?_
    refine R_region ?_
    refine J_assign rfl rfl rfl ?_
    refine J_assign rfl rfl rfl ?_
    refine J_nil ?_
    refine E_then ?_
    refine R_ret ?_
    refine E_then_ret ?_
    rotate_left
    simp only [decide_eq_true_eq, decide_eq_false_iff_not, Bool.and_eq_true, Bool.or_eq_true, Bool.not_eq_true', Bool.not_eq_false', beq_iff_eq, bne_iff_ne, beq_eq_false_iff_ne, bne_eq_false_iff_eq, ne_eq, ge_iff_le, gt_iff_lt, Int.not_le, Int.not_lt, Bool.and_eq_false_iff, Bool.or_eq_false_iff, Decidable.not_not] at hh
    refine R_skip ?_
    refine E_then ?_
    refine R_seq ?_
    refine R_region ?_
    refine J_move rfl rfl rfl ?_
    refine J_ari64 rfl rfl rfl (by omega) rfl rfl ?_
    refine J_assign rfl rfl rfl ?_
    refine J_assign rfl rfl rfl ?_
    refine J_nil2 ?_
    refine E_then ?_
    refine R_ret ?_
    rotate_left
    all_goals
      apply E_retP Tryz.results264
      · exact Res.tmp rfl (Res.tmp rfl (Res.nil))
      · (repeat (first | ((fail_if_success (apply Gives.cons)); refine Gives.drop ?_) | with_reducible exact Gives.refl))
      first
        | (rw [if_pos (by first | exact .inl hh | exact .inr (.inl hh) | exact .inr (.inr (.inl hh)) | exact .inr (.inr (.inr hh)))]; rfl)
        | (rw [if_neg (by
            rintro (h | h | h | h)
            · exact h (by assumption)
            · exact h (by assumption)
            · omega
            · omega)]; rfl)
  · refine Fn_enter Tryz.func264 rfl Tryz.ntmps264 rfl ?_
    refine R_seq ?_
    refine R_region ?_
    refine J_assign rfl rfl rfl ?_
    refine J_assign rfl rfl rfl ?_
    refine J_nil ?_
    refine E_then ?_
    refine R_seq ?_
    refine R_seq ?_
    refine R_region ?_
    refine J_move rfl rfl rfl ?_
    refine J_len_str rfl rfl rfl ?_
    refine J_cmp rfl rfl rfl rfl rfl ?_
    refine J_nil3 ?_
    refine E_then ?_
    refine R_cond rfl (fun hh => ?_) (fun hh => ?_)
    simp only [decide_eq_true_eq, decide_eq_false_iff_not, Bool.and_eq_true, Bool.or_eq_true, Bool.not_eq_true', Bool.not_eq_false', beq_iff_eq, bne_iff_ne, beq_eq_false_iff_ne, bne_eq_false_iff_eq, ne_eq, ge_iff_le, gt_iff_lt, Int.not_le, Int.not_lt, Bool.and_eq_false_iff, Bool.or_eq_false_iff, Decidable.not_not] at hh
    refine R_seq ?_
    refine R_region ?_
    refine J_assign rfl rfl rfl ?_
    refine J_assign rfl rfl rfl ?_
    refine J_nil ?_
    refine E_then ?_
    refine R_ret ?_
    refine E_then_ret ?_
    rotate_left
    simp only [decide_eq_true_eq, decide_eq_false_iff_not, Bool.and_eq_true, Bool.or_eq_true, Bool.not_eq_true', Bool.not_eq_false', beq_iff_eq, bne_iff_ne, beq_eq_false_iff_ne, bne_eq_false_iff_eq, ne_eq, ge_iff_le, gt_iff_lt, Int.not_le, Int.not_lt, Bool.and_eq_false_iff, Bool.or_eq_false_iff, Decidable.not_not] at hh
    exfalso; omega
    have hr : recSize s q = (0, 12) := by unfold recSize; rw [if_pos h64]
    rw [hr]
    apply E_retP Tryz.results264
    · exact Res.tmp rfl (Res.tmp rfl (Res.nil))
    · exact Gives.refl
    rfl
end Go.Proofs.Sol

/- Heads of a log, read. -/
namespace Go.Proofs.Sol
open Go Go.Proofs
set_option maxRecDepth 100000
set_option maxHeartbeats 4000000
set_option linter.unusedVariables false
set_option linter.unusedSimpArgs false
attribute [local irreducible] R J JW E D Fn Y clf mpI own Sat Exit.then Exit.inBlock bodyPost bodyPostM Code.wpIn wpL
abbrev headT (h : Int × Int × Int) : Value := headA h.1 h.2.1 h.2.2
theorem loghead_Get (s : Bytes) (F : List HP) : Fn Tryz.prog 220 [.string (S s)] F (Pst (.tuple #[headT (headGet s).1, .int .i64 (headGet s).2]) F) := by
  by_cases h64 : s.length = 64
  · refine Fn_enter Tryz.func220 rfl Tryz.ntmps220 rfl ?_
    refine R_seq ?_
    refine R_region ?_
    refine J_alloc rfl rfl ?_; intro
    refine J_assign rfl rfl rfl ?_
    refine J_nil ?_
    refine E_then ?_
    refine R_seq ?_
    refine R_seq ?_
    refine R_region ?_
    refine J_move rfl rfl rfl ?_
    refine J_len_str rfl rfl rfl ?_
    refine J_cmp rfl rfl rfl rfl rfl ?_
    refine J_nil3 ?_
    refine E_then ?_
    refine R_cond rfl (fun hh => ?_) (fun hh => ?_)
    simp only [decide_eq_true_eq, decide_eq_false_iff_not, Bool.and_eq_true, Bool.or_eq_true, Bool.not_eq_true', Bool.not_eq_false', beq_iff_eq, bne_iff_ne, beq_eq_false_iff_ne, bne_eq_false_iff_eq, ne_eq, ge_iff_le, gt_iff_lt, Int.not_le, Int.not_lt, Bool.and_eq_false_iff, Bool.or_eq_false_iff, Decidable.not_not] at hh
    exfalso; omega
    simp only [decide_eq_true_eq, decide_eq_false_iff_not, Bool.and_eq_true, Bool.or_eq_true, Bool.not_eq_true', Bool.not_eq_false', beq_iff_eq, bne_iff_ne, beq_eq_false_iff_ne, bne_eq_false_iff_eq, ne_eq, ge_iff_le, gt_iff_lt, Int.not_le, Int.not_lt, Bool.and_eq_false_iff, Bool.or_eq_false_iff, Decidable.not_not] at hh
    refine R_skip ?_
    refine E_then ?_
    refine R_seq ?_
    refine R_region ?_
    refine J_move rfl rfl rfl ?_
    refine J_callm rfl (field_New s _) Gives.refl rfl rfl ?_
    rintro v w ⟨b, rfl, s0⟩
    refine JW.of s0 ?_
    refine J_assign rfl rfl rfl ?_
    refine J_nil2 ?_
    refine E_then ?_
    refine R_seq ?_
    refine R_seq ?_
    refine R_region ?_
    refine J_move rfl rfl rfl ?_
    refine J_callr rfl (field_Bytes b _ 1 _) (by exact Gives.refl) rfl rfl ?_
    rw [(rd_step (s := s) (n := 1) (by omega)).1, (rd_step (s := s) (n := 1) (by omega)).2]
    have e3 : s.take (Int.toNat 1) = s.take 1 := rfl
    rw [e3]
    by_cases h1 : s.take 1 = [76]
    · rw [h1]
      refine J_str_cmp rfl rfl rfl rfl rfl ?_
      refine J_nil3 ?_
      refine E_then ?_
      refine R_cond_false rfl ?_
      refine R_skip ?_
      refine E_then ?_
      refine R_seq ?_
      refine R_region ?_
      refine J_move rfl rfl rfl ?_
      · have l1 : (s.drop (Int.toNat 1)).length = 63 := by simp; omega
        refine J_callr rfl (field_Num b _ 6 (by omega) _) (by exact Gives.refl) rfl rfl ?_
        rw [(rd_step (s := s.drop (Int.toNat 1)) (n := 6) (by omega)).1, rd_num (s := s.drop (Int.toNat 1)) (n := 6) (by omega)]
        refine J_move rfl rfl rfl ?_
        have l2 : ((s.drop (Int.toNat 1)).drop (Int.toNat 6)).length = 57 := by simp; omega
        refine J_callr rfl (field_Num b _ 6 (by omega) _) (by exact Gives.refl) rfl rfl ?_
        rw [(rd_step (s := (s.drop (Int.toNat 1)).drop (Int.toNat 6)) (n := 6) (by omega)).1, rd_num (s := (s.drop (Int.toNat 1)).drop (Int.toNat 6)) (n := 6) (by omega)]
        refine J_move rfl rfl rfl ?_
        have l3 : (((s.drop (Int.toNat 1)).drop (Int.toNat 6)).drop (Int.toNat 6)).length = 51 := by simp; omega
        refine J_callr rfl (field_Num b _ 2 (by omega) _) (by exact Gives.refl) rfl rfl ?_
        rw [(rd_step (s := ((s.drop (Int.toNat 1)).drop (Int.toNat 6)).drop (Int.toNat 6)) (n := 2) (by omega)).1, rd_num (s := ((s.drop (Int.toNat 1)).drop (Int.toNat 6)).drop (Int.toNat 6)) (n := 2) (by omega)]
        have d1 : s.drop (Int.toNat 1) = s.drop 1 := rfl
        have d2 : (s.drop 1).drop (Int.toNat 6) = s.drop 7 := by rw [List.drop_drop]; rfl
        have d3 : (s.drop 7).drop (Int.toNat 6) = s.drop 13 := by rw [List.drop_drop]; rfl
        have d4 : (s.drop 13).drop (Int.toNat 2) = s.drop 15 := by rw [List.drop_drop]; rfl
        rw [d1, d2, d3, d4]
        have l4 : (s.drop 15).length = 49 := by simp; omega
        have hn : headNum s = ((num ((s.drop 1).take 6) : Int), (num ((s.drop 7).take 6) : Int), (num ((s.drop 13).take 2) : Int)) := rfl
        have t1 : (s.drop 1).take (Int.toNat 6) = (s.drop 1).take 6 := rfl
        have t2 : (s.drop 7).take (Int.toNat 6) = (s.drop 7).take 6 := rfl
        have t3 : (s.drop 13).take (Int.toNat 2) = (s.drop 13).take 2 := rfl
        rw [t1, t2, t3]
        have hg : headGet s = if (s.drop 15).take 4 ≠ tail (s.take 15) then ((0, 0, 0), 5) else if headMay (headNum s).1 (headNum s).2.1 (headNum s).2.2 = true ∧ headB (headNum s).1 (headNum s).2.1 (headNum s).2.2 = s then (headNum s, 0) else ((0, 0, 0), 4) := by
          conv => lhs; unfold headGet
          rw [if_neg (by simp [h64]), if_neg (by simp [h1])]
        rw [hg, hn]
        dsimp only
        generalize (num ((s.drop 1).take 6) : Int) = x1
        generalize (num ((s.drop 7).take 6) : Int) = x2
        generalize (num ((s.drop 13).take 2) : Int) = x3
        refine J_build rfl rfl rfl rfl ?_
        refine J_alloc rfl rfl ?_; intro
        refine J_storeA rfl rfl rfl rfl rfl rfl ?_
        refine J_nil3 ?_
        refine E_then ?_
        refine R_seq ?_
        refine R_seq ?_
        refine R_region ?_
        refine J_move rfl rfl rfl ?_
        refine J_slice_hi rfl rfl (by omega) (by omega) rfl rfl ?_
        have t4 : s.take (Int.toNat 15) = s.take 15 := rfl
        rw [t4]
        refine J_callr rfl (cyclic_Tail (s.take 15) (by simp; omega) _) (by exact Gives.refl) rfl rfl ?_
        have lt := tail_length (s.take 15)
        refine J_assign rfl rfl rfl ?_
        refine J_nil3 ?_
        refine E_then ?_
        refine R_seq ?_
        refine R_region ?_
        refine J_move rfl rfl rfl ?_
        refine J_move rfl rfl rfl ?_
        refine J_len_str rfl rfl rfl ?_
        refine J_callr rfl (field_Bytes b _ _ _) (by exact Gives.last (Take.next Take.here)) rfl rfl ?_
        rw [(rd_step (s := s.drop 15) (n := ((tail (s.take 15)).length : Int)) (by omega)).1, (rd_step (s := s.drop 15) (n := ((tail (s.take 15)).length : Int)) (by omega)).2]
        have t5 : (s.drop 15).take ((tail (s.take 15)).length : Int).toNat = (s.drop 15).take 4 := by rw [lt]; rfl
        rw [t5]
        by_cases h2 : (s.drop 15).take 4 = tail (s.take 15)
        · rw [h2, if_neg (by simp)]
          refine J_move rfl rfl rfl ?_
          refine J_str_cmp rfl rfl rfl rfl rfl ?_
          refine J_nil3 ?_
          refine E_then ?_
          refine R_cond rfl (fun hh => ?_) (fun hh => ?_)
          simp only [decide_eq_true_eq, decide_eq_false_iff_not, Bool.and_eq_true, Bool.or_eq_true, Bool.not_eq_true', Bool.not_eq_false', beq_iff_eq, bne_iff_ne, beq_eq_false_iff_ne, bne_eq_false_iff_eq, ne_eq, ge_iff_le, gt_iff_lt, Int.not_le, Int.not_lt, Bool.and_eq_false_iff, Bool.or_eq_false_iff, Decidable.not_not] at hh
          refine R_seq ?_
          refine R_region ?_
          refine J_build rfl rfl rfl rfl ?_
          refine J_storeA rfl rfl rfl rfl rfl rfl ?_
          refine J_assign rfl rfl rfl ?_
          refine J_nil1 ?_
          refine E_then ?_
          refine R_ret ?_
          refine E_then_ret ?_
          rotate_left
          simp only [decide_eq_true_eq, decide_eq_false_iff_not, Bool.and_eq_true, Bool.or_eq_true, Bool.not_eq_true', Bool.not_eq_false', beq_iff_eq, bne_iff_ne, beq_eq_false_iff_ne, bne_eq_false_iff_eq, ne_eq, ge_iff_le, gt_iff_lt, Int.not_le, Int.not_lt, Bool.and_eq_false_iff, Bool.or_eq_false_iff, Decidable.not_not] at hh
          refine R_skip ?_
          refine E_then ?_
          refine R_seq ?_
          refine R_seq ?_
          refine R_region ?_
          refine J_loadA rfl rfl rfl rfl ?_
          rotate_left
          · exact absurd trivial hh
          · refine J_callr rfl (loghead_Put x1 x2 x3 _) (by exact Gives.refl) rfl rfl ?_
            by_cases h3 : headMay x1 x2 x3 = true
            · rw [h3]
              simp only [if_true, true_and]
              by_cases h4 : headB x1 x2 x3 = s
              · rw [if_pos h4, h4]
                refine J_move rfl rfl rfl ?_
                refine J_extract rfl rfl rfl rfl ?_
                refine J_extract rfl rfl rfl rfl ?_
                refine J_assign rfl rfl rfl ?_
                refine J_assign rfl rfl rfl ?_
                refine J_nil3 ?_
                refine E_then ?_
                refine R_seq ?_
                refine R_region ?_
                refine J_move rfl rfl rfl ?_
                refine J_cmp rfl rfl rfl rfl rfl ?_
                refine J_move rfl rfl rfl ?_
                refine J_guard rfl rfl rfl ?_
                refine J_move rfl rfl rfl ?_
                refine J_guard rfl rfl rfl ?_
                refine J_move rfl rfl rfl ?_
                refine J_guard rfl rfl rfl ?_
                refine J_str_cmp rfl rfl rfl rfl rfl ?_
                refine J_pick_false rfl rfl rfl rfl ?_
                refine J_nil3 ?_
                refine E_then ?_
                refine R_cond rfl (fun hh => ?_) (fun hh => ?_)
                simp only [decide_eq_true_eq, decide_eq_false_iff_not, Bool.and_eq_true, Bool.or_eq_true, Bool.not_eq_true', Bool.not_eq_false', beq_iff_eq, bne_iff_ne, beq_eq_false_iff_ne, bne_eq_false_iff_eq, ne_eq, ge_iff_le, gt_iff_lt, Int.not_le, Int.not_lt, Bool.and_eq_false_iff, Bool.or_eq_false_iff, Decidable.not_not] at hh
                refine R_seq ?_
                refine R_region ?_
                refine J_build rfl rfl rfl rfl ?_
                refine J_storeA rfl rfl rfl rfl rfl rfl ?_
                refine J_assign rfl rfl rfl ?_
                refine J_nil1 ?_
                refine E_then ?_
                refine R_ret ?_
                refine E_then_ret ?_
                rotate_left
                simp only [decide_eq_true_eq, decide_eq_false_iff_not, Bool.and_eq_true, Bool.or_eq_true, Bool.not_eq_true', Bool.not_eq_false', beq_iff_eq, bne_iff_ne, beq_eq_false_iff_ne, bne_eq_false_iff_eq, ne_eq, ge_iff_le, gt_iff_lt, Int.not_le, Int.not_lt, Bool.and_eq_false_iff, Bool.or_eq_false_iff, Decidable.not_not] at hh
                refine R_skip ?_
                refine E_then ?_
                refine R_seq ?_
                refine R_region ?_
                refine J_loadA rfl rfl rfl rfl ?_
                refine J_storeA rfl rfl rfl rfl rfl rfl ?_
                refine J_assign rfl rfl rfl ?_
                refine J_nil1 ?_
                refine E_then ?_
                refine R_ret ?_
                rotate_left
                all_goals first
                  | exact absurd rfl hh
                  | exact absurd trivial hh
                  | (apply E_retP Tryz.results220
                     · exact Res_cellA rfl rfl (Res.tmp rfl (Res.nil))
                     · exact Gives.drop (Gives.drop (Gives.drop Gives.refl))
                     rfl)
              · rw [if_neg h4]
                refine J_move rfl rfl rfl ?_
                refine J_extract rfl rfl rfl rfl ?_
                refine J_extract rfl rfl rfl rfl ?_
                refine J_assign rfl rfl rfl ?_
                refine J_assign rfl rfl rfl ?_
                refine J_nil3 ?_
                refine E_then ?_
                refine R_seq ?_
                refine R_region ?_
                refine J_move rfl rfl rfl ?_
                refine J_cmp rfl rfl rfl rfl rfl ?_
                refine J_move rfl rfl rfl ?_
                refine J_guard rfl rfl rfl ?_
                refine J_move rfl rfl rfl ?_
                refine J_guard rfl rfl rfl ?_
                refine J_move rfl rfl rfl ?_
                refine J_guard rfl rfl rfl ?_
                refine J_str_cmp rfl rfl rfl rfl rfl ?_
                refine J_pick_false rfl rfl rfl rfl ?_
                refine J_nil3 ?_
                refine E_then ?_
                refine R_cond rfl (fun hh => ?_) (fun hh => ?_)
                simp only [decide_eq_true_eq, decide_eq_false_iff_not, Bool.and_eq_true, Bool.or_eq_true, Bool.not_eq_true', Bool.not_eq_false', beq_iff_eq, bne_iff_ne, beq_eq_false_iff_ne, bne_eq_false_iff_eq, ne_eq, ge_iff_le, gt_iff_lt, Int.not_le, Int.not_lt, Bool.and_eq_false_iff, Bool.or_eq_false_iff, Decidable.not_not] at hh
                refine R_seq ?_
                refine R_region ?_
                refine J_build rfl rfl rfl rfl ?_
                refine J_storeA rfl rfl rfl rfl rfl rfl ?_
                refine J_assign rfl rfl rfl ?_
                refine J_nil1 ?_
                refine E_then ?_
                refine R_ret ?_
                refine E_then_ret ?_
                rotate_left
                simp only [decide_eq_true_eq, decide_eq_false_iff_not, Bool.and_eq_true, Bool.or_eq_true, Bool.not_eq_true', Bool.not_eq_false', beq_iff_eq, bne_iff_ne, beq_eq_false_iff_ne, bne_eq_false_iff_eq, ne_eq, ge_iff_le, gt_iff_lt, Int.not_le, Int.not_lt, Bool.and_eq_false_iff, Bool.or_eq_false_iff, Decidable.not_not] at hh
                refine R_skip ?_
                refine E_then ?_
                refine R_seq ?_
                refine R_region ?_
                refine J_loadA rfl rfl rfl rfl ?_
                refine J_storeA rfl rfl rfl rfl rfl rfl ?_
                refine J_assign rfl rfl rfl ?_
                refine J_nil1 ?_
                refine E_then ?_
                refine R_ret ?_
                rotate_left
                all_goals first
                  | exact absurd hh h4
                  | (apply E_retP Tryz.results220
                     · exact Res_cellA rfl rfl (Res.tmp rfl (Res.nil))
                     · exact Gives.drop (Gives.drop (Gives.drop Gives.refl))
                     rfl)
            · rw [Bool.not_eq_true] at h3
              rw [h3]
              simp only [Bool.false_eq_true, if_false, false_and]
              refine J_move rfl rfl rfl ?_
              refine J_extract rfl rfl rfl rfl ?_
              refine J_extract rfl rfl rfl rfl ?_
              refine J_assign rfl rfl rfl ?_
              refine J_assign rfl rfl rfl ?_
              refine J_nil3 ?_
              refine E_then ?_
              refine R_seq ?_
              refine R_region ?_
              refine J_move rfl rfl rfl ?_
              refine J_cmp rfl rfl rfl rfl rfl ?_
              refine J_move rfl rfl rfl ?_
              refine J_guard_not rfl rfl rfl rfl rfl rfl ?_
              refine J_guard_not rfl rfl rfl rfl rfl rfl ?_
              refine J_guard_not rfl rfl rfl rfl rfl rfl ?_
              refine J_pick_true rfl rfl rfl rfl ?_
              refine J_nil3 ?_
              refine E_then ?_
              refine R_cond_true rfl ?_
              refine R_seq ?_
              refine R_region ?_
              refine J_build rfl rfl rfl rfl ?_
              refine J_storeA rfl rfl rfl rfl rfl rfl ?_
              refine J_assign rfl rfl rfl ?_
              refine J_nil1 ?_
              refine E_then ?_
              refine R_ret ?_
              refine E_then_ret ?_
              apply E_retP Tryz.results220
              · exact Res_cellA rfl rfl (Res.tmp rfl (Res.nil))
              · exact Gives.drop (Gives.drop (Gives.drop Gives.refl))
              rfl
        · rw [if_pos h2]
          refine J_move rfl rfl rfl ?_
          refine J_str_cmp rfl rfl rfl rfl rfl ?_
          refine J_nil3 ?_
          refine E_then ?_
          refine R_cond rfl (fun hh => ?_) (fun hh => ?_)
          simp only [decide_eq_true_eq, decide_eq_false_iff_not, Bool.and_eq_true, Bool.or_eq_true, Bool.not_eq_true', Bool.not_eq_false', beq_iff_eq, bne_iff_ne, beq_eq_false_iff_ne, bne_eq_false_iff_eq, ne_eq, ge_iff_le, gt_iff_lt, Int.not_le, Int.not_lt, Bool.and_eq_false_iff, Bool.or_eq_false_iff, Decidable.not_not] at hh
          refine R_seq ?_
          refine R_region ?_
          refine J_build rfl rfl rfl rfl ?_
          refine J_storeA rfl rfl rfl rfl rfl rfl ?_
          refine J_assign rfl rfl rfl ?_
          refine J_nil1 ?_
          refine E_then ?_
          refine R_ret ?_
          refine E_then_ret ?_
          rotate_left
          simp only [decide_eq_true_eq, decide_eq_false_iff_not, Bool.and_eq_true, Bool.or_eq_true, Bool.not_eq_true', Bool.not_eq_false', beq_iff_eq, bne_iff_ne, beq_eq_false_iff_ne, bne_eq_false_iff_eq, ne_eq, ge_iff_le, gt_iff_lt, Int.not_le, Int.not_lt, Bool.and_eq_false_iff, Bool.or_eq_false_iff, Decidable.not_not] at hh
          refine R_skip ?_
          refine E_then ?_
          refine R_seq ?_
          refine R_seq ?_
          refine R_region ?_
          refine J_loadA rfl rfl rfl rfl ?_
          rotate_left
          · apply E_retP Tryz.results220
            · exact Res_cellA rfl rfl (Res.tmp rfl (Res.nil))
            · exact Gives.drop (Gives.drop (Gives.drop Gives.refl))
            rfl
          · exact absurd hh h2
    · have hg : headGet s = ((0, 0, 0), 4) := by unfold headGet; rw [if_neg (by simp [h64]), if_pos h1]
      rw [hg]
      refine J_str_cmp rfl rfl rfl rfl rfl ?_
      refine J_nil3 ?_
      refine E_then ?_
      refine R_cond rfl (fun hh => ?_) (fun hh => ?_)
      simp only [decide_eq_true_eq, decide_eq_false_iff_not, Bool.and_eq_true, Bool.or_eq_true, Bool.not_eq_true', Bool.not_eq_false', beq_iff_eq, bne_iff_ne, beq_eq_false_iff_ne, bne_eq_false_iff_eq, ne_eq, ge_iff_le, gt_iff_lt, Int.not_le, Int.not_lt, Bool.and_eq_false_iff, Bool.or_eq_false_iff, Decidable.not_not] at hh
      refine R_seq ?_
      refine R_region ?_
      refine J_build rfl rfl rfl rfl ?_
      refine J_storeA rfl rfl rfl rfl rfl rfl ?_
      refine J_assign rfl rfl rfl ?_
      refine J_nil1 ?_
      refine E_then ?_
      refine R_ret ?_
      refine E_then_ret ?_
      rotate_left
      simp only [decide_eq_true_eq, decide_eq_false_iff_not, Bool.and_eq_true, Bool.or_eq_true, Bool.not_eq_true', Bool.not_eq_false', beq_iff_eq, bne_iff_ne, beq_eq_false_iff_ne, bne_eq_false_iff_eq, ne_eq, ge_iff_le, gt_iff_lt, Int.not_le, Int.not_lt, Bool.and_eq_false_iff, Bool.or_eq_false_iff, Decidable.not_not] at hh
      refine R_skip ?_
      refine E_then ?_
      refine R_seq ?_
      refine R_region ?_
      refine J_move rfl rfl rfl ?_
      rotate_left
      · apply E_retP Tryz.results220
        · exact Res_cellA rfl rfl (Res.tmp rfl (Res.nil))
        · exact Gives.drop (Gives.drop Gives.refl)
        rfl
      · exact absurd hh h1
  · have hg : headGet s = ((0, 0, 0), 12) := by unfold headGet; rw [if_pos h64]
    rw [hg]
    refine Fn_enter Tryz.func220 rfl Tryz.ntmps220 rfl ?_
    refine R_seq ?_
    refine R_region ?_
    refine J_alloc rfl rfl ?_; intro
    refine J_assign rfl rfl rfl ?_
    refine J_nil ?_
    refine E_then ?_
    refine R_seq ?_
    refine R_seq ?_
    refine R_region ?_
    refine J_move rfl rfl rfl ?_
    refine J_len_str rfl rfl rfl ?_
    refine J_cmp rfl rfl rfl rfl rfl ?_
    refine J_nil3 ?_
    refine E_then ?_
    refine R_cond rfl (fun hh => ?_) (fun hh => ?_)
    simp only [decide_eq_true_eq, decide_eq_false_iff_not, Bool.and_eq_true, Bool.or_eq_true, Bool.not_eq_true', Bool.not_eq_false', beq_iff_eq, bne_iff_ne, beq_eq_false_iff_ne, bne_eq_false_iff_eq, ne_eq, ge_iff_le, gt_iff_lt, Int.not_le, Int.not_lt, Bool.and_eq_false_iff, Bool.or_eq_false_iff, Decidable.not_not] at hh
    refine R_seq ?_
    refine R_region ?_
    refine J_build rfl rfl rfl rfl ?_
    refine J_storeA rfl rfl rfl rfl rfl rfl ?_
    refine J_assign rfl rfl rfl ?_
    refine J_nil1 ?_
    refine E_then ?_
    refine R_ret ?_
    refine E_then_ret ?_
    rotate_left
    simp only [decide_eq_true_eq, decide_eq_false_iff_not, Bool.and_eq_true, Bool.or_eq_true, Bool.not_eq_true', Bool.not_eq_false', beq_iff_eq, bne_iff_ne, beq_eq_false_iff_ne, bne_eq_false_iff_eq, ne_eq, ge_iff_le, gt_iff_lt, Int.not_le, Int.not_lt, Bool.and_eq_false_iff, Bool.or_eq_false_iff, Decidable.not_not] at hh
    exfalso; omega
    apply E_retP Tryz.results220
    · exact Res_cellA rfl rfl (Res.tmp rfl (Res.nil))
    · exact Gives.drop Gives.refl
    rfl
end Go.Proofs.Sol

/- Heads of a log: the one that counts. -/
namespace Go.Proofs.Sol
open Go Go.Proofs
set_option maxRecDepth 100000
set_option maxHeartbeats 4000000
set_option linter.unusedVariables false
set_option linter.unusedSimpArgs false
attribute [local irreducible] R J JW E D Fn Y clf mpI own Sat Exit.then Exit.inBlock bodyPost bodyPostM Code.wpIn wpL
/-- The head of two that counts. -/
def newer (s t : Bytes) : (Int × Int × Int) × Int :=
  if (headGet s).2 = 0 then (if (headGet t).2 = 0 ∧ (headGet s).1.1 < (headGet t).1.1 then ((headGet t).1, 0) else ((headGet s).1, 0))
  else if (headGet t).2 = 0 then ((headGet t).1, 0) else ((0, 0, 0), 8)
/-- What is known behind so many. -/
def nst (s t : Bytes) : Nat → Bool × Int × Int × Int
  | 0 => (false, 0, 0, 0)
  | 1 => if (headGet s).2 = 0 then (true, (headGet s).1) else (false, 0, 0, 0)
  | _ => (decide ((newer s t).2 = 0), (newer s t).1)
abbrev hd3 (b : Nat) (h : Int × Int × Int) : HP := cl b 159 [.int .i64 h.1, .int .i64 h.2.1, .int .i64 h.2.2]
theorem loghead_Newer (s t : Bytes) (F : List HP) : Fn Tryz.prog 181 [.string (S s), .string (S t)] F (Pst (.tuple #[headT (newer s t).1, .int .i64 (newer s t).2]) F) := by
  refine Fn_enter Tryz.func181 rfl Tryz.ntmps181 rfl ?_
  refine R_seq ?_
  refine R_region ?_
  refine J_alloc rfl rfl ?_; intro
  refine J_assign rfl rfl rfl ?_
  refine J_nil ?_
  refine E_then ?_
  refine R_seq ?_
  refine R_region ?_
  refine J_alloc rfl rfl ?_; intro
  refine J_nil ?_
  refine E_then ?_
  refine R_seq ?_
  refine R_region ?_
  refine J_assign rfl rfl rfl ?_
  refine J_nil ?_
  refine E_then ?_
  refine R_seq ?_
  refine R_seq ?_
  refine R_region ?_
  refine J_move rfl rfl rfl ?_
  refine J_move rfl rfl rfl ?_
  refine J_buildSlice rfl rfl rfl rfl rfl rfl ?_; intro
  refine J_len_slice rfl rfl rfl ?_
  refine J_move rfl rfl rfl ?_
  refine J_nil3 ?_
  refine E_then ?_
  refine R_block ?_
  rename_i b4 b6 b14
  refine R_loop (X := {x : Nat × Bool × Int × Int × Int // x.1 ≤ 2 ∧ x.2 = nst s t x.1}) (fun x => [(16, .int .i64 (x.1.1 : Int)), (15, .int .i64 2), (14, .slice (some ⟨b14, 0, none⟩) 2 2), (6, .pointer (some ⟨b6, 0, none⟩)), (4, .pointer (some ⟨b4, 0, none⟩)), (7, .bool x.1.2.1)])
    (fun x => cl b14 9 [.string (S s), .string (S t)] :: hd3 b6 x.1.2.2 :: hd3 b4 (0, 0, 0) :: F) (fun x => 2 - x.1.1) ⟨(0, false, 0, 0, 0), by omega, rfl⟩ (by exact sub_cons rfl (sub_cons rfl (sub_cons rfl (sub_cons rfl (sub_cons rfl (sub_cons rfl sub_nil)))))) Gives.refl ?_
  rintro ⟨⟨j, fo, g0, q0, a0⟩, hj, hst⟩
  dsimp only at hj hst ⊢
  have hj3 : j = 0 ∨ j = 1 ∨ j = 2 := by omega
  rcases hj3 with rfl | rfl | rfl
  · obtain ⟨rfl, rfl, rfl, rfl⟩ : fo = false ∧ g0 = 0 ∧ q0 = 0 ∧ a0 = 0 := by simpa [nst] using hst
    refine R_seq ?_
    refine R_region ?_
    refine J_cmp rfl rfl rfl rfl rfl ?_
    refine J_nil1 ?_
    refine E_then ?_
    refine R_seq ?_
    refine R_cond_true rfl ?_
    refine R_skip ?_
    refine E_then ?_
    refine R_seq ?_
    refine R_block ?_
    refine R_seq ?_
    refine R_region ?_
    refine J_indexAddr rfl rfl (by omega) (by omega) rfl rfl ?_
    refine J_load rfl rfl rfl rfl ?_
    refine J_assign rfl rfl rfl ?_
    refine J_nil2 ?_
    refine E_then ?_
    refine R_seq ?_
    refine R_region ?_
    refine J_move rfl rfl rfl ?_
    refine J_callr rfl (loghead_Get s _) (by exact Gives.refl) rfl rfl ?_
    rcases hg : headGet s with ⟨⟨g, q, a⟩, e⟩
    dsimp only
    by_cases he0 : e = 0
    · subst he0
      refine J_move rfl rfl rfl ?_
      refine J_extract rfl rfl rfl rfl ?_
      refine J_extract rfl rfl rfl rfl ?_
      refine J_alloc rfl rfl ?_; intro
      refine J_storeA rfl rfl rfl rfl rfl rfl ?_
      refine J_assign rfl rfl rfl ?_
      refine J_nil3 ?_
      refine E_then ?_
      refine R_seq ?_
      refine R_region ?_
      refine J_move rfl rfl rfl ?_
      refine J_cmp rfl rfl rfl rfl rfl ?_
      refine J_move rfl rfl rfl ?_
      refine J_guard rfl rfl rfl ?_
      refine J_move rfl rfl rfl ?_
      refine J_guard rfl rfl rfl ?_
      refine J_un_not rfl rfl rfl ?_
      refine J_guard rfl rfl rfl ?_
      refine J_move rfl rfl rfl ?_
      refine J_guard_not rfl rfl rfl rfl rfl rfl ?_
      refine J_guard_not rfl rfl rfl rfl rfl rfl ?_
      refine J_guard_not rfl rfl rfl rfl rfl rfl ?_
      refine J_guard_not rfl rfl rfl rfl rfl rfl ?_
      refine J_guard_notU rfl rfl rfl rfl rfl ?_
      refine J_guard_notU rfl rfl rfl rfl rfl ?_
      refine J_guard_notU rfl rfl rfl rfl rfl ?_
      refine J_guard_notU rfl rfl rfl rfl rfl ?_
      refine J_guard_notU rfl rfl rfl rfl rfl ?_
      refine J_guard_not rfl rfl rfl rfl rfl rfl ?_
      refine J_guard rfl rfl rfl ?_
      refine J_pick_true rfl rfl rfl rfl ?_
      refine J_pick_true rfl rfl rfl rfl ?_
      refine J_nil3 ?_
      refine E_then ?_
      refine R_cond_true rfl ?_
      refine R_region ?_
      refine J_loadA rfl rfl rfl rfl ?_
      refine J_storeA rfl rfl rfl rfl rfl rfl ?_
      refine J_assign rfl rfl rfl ?_
      refine J_nil1 ?_
      refine E_block_normal ?_
      refine E_then ?_
      refine R_region ?_
      refine J_ari64 rfl rfl rfl (by omega) rfl rfl ?_
      refine J_moveg rfl rfl rfl ?_
      refine J_nil1 ?_
      exact E_thenI fun a' w he hs => ⟨⟨(1, true, g, q, a), by omega, by simp [nst, hg]⟩, by simp, he.sub (by exact sub_cons rfl (sub_cons rfl (sub_cons rfl (sub_cons rfl (sub_cons rfl (sub_cons rfl sub_nil)))))), hs.gives (by exact Gives.cons (Take.next Take.here) (Gives.cons (Take.next Take.here) (Gives.cons (Take.next Take.here) (Gives.drop Gives.refl))))⟩
    · refine J_move rfl rfl rfl ?_
      refine J_extract rfl rfl rfl rfl ?_
      refine J_extract rfl rfl rfl rfl ?_
      refine J_alloc rfl rfl ?_; intro
      refine J_storeA rfl rfl rfl rfl rfl rfl ?_
      refine J_assign rfl rfl rfl ?_
      refine J_nil3 ?_
      refine E_then ?_
      refine R_seq ?_
      refine R_region ?_
      refine J_move rfl rfl rfl ?_
      refine J_cmp rfl rfl rfl rfl rfl ?_
      refine J_move rfl rfl rfl ?_
      refine J_guard_split rfl rfl (fun hh => ?_) (fun hh => ?_)
      simp only [decide_eq_true_eq, decide_eq_false_iff_not, Bool.and_eq_true, Bool.or_eq_true, Bool.not_eq_true', Bool.not_eq_false', beq_iff_eq, bne_iff_ne, beq_eq_false_iff_ne, bne_eq_false_iff_eq, ne_eq, ge_iff_le, gt_iff_lt, Int.not_le, Int.not_lt, Bool.and_eq_false_iff, Bool.or_eq_false_iff, Decidable.not_not] at hh
      exfalso; omega
      simp only [decide_eq_true_eq, decide_eq_false_iff_not, Bool.and_eq_true, Bool.or_eq_true, Bool.not_eq_true', Bool.not_eq_false', beq_iff_eq, bne_iff_ne, beq_eq_false_iff_ne, bne_eq_false_iff_eq, ne_eq, ge_iff_le, gt_iff_lt, Int.not_le, Int.not_lt, Bool.and_eq_false_iff, Bool.or_eq_false_iff, Decidable.not_not] at hh
      refine J_guard_not rfl rfl rfl rfl rfl rfl ?_
      refine J_guard_not rfl rfl rfl rfl rfl rfl ?_
      refine J_guard_not rfl rfl rfl rfl rfl rfl ?_
      refine J_guard_notU rfl rfl rfl rfl rfl ?_
      refine J_guard_notU rfl rfl rfl rfl rfl ?_
      refine J_guard_notU rfl rfl rfl rfl rfl ?_
      refine J_guard_notU rfl rfl rfl rfl rfl ?_
      refine J_guard_notU rfl rfl rfl rfl rfl ?_
      refine J_guard_notU rfl rfl rfl rfl rfl ?_
      refine J_guard_notU rfl rfl rfl rfl rfl ?_
      refine J_guard_notU rfl rfl rfl rfl rfl ?_
      refine J_guard_notU rfl rfl rfl rfl rfl ?_
      refine J_guard_notU rfl rfl rfl rfl rfl ?_
      refine J_guard_not rfl rfl rfl rfl rfl rfl ?_
      refine J_pick_false rfl rfl rfl rfl ?_
      refine J_nil3 ?_
      refine E_then ?_
      refine R_cond_false rfl ?_
      refine R_skip ?_
      refine E_block_normal ?_
      refine E_then ?_
      refine R_region ?_
      refine J_ari64 rfl rfl rfl (by omega) rfl rfl ?_
      refine J_moveg rfl rfl rfl ?_
      refine J_nil1 ?_
      exact E_thenI fun a' w he hs => ⟨⟨(1, false, 0, 0, 0), by omega, by simp [nst, hg, he0]⟩, by simp, he.sub (by exact sub_cons rfl (sub_cons rfl (sub_cons rfl (sub_cons rfl (sub_cons rfl (sub_cons rfl sub_nil)))))), hs.gives (by exact Gives.cons (Take.next Take.here) (Gives.cons (Take.next Take.here) (Gives.cons (Take.next Take.here) (Gives.drop Gives.refl))))⟩
  · refine R_seq ?_
    refine R_region ?_
    refine J_cmp rfl rfl rfl rfl rfl ?_
    refine J_nil1 ?_
    refine E_then ?_
    refine R_seq ?_
    refine R_cond_true rfl ?_
    refine R_skip ?_
    refine E_then ?_
    refine R_seq ?_
    refine R_block ?_
    refine R_seq ?_
    refine R_region ?_
    refine J_indexAddr rfl rfl (by omega) (by omega) rfl rfl ?_
    refine J_load rfl rfl rfl rfl ?_
    refine J_assign rfl rfl rfl ?_
    refine J_nil2 ?_
    refine E_then ?_
    refine R_seq ?_
    refine R_region ?_
    refine J_move rfl rfl rfl ?_
    refine J_callr rfl (loghead_Get t _) (by exact Gives.refl) rfl rfl ?_
    rcases ht : headGet t with ⟨⟨g, q, a⟩, e⟩
    rcases hs1 : headGet s with ⟨⟨g1, q1, a1⟩, e1⟩
    dsimp only
    by_cases he0 : e = 0
    · subst he0
      by_cases he1 : e1 = 0
      · subst he1
        obtain ⟨rfl, rfl, rfl, rfl⟩ : fo = true ∧ g0 = g1 ∧ q0 = q1 ∧ a0 = a1 := by simpa [nst, hs1] using hst
        refine J_move rfl rfl rfl ?_
        refine J_extract rfl rfl rfl rfl ?_
        refine J_extract rfl rfl rfl rfl ?_
        refine J_alloc rfl rfl ?_; intro
        refine J_storeA rfl rfl rfl rfl rfl rfl ?_
        refine J_assign rfl rfl rfl ?_
        refine J_nil3 ?_
        refine E_then ?_
        refine R_seq ?_
        refine R_region ?_
        refine J_move rfl rfl rfl ?_
        refine J_cmp rfl rfl rfl rfl rfl ?_
        refine J_move rfl rfl rfl ?_
        refine J_guard rfl rfl rfl ?_
        refine J_move rfl rfl rfl ?_
        refine J_guard rfl rfl rfl ?_
        refine J_un_not rfl rfl rfl ?_
        refine J_guard rfl rfl rfl ?_
        refine J_move rfl rfl rfl ?_
        refine J_guard rfl rfl rfl ?_
        refine J_loadA rfl rfl rfl rfl ?_
        refine J_guard rfl rfl rfl ?_
        refine J_loadA rfl rfl rfl rfl ?_
        refine J_guard rfl rfl rfl ?_
        refine J_eqA rfl rfl rfl rfl rfl rfl rfl rfl ?_
        refine J_guard rfl rfl rfl ?_
        refine J_move rfl rfl rfl ?_
        refine J_guard_split rfl rfl (fun hh => ?_) (fun hh => ?_)
        simp only [decide_eq_true_eq, decide_eq_false_iff_not, Bool.and_eq_true, Bool.or_eq_true, Bool.not_eq_true', Bool.not_eq_false', beq_iff_eq, bne_iff_ne, beq_eq_false_iff_ne, bne_eq_false_iff_eq, ne_eq, ge_iff_le, gt_iff_lt, Int.not_le, Int.not_lt, Bool.and_eq_false_iff, Bool.or_eq_false_iff, Decidable.not_not] at hh
        refine J_guard rfl rfl rfl ?_
        refine J_fieldAddr0 rfl rfl rfl ?_
        refine J_guard rfl rfl rfl ?_
        refine J_load rfl rfl rfl rfl ?_
        refine J_guard rfl rfl rfl ?_
        refine J_fieldAddr0 rfl rfl rfl ?_
        refine J_guard rfl rfl rfl ?_
        refine J_load rfl rfl rfl rfl ?_
        refine J_guard rfl rfl rfl ?_
        refine J_cmp rfl rfl rfl rfl rfl ?_
        refine J_guard rfl rfl rfl ?_
        refine J_pick_true rfl rfl rfl rfl ?_
        refine J_guard rfl rfl rfl ?_
        refine J_pick_false rfl rfl rfl rfl ?_
        refine J_pick_true rfl rfl rfl rfl ?_
        refine J_nil3 ?_
        refine E_then ?_
        refine R_cond rfl (fun hh => ?_) (fun hh => ?_)
        simp only [decide_eq_true_eq, decide_eq_false_iff_not, Bool.and_eq_true, Bool.or_eq_true, Bool.not_eq_true', Bool.not_eq_false', beq_iff_eq, bne_iff_ne, beq_eq_false_iff_ne, bne_eq_false_iff_eq, ne_eq, ge_iff_le, gt_iff_lt, Int.not_le, Int.not_lt, Bool.and_eq_false_iff, Bool.or_eq_false_iff, Decidable.not_not] at hh
        refine R_region ?_
        refine J_loadA rfl rfl rfl rfl ?_
        refine J_storeA rfl rfl rfl rfl rfl rfl ?_
        refine J_assign rfl rfl rfl ?_
        refine J_nil1 ?_
        refine E_block_normal ?_
        refine E_then ?_
        refine R_region ?_
        refine J_ari64 rfl rfl rfl (by omega) rfl rfl ?_
        refine J_moveg rfl rfl rfl ?_
        refine J_nil1 ?_
        rotate_left
        simp only [decide_eq_true_eq, decide_eq_false_iff_not, Bool.and_eq_true, Bool.or_eq_true, Bool.not_eq_true', Bool.not_eq_false', beq_iff_eq, bne_iff_ne, beq_eq_false_iff_ne, bne_eq_false_iff_eq, ne_eq, ge_iff_le, gt_iff_lt, Int.not_le, Int.not_lt, Bool.and_eq_false_iff, Bool.or_eq_false_iff, Decidable.not_not] at hh
        refine R_skip ?_
        refine E_block_normal ?_
        refine E_then ?_
        refine R_region ?_
        refine J_ari64 rfl rfl rfl (by omega) rfl rfl ?_
        refine J_moveg rfl rfl rfl ?_
        refine J_nil1 ?_
        rotate_left
        simp only [decide_eq_true_eq, decide_eq_false_iff_not, Bool.and_eq_true, Bool.or_eq_true, Bool.not_eq_true', Bool.not_eq_false', beq_iff_eq, bne_iff_ne, beq_eq_false_iff_ne, bne_eq_false_iff_eq, ne_eq, ge_iff_le, gt_iff_lt, Int.not_le, Int.not_lt, Bool.and_eq_false_iff, Bool.or_eq_false_iff, Decidable.not_not] at hh
        refine J_guard_not rfl rfl rfl rfl rfl rfl ?_
        refine J_guard_not rfl rfl rfl rfl rfl rfl ?_
        refine J_guard_not rfl rfl rfl rfl rfl rfl ?_
        refine J_guard_not rfl rfl rfl rfl rfl rfl ?_
        refine J_guard_not rfl rfl rfl rfl rfl rfl ?_
        refine J_guard rfl rfl rfl ?_
        refine J_pick_false rfl rfl rfl rfl ?_
        refine J_guard rfl rfl rfl ?_
        refine J_pick_false rfl rfl rfl rfl ?_
        refine J_pick_true rfl rfl rfl rfl ?_
        refine J_nil3 ?_
        refine E_then ?_
        refine R_cond_false rfl ?_
        refine R_skip ?_
        refine E_block_normal ?_
        refine E_then ?_
        refine R_region ?_
        refine J_ari64 rfl rfl rfl (by omega) rfl rfl ?_
        refine J_moveg rfl rfl rfl ?_
        refine J_nil1 ?_
        rotate_left
        · exact E_thenI fun a' w he hs => ⟨⟨(2, true, g, q, a), by omega, by simp [nst, newer, hs1, ht, hh]⟩, by simp, he.sub (by exact sub_cons rfl (sub_cons rfl (sub_cons rfl (sub_cons rfl (sub_cons rfl (sub_cons rfl sub_nil)))))), hs.gives (by exact Gives.cons (Take.next Take.here) (Gives.cons (Take.next Take.here) (Gives.cons (Take.next Take.here) (Gives.drop Gives.refl))))⟩
        · exact E_thenI fun a' w he hs => ⟨⟨(2, true, g0, q0, a0), by omega, by simp [nst, newer, hs1, ht, Int.not_lt.2 hh]⟩, by simp, he.sub (by exact sub_cons rfl (sub_cons rfl (sub_cons rfl (sub_cons rfl (sub_cons rfl (sub_cons rfl sub_nil)))))), hs.gives (by exact Gives.cons (Take.next Take.here) (Gives.cons (Take.next Take.here) (Gives.cons (Take.next Take.here) (Gives.drop Gives.refl))))⟩
        · exact E_thenI fun a' w he hs => ⟨⟨(2, true, g0, q0, a0), by omega, by simp [nst, newer, hs1, ht, hh.1]⟩, by simp, he.sub (by exact sub_cons rfl (sub_cons rfl (sub_cons rfl (sub_cons rfl (sub_cons rfl (sub_cons rfl sub_nil)))))), hs.gives (by exact Gives.cons (Take.next Take.here) (Gives.cons (Take.next Take.here) (Gives.cons (Take.next Take.here) (Gives.drop Gives.refl))))⟩
      · obtain ⟨rfl, rfl, rfl, rfl⟩ : fo = false ∧ g0 = 0 ∧ q0 = 0 ∧ a0 = 0 := by simpa [nst, hs1, he1] using hst
        refine J_move rfl rfl rfl ?_
        refine J_extract rfl rfl rfl rfl ?_
        refine J_extract rfl rfl rfl rfl ?_
        refine J_alloc rfl rfl ?_; intro
        refine J_storeA rfl rfl rfl rfl rfl rfl ?_
        refine J_assign rfl rfl rfl ?_
        refine J_nil3 ?_
        refine E_then ?_
        refine R_seq ?_
        refine R_region ?_
        refine J_move rfl rfl rfl ?_
        refine J_cmp rfl rfl rfl rfl rfl ?_
        refine J_move rfl rfl rfl ?_
        refine J_guard rfl rfl rfl ?_
        refine J_move rfl rfl rfl ?_
        refine J_guard rfl rfl rfl ?_
        refine J_un_not rfl rfl rfl ?_
        refine J_guard rfl rfl rfl ?_
        refine J_move rfl rfl rfl ?_
        refine J_guard_not rfl rfl rfl rfl rfl rfl ?_
        refine J_guard_not rfl rfl rfl rfl rfl rfl ?_
        refine J_guard_not rfl rfl rfl rfl rfl rfl ?_
        refine J_guard_not rfl rfl rfl rfl rfl rfl ?_
        refine J_guard_notU rfl rfl rfl rfl rfl ?_
        refine J_guard_notU rfl rfl rfl rfl rfl ?_
        refine J_guard_notU rfl rfl rfl rfl rfl ?_
        refine J_guard_notU rfl rfl rfl rfl rfl ?_
        refine J_guard_notU rfl rfl rfl rfl rfl ?_
        refine J_guard_not rfl rfl rfl rfl rfl rfl ?_
        refine J_guard rfl rfl rfl ?_
        refine J_pick_true rfl rfl rfl rfl ?_
        refine J_pick_true rfl rfl rfl rfl ?_
        refine J_nil3 ?_
        refine E_then ?_
        refine R_cond_true rfl ?_
        refine R_region ?_
        refine J_loadA rfl rfl rfl rfl ?_
        refine J_storeA rfl rfl rfl rfl rfl rfl ?_
        refine J_assign rfl rfl rfl ?_
        refine J_nil1 ?_
        refine E_block_normal ?_
        refine E_then ?_
        refine R_region ?_
        refine J_ari64 rfl rfl rfl (by omega) rfl rfl ?_
        refine J_moveg rfl rfl rfl ?_
        refine J_nil1 ?_
        exact E_thenI fun a' w he hs => ⟨⟨(2, true, g, q, a), by omega, by simp [nst, newer, hs1, ht, he1]⟩, by simp, he.sub (by exact sub_cons rfl (sub_cons rfl (sub_cons rfl (sub_cons rfl (sub_cons rfl (sub_cons rfl sub_nil)))))), hs.gives (by exact Gives.cons (Take.next Take.here) (Gives.cons (Take.next Take.here) (Gives.cons (Take.next Take.here) (Gives.drop Gives.refl))))⟩
    · by_cases he1 : e1 = 0
      · subst he1
        obtain ⟨rfl, rfl, rfl, rfl⟩ : fo = true ∧ g0 = g1 ∧ q0 = q1 ∧ a0 = a1 := by simpa [nst, hs1] using hst
        refine J_move rfl rfl rfl ?_
        refine J_extract rfl rfl rfl rfl ?_
        refine J_extract rfl rfl rfl rfl ?_
        refine J_alloc rfl rfl ?_; intro
        refine J_storeA rfl rfl rfl rfl rfl rfl ?_
        refine J_assign rfl rfl rfl ?_
        refine J_nil3 ?_
        refine E_then ?_
        refine R_seq ?_
        refine R_region ?_
        refine J_move rfl rfl rfl ?_
        refine J_cmp rfl rfl rfl rfl rfl ?_
        refine J_move rfl rfl rfl ?_
        refine J_guard_split rfl rfl (fun hh => ?_) (fun hh => ?_)
        simp only [decide_eq_true_eq, decide_eq_false_iff_not, Bool.and_eq_true, Bool.or_eq_true, Bool.not_eq_true', Bool.not_eq_false', beq_iff_eq, bne_iff_ne, beq_eq_false_iff_ne, bne_eq_false_iff_eq, ne_eq, ge_iff_le, gt_iff_lt, Int.not_le, Int.not_lt, Bool.and_eq_false_iff, Bool.or_eq_false_iff, Decidable.not_not] at hh
        exfalso; omega
        simp only [decide_eq_true_eq, decide_eq_false_iff_not, Bool.and_eq_true, Bool.or_eq_true, Bool.not_eq_true', Bool.not_eq_false', beq_iff_eq, bne_iff_ne, beq_eq_false_iff_ne, bne_eq_false_iff_eq, ne_eq, ge_iff_le, gt_iff_lt, Int.not_le, Int.not_lt, Bool.and_eq_false_iff, Bool.or_eq_false_iff, Decidable.not_not] at hh
        refine J_guard_not rfl rfl rfl rfl rfl rfl ?_
        refine J_guard_not rfl rfl rfl rfl rfl rfl ?_
        refine J_guard_not rfl rfl rfl rfl rfl rfl ?_
        refine J_guard_notU rfl rfl rfl rfl rfl ?_
        refine J_guard_notU rfl rfl rfl rfl rfl ?_
        refine J_guard_notU rfl rfl rfl rfl rfl ?_
        refine J_guard_notU rfl rfl rfl rfl rfl ?_
        refine J_guard_notU rfl rfl rfl rfl rfl ?_
        refine J_guard_notU rfl rfl rfl rfl rfl ?_
        refine J_guard_notU rfl rfl rfl rfl rfl ?_
        refine J_guard_notU rfl rfl rfl rfl rfl ?_
        refine J_guard_notU rfl rfl rfl rfl rfl ?_
        refine J_guard_notU rfl rfl rfl rfl rfl ?_
        refine J_guard_not rfl rfl rfl rfl rfl rfl ?_
        refine J_pick_false rfl rfl rfl rfl ?_
        refine J_nil3 ?_
        refine E_then ?_
        refine R_cond_false rfl ?_
        refine R_skip ?_
        refine E_block_normal ?_
        refine E_then ?_
        refine R_region ?_
        refine J_ari64 rfl rfl rfl (by omega) rfl rfl ?_
        refine J_moveg rfl rfl rfl ?_
        refine J_nil1 ?_
        exact E_thenI fun a' w he hs => ⟨⟨(2, true, g0, q0, a0), by omega, by simp [nst, newer, hs1, ht, he0]⟩, by simp, he.sub (by exact sub_cons rfl (sub_cons rfl (sub_cons rfl (sub_cons rfl (sub_cons rfl (sub_cons rfl sub_nil)))))), hs.gives (by exact Gives.cons (Take.next Take.here) (Gives.cons (Take.next Take.here) (Gives.cons (Take.next Take.here) (Gives.drop Gives.refl))))⟩
      · obtain ⟨rfl, rfl, rfl, rfl⟩ : fo = false ∧ g0 = 0 ∧ q0 = 0 ∧ a0 = 0 := by simpa [nst, hs1, he1] using hst
        refine J_move rfl rfl rfl ?_
        refine J_extract rfl rfl rfl rfl ?_
        refine J_extract rfl rfl rfl rfl ?_
        refine J_alloc rfl rfl ?_; intro
        refine J_storeA rfl rfl rfl rfl rfl rfl ?_
        refine J_assign rfl rfl rfl ?_
        refine J_nil3 ?_
        refine E_then ?_
        refine R_seq ?_
        refine R_region ?_
        refine J_move rfl rfl rfl ?_
        refine J_cmp rfl rfl rfl rfl rfl ?_
        refine J_move rfl rfl rfl ?_
        refine J_guard_split rfl rfl (fun hh => ?_) (fun hh => ?_)
        simp only [decide_eq_true_eq, decide_eq_false_iff_not, Bool.and_eq_true, Bool.or_eq_true, Bool.not_eq_true', Bool.not_eq_false', beq_iff_eq, bne_iff_ne, beq_eq_false_iff_ne, bne_eq_false_iff_eq, ne_eq, ge_iff_le, gt_iff_lt, Int.not_le, Int.not_lt, Bool.and_eq_false_iff, Bool.or_eq_false_iff, Decidable.not_not] at hh
        exfalso; omega
        simp only [decide_eq_true_eq, decide_eq_false_iff_not, Bool.and_eq_true, Bool.or_eq_true, Bool.not_eq_true', Bool.not_eq_false', beq_iff_eq, bne_iff_ne, beq_eq_false_iff_ne, bne_eq_false_iff_eq, ne_eq, ge_iff_le, gt_iff_lt, Int.not_le, Int.not_lt, Bool.and_eq_false_iff, Bool.or_eq_false_iff, Decidable.not_not] at hh
        refine J_guard_not rfl rfl rfl rfl rfl rfl ?_
        refine J_guard_not rfl rfl rfl rfl rfl rfl ?_
        refine J_guard_not rfl rfl rfl rfl rfl rfl ?_
        refine J_guard_notU rfl rfl rfl rfl rfl ?_
        refine J_guard_notU rfl rfl rfl rfl rfl ?_
        refine J_guard_notU rfl rfl rfl rfl rfl ?_
        refine J_guard_notU rfl rfl rfl rfl rfl ?_
        refine J_guard_notU rfl rfl rfl rfl rfl ?_
        refine J_guard_notU rfl rfl rfl rfl rfl ?_
        refine J_guard_notU rfl rfl rfl rfl rfl ?_
        refine J_guard_notU rfl rfl rfl rfl rfl ?_
        refine J_guard_notU rfl rfl rfl rfl rfl ?_
        refine J_guard_notU rfl rfl rfl rfl rfl ?_
        refine J_guard_not rfl rfl rfl rfl rfl rfl ?_
        refine J_pick_false rfl rfl rfl rfl ?_
        refine J_nil3 ?_
        refine E_then ?_
        refine R_cond_false rfl ?_
        refine R_skip ?_
        refine E_block_normal ?_
        refine E_then ?_
        refine R_region ?_
        refine J_ari64 rfl rfl rfl (by omega) rfl rfl ?_
        refine J_moveg rfl rfl rfl ?_
        refine J_nil1 ?_
        exact E_thenI fun a' w he hs => ⟨⟨(2, false, 0, 0, 0), by omega, by simp [nst, newer, hs1, ht, he1, he0]⟩, by simp, he.sub (by exact sub_cons rfl (sub_cons rfl (sub_cons rfl (sub_cons rfl (sub_cons rfl (sub_cons rfl sub_nil)))))), hs.gives (by exact Gives.cons (Take.next Take.here) (Gives.cons (Take.next Take.here) (Gives.cons (Take.next Take.here) (Gives.drop Gives.refl))))⟩
  · rcases hn : newer s t with ⟨⟨g, q, a⟩, e⟩
    have hn8 : e = 0 ∨ (e = 8 ∧ g = 0 ∧ q = 0 ∧ a = 0) := by
      unfold newer at hn
      split at hn
      · split at hn <;> (injection hn with _ h2; exact .inl h2.symm)
      · split at hn
        · injection hn with _ h2; exact .inl h2.symm
        · injection hn with h1 h2
          injection h1 with h3 h4
          injection h4 with h5 h6
          exact .inr ⟨h2.symm, h3.symm, h5.symm, h6.symm⟩
    obtain ⟨rfl, rfl, rfl, rfl⟩ : fo = decide (e = 0) ∧ g0 = g ∧ q0 = q ∧ a0 = a := by simpa [nst, hn] using hst
    rcases hn8 with rfl | ⟨rfl, rfl, rfl, rfl⟩
    · simp only [decide_true]
      refine R_seq ?_
      refine R_region ?_
      refine J_cmp rfl rfl rfl rfl rfl ?_
      refine J_nil1 ?_
      refine E_then ?_
      refine R_seq ?_
      refine R_cond_false rfl ?_
      refine R_exit ?_
      refine E_then_exit ?_
      refine E_then_exit ?_
      refine E_block_hit ?_
      refine E_then ?_
      refine R_seq ?_
      refine R_seq ?_
      refine R_region ?_
      refine J_move rfl rfl rfl ?_
      refine J_un_not rfl rfl rfl ?_
      refine J_nil2 ?_
      refine E_then ?_
      refine R_cond_false rfl ?_
      refine R_skip ?_
      refine E_then ?_
      refine R_seq ?_
      refine R_region ?_
      refine J_loadA rfl rfl rfl rfl ?_
      refine J_storeA rfl rfl rfl rfl rfl rfl ?_
      refine J_assign rfl rfl rfl ?_
      refine J_nil1 ?_
      refine E_then ?_
      refine R_ret ?_
      apply E_retP Tryz.results181
      · exact Res_cellA rfl rfl (Res.tmp rfl (Res.nil))
      · exact Gives.drop (Gives.drop (Gives.drop Gives.refl))
      rfl
    · have e8 : decide ((8 : Int) = 0) = false := rfl
      simp only [e8]
      refine R_seq ?_
      refine R_region ?_
      refine J_cmp rfl rfl rfl rfl rfl ?_
      refine J_nil1 ?_
      refine E_then ?_
      refine R_seq ?_
      refine R_cond_false rfl ?_
      refine R_exit ?_
      refine E_then_exit ?_
      refine E_then_exit ?_
      refine E_block_hit ?_
      refine E_then ?_
      refine R_seq ?_
      refine R_seq ?_
      refine R_region ?_
      refine J_move rfl rfl rfl ?_
      refine J_un_not rfl rfl rfl ?_
      refine J_nil2 ?_
      refine E_then ?_
      refine R_cond_true rfl ?_
      refine R_seq ?_
      refine R_region ?_
      refine J_loadA rfl rfl rfl rfl ?_
      refine J_storeA rfl rfl rfl rfl rfl rfl ?_
      refine J_assign rfl rfl rfl ?_
      refine J_nil1 ?_
      refine E_then ?_
      refine R_ret ?_
      refine E_then_ret ?_
      apply E_retP Tryz.results181
      · exact Res_cellA rfl rfl (Res.tmp rfl (Res.nil))
      · exact Gives.drop (Gives.drop (Gives.drop Gives.refl))
      rfl
end Go.Proofs.Sol

/- A log over a disk: all that stays, brought home. -/
namespace Go.Proofs.Sol
open Go Go.Proofs
set_option maxRecDepth 100000
set_option maxHeartbeats 4000000
set_option linter.unusedVariables false
set_option linter.unusedSimpArgs false
attribute [local irreducible] R J JW E D Fn Y clf mpI own Sat Exit.then Exit.inBlock bodyPost bodyPostM Code.wpIn wpL
def homeV (V : List Bytes) (K : List (Int × Bytes)) (i : Nat) : List Bytes := ((told K).take i).foldl (fun V p => V.set p.1.toNat p.2) V
theorem homeV_length (V : List Bytes) (K : List (Int × Bytes)) (i : Nat) : (homeV V K i).length = V.length := by
  unfold homeV
  generalize (told K).take i = l
  induction l generalizing V with
  | nil => rfl
  | cons p l ih => rw [List.foldl_cons, ih]; simp
theorem homeV_succ {V : List Bytes} {K : List (Int × Bytes)} {i : Nat} {p : Int × Bytes} (h : (told K)[i]? = some p) : homeV V K (i + 1) = (homeV V K i).set p.1.toNat p.2 := by
  unfold homeV
  obtain ⟨hlt, he⟩ := List.getElem?_eq_some_iff.1 h
  rw [List.take_succ_eq_append_getElem hlt, he]
  simp
abbrev setV (V : List Bytes) (K : List (Int × Bytes)) : List Bytes := homeV V K (told K).length
/-- A log, settled. -/
def Wl.settled (W : Wl) (g q a : Int) : Wl := { W with gen := g, at_ := a, seq := q, used := 0, com := false, K := [], V := (setV W.V W.K).set (W.fr + g % 2).toNat (headB g q a), k := W.k + (told W.K).length + 4 }
theorem wal_settle (b : Nat) (W : Wl) (ok : WlOk W) (g q a : Int) (hg : headMay g q a = true) (hkm : W.K.length < 1000000) (hk : W.k + W.K.length < 90000000) (F : List HP) :
    Fn Tryz.prog 95 [.pointer (some ⟨b, 0, none⟩), headA g q a] (wal b W :: F) (Pst .nilIface (wal b (W.settled g q a) :: F)) := by
  have hfr := ok.fr
  have hn := ok.n
  have hmany := ok.many
  have htl := told_length W.K
  refine Fn.open_ (fun w h => open_wal h) ?_
  rintro p
  dsimp only [walL, List.cons_append, List.nil_append]
  refine Fn_enterM Tryz.func95 rfl Tryz.ntmps95 rfl ?_
  refine R_seq ?_
  refine R_region ?_
  refine J_box rfl rfl rfl rfl ?_; intro
  refine J_boxA rfl rfl rfl ?_; intro
  refine J_alloc rfl rfl ?_; intro
  refine J_nil ?_
  refine E_then ?_
  refine R_seq ?_
  refine R_seq ?_
  refine R_region ?_
  refine J_load rfl rfl rfl rfl ?_
  refine J_nilCheck rfl rfl rfl ?_
  refine J_fieldAddr0 rfl rfl rfl ?_
  refine J_load rfl rfl rfl rfl ?_
  rename_i c2 c3 c4
  refine J_callr rfl (diskv_Flush W.d W.V W.k (by omega) _) (by exact Gives.last (Take.next (Take.next (Take.next (Take.next (Take.next (Take.next (Take.next Take.here)))))))) rfl rfl ?_
  refine J_assign rfl rfl rfl ?_
  refine J_nil3 ?_
  refine E_then ?_
  refine R_seq ?_
  refine R_region ?_
  refine J_move rfl rfl rfl ?_
  refine J_cmp rfl rfl rfl rfl rfl ?_
  refine J_nil2 ?_
  refine E_then ?_
  refine R_cond_false rfl ?_
  refine R_skip ?_
  refine E_then ?_
  refine R_seq ?_
  refine R_seq ?_
  refine R_region ?_
  refine J_load rfl rfl rfl rfl ?_
  refine J_nilCheck rfl rfl rfl ?_
  refine J_fieldAddr0 rfl rfl rfl ?_
  refine J_load rfl rfl rfl rfl ?_
  refine J.open_ (α := Nat × Nat) (M := fun x => shL p.2.2 W.K W.Lo x ++ (dvk W.d W.V (W.k + 1) :: cl c4 156 [.nilIface] :: cl c3 159 [.int .i64 g, .int .i64 q, .int .i64 a] :: cl c2 26 [.pointer (some ⟨b, 0, none⟩)] :: walH b W p :: reg p.1 W.d W.fr 2 :: reg p.2.1 W.d (W.fr + 2) (W.many - 2) :: F)) (fun w s => open_shd (s.gives (by exact Gives.last (Take.next (Take.next (Take.next (Take.next (Take.next (Take.next (Take.next Take.here)))))))))) ?_
  rintro ⟨bk, bl⟩
  dsimp only [shL, List.cons_append, List.nil_append]
  refine J_callm rfl (shadow_Kept p.2.2 bk bl _) Gives.refl rfl rfl ?_
  rintro v w ⟨t, rfl, s0⟩
  refine JW.of s0 ?_
  refine J_nil3 ?_
  refine E_then ?_
  refine R_block ?_
  refine R_rangeFunc (f := 208) (ps := [25, 26]) (fun i => [cl c2 26 [.pointer (some ⟨b, 0, none⟩)], walH b W p, dvk W.d (homeV W.V W.K i) (W.k + 1 + i)]) [fun _ => False] (fun vs => [(6, vs.getD 0 undef), (7, vs.getD 1 undef), (2, .pointer (some ⟨c2, 0, none⟩))])
    (shH p.2.2 bk bl :: mpI bl W.Lo :: cl c4 156 [.nilIface] :: cl c3 159 [.int .i64 g, .int .i64 q, .int .i64 a] :: reg p.1 W.d W.fr 2 :: reg p.2.1 W.d (W.fr + 2) (W.many - 2) :: F) rfl (each_tells t bk W.K hkm)
    (Gives.trans (M := cl t 216 [.map (some bk)] :: mpI bk W.K :: cl c2 26 [.pointer (some ⟨b, 0, none⟩)] :: walH b W p :: dvk W.d W.V (W.k + 1) :: shH p.2.2 bk bl :: mpI bl W.Lo :: cl c4 156 [.nilIface] :: cl c3 159 [.int .i64 g, .int .i64 q, .int .i64 a] :: reg p.1 W.d W.fr 2 :: reg p.2.1 W.d (W.fr + 2) (W.many - 2) :: F) (by exact Gives.cons Take.here (Gives.cons (Take.next Take.here) (Gives.cons (Take.next (Take.next (Take.next (Take.next (Take.next Take.here))))) (Gives.cons (Take.next (Take.next (Take.next (Take.next (Take.next Take.here))))) (Gives.last (Take.next (Take.next Take.here))))))) ⟨fun _ s => s⟩) (toldV_two W.K) rfl ?_ ?_ ?_ ?_
  · intro l c i vs hi F'
    obtain ⟨x, hx, rfl⟩ := toldV_get hi
    dsimp only [List.cons_append, List.nil_append]
    refine R_seq ?_
    refine R_region ?_
    refine J_assign rfl rfl rfl ?_
    refine J_nil ?_
    refine E_then ?_
    refine R_region ?_
    refine J_assign rfl rfl rfl ?_
    refine J_nil ?_
    exact E_thenI fun a w he hs => ⟨he.sub (by exact sub_cons rfl (sub_cons rfl (sub_cons rfl sub_nil))), hs⟩
  · intro l c i vs hi hc F'
    obtain ⟨x, hx, rfl⟩ := toldV_get hi
    obtain ⟨hxl, hxe⟩ := List.getElem?_eq_some_iff.1 hx
    have hxm := ok.kH x (told_mem (List.mem_of_getElem? hx))
    have hxh := hxm.1
    simp only [Wl.home, homeB, Bool.and_eq_true, decide_eq_true_eq] at hxh
    have hhl := homeV_length W.V W.K i
    have hE : wrE (homeV W.V W.K i) x.1 x.2 = 0 := wrE_in (by omega) hxm.2
    have hW : wrV (homeV W.V W.K i) x.1 x.2 = homeV W.V W.K (i + 1) := by rw [wrV_in (by omega) hxm.2, homeV_succ hx]
    dsimp only [List.cons_append, List.nil_append]
    refine R_block ?_
    refine R_seq ?_
    refine R_region ?_
    refine J_load rfl rfl rfl rfl ?_
    refine J_nilCheck rfl rfl rfl ?_
    refine J_fieldAddr0 rfl rfl rfl ?_
    refine J_load rfl rfl rfl rfl ?_
    refine J_move rfl rfl rfl ?_
    refine J_move rfl rfl rfl ?_
    refine J_callr rfl (diskv_Write W.d (homeV W.V W.K i) (W.k + 1 + i) x.1 x.2 (by omega) _) (by exact Gives.last (Take.next (Take.next (Take.next Take.here)))) rfl rfl ?_
    rw [hE, hW]
    refine J_assign rfl rfl rfl ?_
    refine J_nil3 ?_
    refine E_then ?_
    refine R_seq ?_
    refine R_region ?_
    refine J_move rfl rfl rfl ?_
    refine J_cmp rfl rfl rfl rfl rfl ?_
    refine J_nil2 ?_
    refine E_then ?_
    refine R_cond_false rfl ?_
    refine R_skip ?_
    refine E_block_normal ?_
    refine E_roundN hc (by with_reducible exact Take.next Take.here) ?_
    exact Gives.trans (M := cl c2 26 [.pointer (some ⟨b, 0, none⟩)] :: walH b W p :: dvk W.d (homeV W.V W.K (i + 1)) (W.k + 1 + i + 1) :: F') (by exact Gives.cons (Take.next Take.here) (Gives.last (Take.next Take.here))) ⟨fun _ s => s⟩
  · intro r
    have hlv : (toldV W.K).length = (told W.K).length := by simp [toldV]
    rw [hlv]
    have hhl : (setV W.V W.K).length = W.V.length := homeV_length W.V W.K (told W.K).length
    dsimp only [List.cons_append, List.nil_append]
    refine E_block_normal ?_
    refine E_then ?_
    refine R_seq ?_
    refine R_seq ?_
    refine R_region ?_
    refine J_load rfl rfl rfl rfl ?_
    refine J_nilCheck rfl rfl rfl ?_
    refine J_fieldAddr0 rfl rfl rfl ?_
    refine J_load rfl rfl rfl rfl ?_
    refine J_callr rfl (diskv_Flush W.d (setV W.V W.K) (W.k + 1 + (told W.K).length) (by omega) _) (by exact Gives.last (Take.next (Take.next (Take.next (Take.next (Take.next Take.here)))))) rfl rfl ?_
    refine J_assign rfl rfl rfl ?_
    refine J_nil3 ?_
    refine E_then ?_
    refine R_seq ?_
    refine R_region ?_
    refine J_move rfl rfl rfl ?_
    refine J_cmp rfl rfl rfl rfl rfl ?_
    refine J_nil2 ?_
    refine E_then ?_
    refine R_cond_false rfl ?_
    refine R_skip ?_
    refine E_then ?_
    refine R_seq ?_
    refine R_seq ?_
    refine R_region ?_
    refine J_load rfl rfl rfl rfl ?_
    refine J_loadA rfl rfl rfl rfl ?_
    refine J.open_ (α := Unit) (M := fun _ => wal b { W with V := setV W.V W.K, k := W.k + 1 + (told W.K).length + 1 } :: pt r (.deferred (some [])) :: cl c4 156 [.nilIface] :: cl c3 159 [.int .i64 g, .int .i64 q, .int .i64 a] :: cl c2 26 [.pointer (some ⟨b, 0, none⟩)] :: F)
      (fun w s => ⟨(), shut_wal (p := p) (by
        have s2 : Sat w (shH p.2.2 bk bl :: mpI bk W.K :: mpI bl W.Lo :: walH b W p :: reg p.1 W.d W.fr 2 :: reg p.2.1 W.d (W.fr + 2) (W.many - 2) :: dvk W.d (setV W.V W.K) (W.k + 1 + (told W.K).length + 1) :: pt r (.deferred (some [])) :: cl c4 156 [.nilIface] :: cl c3 159 [.int .i64 g, .int .i64 q, .int .i64 a] :: cl c2 26 [.pointer (some ⟨b, 0, none⟩)] :: F) := s.gives (by exact Gives.cons (Take.next (Take.next (Take.next (Take.next (Take.next (Take.next Take.here)))))) (Gives.cons (Take.next (Take.next (Take.next Take.here))) (Gives.cons (Take.next (Take.next (Take.next (Take.next (Take.next Take.here))))) (Gives.cons (Take.next (Take.next (Take.next (Take.next Take.here)))) (Gives.cons (Take.next (Take.next (Take.next (Take.next (Take.next (Take.next Take.here)))))) (Gives.cons (Take.next (Take.next (Take.next (Take.next (Take.next (Take.next Take.here)))))) (Gives.cons Take.here (Gives.cons Take.here (Gives.cons (Take.next (Take.next Take.here)) (Gives.cons (Take.next (Take.next Take.here)) (Gives.cons (Take.next Take.here) (Gives.drop Gives.refl))))))))))))
        have s3 := s2.gives gives_shd
        have s4 : Sat w (walH b W p :: reg p.1 W.d W.fr 2 :: reg p.2.1 W.d (W.fr + 2) (W.many - 2) :: shd p.2.2 W.K W.Lo :: dvk W.d (setV W.V W.K) (W.k + 1 + (told W.K).length + 1) :: pt r (.deferred (some [])) :: cl c4 156 [.nilIface] :: cl c3 159 [.int .i64 g, .int .i64 q, .int .i64 a] :: cl c2 26 [.pointer (some ⟨b, 0, none⟩)] :: F) := s3.gives (by exact Gives.cons (Take.next Take.here) (Gives.cons (Take.next Take.here) (Gives.last (Take.next Take.here))))
        exact s4)⟩) ?_
    rintro ⟨⟩
    refine J_callr rfl (wal_head b { W with V := setV W.V W.K, k := W.k + 1 + (told W.K).length + 1 } g q a hg (by dsimp only; omega) (by dsimp only; omega) _) (by exact Gives.refl) rfl rfl ?_
    refine J.open_ (fun w s => open_wal s) ?_
    rintro p'
    dsimp only [walL, List.cons_append, List.nil_append]
    refine J_assign rfl rfl rfl ?_
    refine J_nil3 ?_
    refine E_then ?_
    refine R_seq ?_
    refine R_region ?_
    refine J_move rfl rfl rfl ?_
    refine J_ifc_nil rfl rfl rfl rfl ?_
    refine J_nil2 ?_
    refine E_then ?_
    refine R_cond_false rfl ?_
    refine R_skip ?_
    refine E_then ?_
    refine R_seq ?_
    refine R_np ?_
    refine R_draw ([cl c3 159 [.int .i64 g, .int .i64 q, .int .i64 a], cl c2 26 [.pointer (some ⟨b, 0, none⟩)]]) [21] (by kernel_rfl) ?_
    (refine D_look (i := 0) rfl (by kernel_rfl) (by exact NP_noP) (by exact Gives.cons (Take.next (Take.next (Take.next (Take.next (Take.next (Take.next (Take.next Take.here))))))) (Gives.cons (Take.next (Take.next (Take.next (Take.next (Take.next (Take.next (Take.next Take.here))))))) Gives.nil)) (by exact Y_load rfl rfl) rfl rfl ?_)
    (refine D_look (i := 1) rfl (by kernel_rfl) (by exact NP_noP) (by exact Gives.cons (Take.next (Take.next (Take.next (Take.next (Take.next (Take.next (Take.next Take.here))))))) (Gives.cons (Take.next (Take.next (Take.next (Take.next (Take.next (Take.next (Take.next Take.here))))))) Gives.nil)) (by exact Y_load rfl rfl) rfl rfl ?_)
    (refine D_look (i := 2) rfl (by kernel_rfl) (by exact NP_noP) (by exact Gives.cons (Take.next (Take.next (Take.next (Take.next (Take.next (Take.next (Take.next Take.here))))))) (Gives.cons (Take.next (Take.next (Take.next (Take.next (Take.next (Take.next (Take.next Take.here))))))) Gives.nil)) (by exact Y_load rfl rfl) rfl rfl ?_)
    (refine D_look (i := 3) rfl (by kernel_rfl) (by exact NP_noP) (by exact Gives.cons (Take.next (Take.next (Take.next (Take.next (Take.next (Take.next (Take.next Take.here))))))) (Gives.cons (Take.next (Take.next (Take.next (Take.next (Take.next (Take.next (Take.next Take.here))))))) Gives.nil)) (by exact Y_load rfl rfl) rfl rfl ?_)
    (refine D_lookP (i := 4) rfl (by kernel_rfl) (by exact NP_noP) (by exact Y_fieldAddr0 rfl) rfl rfl ?_)
    (refine D_look (i := 5) rfl (by kernel_rfl) (by exact NP_noP) (by exact Gives.cons (Take.next (Take.next (Take.next (Take.next (Take.next (Take.next (Take.next Take.here))))))) (Gives.cons (Take.next (Take.next (Take.next (Take.next (Take.next (Take.next (Take.next Take.here))))))) Gives.nil)) (by exact Y_load rfl rfl) rfl rfl ?_)
    (refine D_lookP (i := 6) rfl (by kernel_rfl) (by exact NP_noP) (by exact Y_fieldAddr0 rfl) rfl rfl ?_)
    (refine D_look (i := 7) rfl (by kernel_rfl) (by exact NP_noP) (by exact Gives.cons (Take.next (Take.next (Take.next (Take.next (Take.next (Take.next (Take.next Take.here))))))) (Gives.cons (Take.next (Take.next (Take.next (Take.next (Take.next (Take.next (Take.next Take.here))))))) Gives.nil)) (by exact Y_load rfl rfl) rfl rfl ?_)
    (refine D_lookP (i := 8) rfl (by kernel_rfl) (by exact NP_noP) (by exact Y_fieldAddr0 rfl) rfl rfl ?_)
    (refine D_look (i := 9) rfl (by kernel_rfl) (by exact NP_noP) (by exact Gives.cons (Take.next (Take.next (Take.next (Take.next (Take.next (Take.next (Take.next Take.here))))))) (Gives.cons (Take.next (Take.next (Take.next (Take.next (Take.next (Take.next (Take.next Take.here))))))) Gives.nil)) (by exact Y_load rfl rfl) rfl rfl ?_)
    (refine D_lookP (i := 10) rfl (by kernel_rfl) (by exact NP_noP) (by exact Y_nilCheck rfl) rfl rfl ?_)
    (refine D_lookP (i := 11) rfl (by kernel_rfl) (by exact NP_noP) (by exact Y_fieldAddr0 rfl) rfl rfl ?_)
    refine D_try1 (i := 12) (by kernel_rfl) rfl ?_
    refine J_store rfl rfl rfl rfl ?_
    refine D_next (by exact Gives.cons (Take.next (Take.next (Take.next (Take.next (Take.next (Take.next (Take.next Take.here))))))) (Gives.cons (Take.next (Take.next (Take.next (Take.next (Take.next (Take.next (Take.next Take.here))))))) Gives.nil)) ?_
    (refine D_lookP (i := 13) rfl (by kernel_rfl) (by exact NP_noP) (by exact Y_nilCheck rfl) rfl rfl ?_)
    (refine D_lookP (i := 14) rfl (by kernel_rfl) (by exact NP_noP) (by exact Y_fieldAddr0 rfl) rfl rfl ?_)
    refine D_try1 (i := 15) (by kernel_rfl) rfl ?_
    refine J_store rfl rfl rfl rfl ?_
    refine D_next (by exact Gives.cons (Take.next (Take.next (Take.next (Take.next (Take.next (Take.next (Take.next Take.here))))))) (Gives.cons (Take.next (Take.next (Take.next (Take.next (Take.next (Take.next (Take.next Take.here))))))) Gives.nil)) ?_
    (refine D_lookP (i := 16) rfl (by kernel_rfl) (by exact NP_noP) (by exact Y_nilCheck rfl) rfl rfl ?_)
    (refine D_lookP (i := 17) rfl (by kernel_rfl) (by exact NP_noP) (by exact Y_fieldAddr0 rfl) rfl rfl ?_)
    refine D_try1 (i := 18) (by kernel_rfl) rfl ?_
    refine J_store rfl rfl rfl rfl ?_
    refine D_next (by exact Gives.cons (Take.next (Take.next (Take.next (Take.next (Take.next (Take.next (Take.next Take.here))))))) (Gives.cons (Take.next (Take.next (Take.next (Take.next (Take.next (Take.next (Take.next Take.here))))))) Gives.nil)) ?_
    (refine D_lookP (i := 19) rfl (by kernel_rfl) (by exact NP_noP) (by exact Y_nilCheck rfl) rfl rfl ?_)
    (refine D_lookP (i := 20) rfl (by kernel_rfl) (by exact NP_noP) (by exact Y_fieldAddr0 rfl) rfl rfl ?_)
    refine D_try1 (i := 21) (by kernel_rfl) rfl ?_
    refine J_store rfl rfl rfl rfl ?_
    refine D_last (by kernel_rfl) ?_
    (first | refine D_end1 (by kernel_rfl) ?_ | refine D_end (by kernel_rfl) ?_)
    refine E_noP ?_
    refine E_then ?_
    refine R_seq ?_
    refine R_region ?_
    refine J_load rfl rfl rfl rfl ?_
    refine J_nilCheck rfl rfl rfl ?_
    refine J_fieldAddr0 rfl rfl rfl ?_
    refine J_store rfl rfl rfl rfl ?_
    refine J_nil3 ?_
    refine E_then ?_
    refine R_seq ?_
    refine R_region ?_
    refine J_load rfl rfl rfl rfl ?_
    refine J_nilCheck rfl rfl rfl ?_
    refine J_fieldAddr0 rfl rfl rfl ?_
    refine J_load rfl rfl rfl rfl ?_
    refine J_callr rfl (shadow_Clear p'.2.2 W.K W.Lo _) (by exact Gives.last (Take.next (Take.next (Take.next Take.here)))) rfl rfl ?_
    refine J_nil3 ?_
    refine E_then ?_
    refine R_seq ?_
    refine R_region ?_
    refine J_store rfl rfl rfl rfl ?_
    refine J_nil ?_
    refine E_then ?_
    refine R_ret ?_
    dsimp only
    refine E.gives (M := pt r (.deferred (some [])) :: cl c4 156 [.nilIface] :: cl b 153 [.pointer (some ⟨W.d, 0, none⟩), .pointer (some ⟨p'.1, 0, none⟩), .pointer (some ⟨p'.2.1, 0, none⟩), .int .i64 W.fr, .int .i64 W.many, .int .i64 g, .int .i64 a, .int .i64 q, .int .i64 0, .bool W.act, .bool false, .pointer (some ⟨p'.2.2, 0, none⟩)] :: reg p'.1 W.d W.fr 2 :: reg p'.2.1 W.d (W.fr + 2) (W.many - 2) :: shd p'.2.2 [] W.Lo :: dvk W.d ((setV W.V W.K).set (W.fr + g % 2).toNat (headB g q a)) (W.k + 1 + (told W.K).length + 1 + 2) :: F) (by exact Gives.cons (Take.next (Take.next (Take.next (Take.next (Take.next Take.here))))) (Gives.cons (Take.next (Take.next (Take.next (Take.next (Take.next Take.here))))) (Gives.cons (Take.next Take.here) (Gives.cons (Take.next Take.here) (Gives.cons (Take.next Take.here) (Gives.cons Take.here (Gives.cons Take.here (Gives.drop (Gives.drop Gives.refl))))))))) ?_
    refine E_retM (R := cl c4 156 [.nilIface] :: cl b 153 [.pointer (some ⟨W.d, 0, none⟩), .pointer (some ⟨p'.1, 0, none⟩), .pointer (some ⟨p'.2.1, 0, none⟩), .int .i64 W.fr, .int .i64 W.many, .int .i64 g, .int .i64 a, .int .i64 q, .int .i64 0, .bool W.act, .bool false, .pointer (some ⟨p'.2.2, 0, none⟩)] :: reg p'.1 W.d W.fr 2 :: reg p'.2.1 W.d (W.fr + 2) (W.many - 2) :: shd p'.2.2 [] W.Lo :: dvk W.d ((setV W.V W.K).set (W.fr + g % 2).toNat (headB g q a)) (W.k + 1 + (told W.K).length + 1 + 2) :: F) Tryz.results95 Take.here (by exact Res_cell1 rfl rfl (Res.nil)) ?_
    intro w s
    refine ⟨rfl, shut_wal (p := p') ?_⟩
    have e : W.k + 1 + (told W.K).length + 1 + 2 = W.k + (told W.K).length + 4 := by omega
    rw [e] at s
    exact s.drop.drop
  · intro r
    exact E_no
end Go.Proofs.Sol
