/- Extents: over a disk that is none. -/
import Derived.Test.YtpemgmbfkobmeaaGreatDoorA5
namespace Go.Proofs.Sol
open Go Go.Proofs
set_option maxRecDepth 100000
set_option maxHeartbeats 4000000
set_option linter.unusedVariables false
set_option linter.unusedSimpArgs false
attribute [local irreducible] R J JW E D Fn Y clf mpI own Sat Exit.then Exit.inBlock bodyPost bodyPostM Code.wpIn wpL
theorem law20_ExtentNone (c : Cfg) (n : Int) (data : Bytes) (F : List HP) :
    Fn Tryz.prog 5 [cfgV c, .int .i64 n, .string (S data)] F (Pst (.bool true) F) := by
  refine Fn_enter Tryz.func5 rfl Tryz.ntmps5 rfl ?_
  refine R_seq ?_
  refine R_region ?_
  refine J_boxA rfl rfl rfl ?_; intro
  refine J_assign rfl rfl rfl ?_
  refine J_nil ?_
  refine E_then ?_
  refine R_seq ?_
  refine R_seq ?_
  refine R_region ?_
  refine J_callr rfl (law20_works _) (by exact Gives.refl) rfl rfl ?_
  refine J_un_not rfl rfl rfl ?_
  refine J_nil2 ?_
  refine E_then ?_
  refine R_cond_false rfl ?_
  refine R_skip ?_
  refine E_then ?_
  refine R_seq ?_
  refine R_region ?_
  refine J_loadA rfl rfl rfl rfl ?_
  refine J_move rfl rfl rfl ?_
  refine J_callr rfl (extent_Read0 c n _) (by exact Gives.refl) rfl rfl ?_
  refine J_move rfl rfl rfl ?_
  refine J_extract rfl rfl rfl rfl ?_
  refine J_extract rfl rfl rfl rfl ?_
  refine J_assign rfl rfl rfl ?_
  refine J_assign rfl rfl rfl ?_
  refine J_nil3 ?_
  refine E_then ?_
  refine R_seq ?_
  refine R_region ?_
  refine J_loadA rfl rfl rfl rfl ?_
  refine J_move rfl rfl rfl ?_
  refine J_callr rfl (layout_Extent c n _) (by exact Gives.refl) rfl rfl ?_
  by_cases h : chk c n c.E = 0
  · rw [h]
    simp only [if_true]
    by_cases hd : data.length = 128
    · refine J_move rfl rfl rfl ?_
      refine J_extract rfl rfl rfl rfl ?_
      refine J_extract rfl rfl rfl rfl ?_
      refine J_assign rfl rfl rfl ?_
      refine J_assign rfl rfl rfl ?_
      refine J_nil3 ?_
      refine E_then ?_
      refine R_seq ?_
      refine R_seq ?_
      refine R_region ?_
      refine J_move rfl rfl rfl ?_
      refine J_cmp rfl rfl rfl rfl rfl ?_
      refine J_nil2 ?_
      refine E_then ?_
      refine R_cond_true rfl ?_
      refine R_region ?_
      refine J_assign rfl rfl rfl ?_
      refine J_nil ?_
      refine E_then ?_
      refine R_seq ?_
      refine R_region ?_
      refine J_loadA rfl rfl rfl rfl ?_
      refine J_move rfl rfl rfl ?_
      refine J_move rfl rfl rfl ?_
      refine J_callr rfl (extent_Stage0 c n data _) (by exact Gives.refl) rfl rfl ?_
      rw [h, if_pos rfl, if_pos hd]
      refine J_assign rfl rfl rfl ?_
      refine J_nil3 ?_
      refine E_then ?_
      refine R_seq ?_
      refine R_region ?_
      refine J_move rfl rfl rfl ?_
      refine J_move rfl rfl rfl ?_
      refine J_cmp rfl rfl rfl rfl rfl ?_
      refine J_move rfl rfl rfl ?_
      refine J_guard rfl rfl rfl ?_
      refine J_move rfl rfl rfl ?_
      refine J_guard rfl rfl rfl ?_
      refine J_cmp rfl rfl rfl rfl rfl ?_
      refine J_guard rfl rfl rfl ?_
      refine J_move rfl rfl rfl ?_
      refine J_guard rfl rfl rfl ?_
      refine J_move rfl rfl rfl ?_
      refine J_guard rfl rfl rfl ?_
      refine J_cmp rfl rfl rfl rfl rfl ?_
      refine J_guard rfl rfl rfl ?_
      refine J_move rfl rfl rfl ?_
      refine J_guard_not rfl rfl rfl rfl rfl rfl ?_
      refine J_guard_not rfl rfl rfl rfl rfl rfl ?_
      refine J_guard_not rfl rfl rfl rfl rfl rfl ?_
      refine J_guard rfl rfl rfl ?_
      refine J_pick_false rfl rfl rfl rfl ?_
      refine J_guard rfl rfl rfl ?_
      refine J_pick_false rfl rfl rfl rfl ?_
      refine J_guard rfl rfl rfl ?_
      refine J_move rfl rfl rfl ?_
      refine J_guard rfl rfl rfl ?_
      refine J_move rfl rfl rfl ?_
      refine J_guard rfl rfl rfl ?_
      refine J_cmp rfl rfl rfl rfl rfl ?_
      refine J_guard rfl rfl rfl ?_
      refine J_move rfl rfl rfl ?_
      refine J_guard rfl rfl rfl ?_
      refine J_move rfl rfl rfl ?_
      refine J_guard rfl rfl rfl ?_
      refine J_len_str rfl rfl rfl ?_
      refine J_guard rfl rfl rfl ?_
      refine J_cmp rfl rfl rfl rfl rfl ?_
      refine J_guard rfl rfl rfl ?_
      refine J_pick_true rfl rfl rfl rfl ?_
      refine J_guard rfl rfl rfl ?_
      refine J_pick_false rfl rfl rfl rfl ?_
      refine J_pick_true rfl rfl rfl rfl ?_
      refine J_assign rfl rfl rfl ?_
      refine J_nil3 ?_
      refine E_then ?_
      refine R_ret ?_
      all_goals first
        | (apply E_retP Tryz.results5
           · exact Res.tmp rfl (Res.nil)
           · exact Gives.drop Gives.refl
           first | rfl | (simp [one, hd]; done))
        | exact absurd trivial hh
        | exact absurd rfl hh
        | (exfalso; omega)
    · refine J_move rfl rfl rfl ?_
      refine J_extract rfl rfl rfl rfl ?_
      refine J_extract rfl rfl rfl rfl ?_
      refine J_assign rfl rfl rfl ?_
      refine J_assign rfl rfl rfl ?_
      refine J_nil3 ?_
      refine E_then ?_
      refine R_seq ?_
      refine R_seq ?_
      refine R_region ?_
      refine J_move rfl rfl rfl ?_
      refine J_cmp rfl rfl rfl rfl rfl ?_
      refine J_nil2 ?_
      refine E_then ?_
      refine R_cond_true rfl ?_
      refine R_region ?_
      refine J_assign rfl rfl rfl ?_
      refine J_nil ?_
      refine E_then ?_
      refine R_seq ?_
      refine R_region ?_
      refine J_loadA rfl rfl rfl rfl ?_
      refine J_move rfl rfl rfl ?_
      refine J_move rfl rfl rfl ?_
      refine J_callr rfl (extent_Stage0 c n data _) (by exact Gives.refl) rfl rfl ?_
      rw [h, if_pos rfl, if_neg hd]
      refine J_assign rfl rfl rfl ?_
      refine J_nil3 ?_
      refine E_then ?_
      refine R_seq ?_
      refine R_region ?_
      refine J_move rfl rfl rfl ?_
      refine J_move rfl rfl rfl ?_
      refine J_cmp rfl rfl rfl rfl rfl ?_
      refine J_move rfl rfl rfl ?_
      refine J_guard rfl rfl rfl ?_
      refine J_move rfl rfl rfl ?_
      refine J_guard rfl rfl rfl ?_
      refine J_cmp rfl rfl rfl rfl rfl ?_
      refine J_guard rfl rfl rfl ?_
      refine J_move rfl rfl rfl ?_
      refine J_guard rfl rfl rfl ?_
      refine J_move rfl rfl rfl ?_
      refine J_guard rfl rfl rfl ?_
      refine J_cmp rfl rfl rfl rfl rfl ?_
      refine J_guard rfl rfl rfl ?_
      refine J_move rfl rfl rfl ?_
      refine J_guard rfl rfl rfl ?_
      refine J_move rfl rfl rfl ?_
      refine J_guard rfl rfl rfl ?_
      refine J_len_str rfl rfl rfl ?_
      refine J_guard rfl rfl rfl ?_
      refine J_cmp rfl rfl rfl rfl rfl ?_
      refine J_guard rfl rfl rfl ?_
      refine J_pick_true rfl rfl rfl rfl ?_
      refine J_guard rfl rfl rfl ?_
      refine J_pick_false rfl rfl rfl rfl ?_
      refine J_guard rfl rfl rfl ?_
      refine J_move rfl rfl rfl ?_
      refine J_guard_split rfl rfl (fun hh => ?_) (fun hh => ?_)
      simp only [decide_eq_true_eq, decide_eq_false_iff_not, Bool.and_eq_true, Bool.or_eq_true, Bool.not_eq_true', Bool.not_eq_false', beq_iff_eq, bne_iff_ne, beq_eq_false_iff_ne, bne_eq_false_iff_eq, ne_eq, ge_iff_le, gt_iff_lt, Int.not_le, Int.not_lt, Bool.and_eq_false_iff, Bool.or_eq_false_iff, Decidable.not_not] at hh
      refine J_guard_not rfl rfl rfl rfl rfl rfl ?_
      refine J_guard_not rfl rfl rfl rfl rfl rfl ?_
      refine J_guard_not rfl rfl rfl rfl rfl rfl ?_
      refine J_guard_notU rfl rfl rfl rfl rfl ?_
      refine J_guard_notU rfl rfl rfl rfl rfl ?_
      refine J_guard_notU rfl rfl rfl rfl rfl ?_
      refine J_guard_not rfl rfl rfl rfl rfl rfl ?_
      refine J_guard rfl rfl rfl ?_
      refine J_pick_true rfl rfl rfl rfl ?_
      refine J_pick_true rfl rfl rfl rfl ?_
      refine J_assign rfl rfl rfl ?_
      refine J_nil3 ?_
      refine E_then ?_
      refine R_ret ?_
      rotate_left
      simp only [decide_eq_true_eq, decide_eq_false_iff_not, Bool.and_eq_true, Bool.or_eq_true, Bool.not_eq_true', Bool.not_eq_false', beq_iff_eq, bne_iff_ne, beq_eq_false_iff_ne, bne_eq_false_iff_eq, ne_eq, ge_iff_le, gt_iff_lt, Int.not_le, Int.not_lt, Bool.and_eq_false_iff, Bool.or_eq_false_iff, Decidable.not_not] at hh
      exfalso; omega
      all_goals first
        | (apply E_retP Tryz.results5
           · exact Res.tmp rfl (Res.nil)
           · exact Gives.drop Gives.refl
           first | rfl | (simp [one, hd]; done))
        | exact absurd trivial hh
        | exact absurd rfl hh
        | (exfalso; omega)
  · have h' := chk_no h
    rw [h']
    simp only [show ¬((3 : Int) = 0) by omega, if_false]
    refine J_move rfl rfl rfl ?_
    refine J_extract rfl rfl rfl rfl ?_
    refine J_extract rfl rfl rfl rfl ?_
    refine J_assign rfl rfl rfl ?_
    refine J_assign rfl rfl rfl ?_
    refine J_nil3 ?_
    refine E_then ?_
    refine R_seq ?_
    refine R_seq ?_
    refine R_region ?_
    refine J_move rfl rfl rfl ?_
    refine J_cmp rfl rfl rfl rfl rfl ?_
    refine J_nil2 ?_
    refine E_then ?_
    refine R_cond_false rfl ?_
    refine R_skip ?_
    refine E_then ?_
    refine R_seq ?_
    refine R_region ?_
    refine J_loadA rfl rfl rfl rfl ?_
    refine J_move rfl rfl rfl ?_
    refine J_move rfl rfl rfl ?_
    refine J_callr rfl (extent_Stage0 c n data _) (by exact Gives.refl) rfl rfl ?_
    rw [h', if_neg (by omega)]
    refine J_assign rfl rfl rfl ?_
    refine J_nil3 ?_
    refine E_then ?_
    refine R_seq ?_
    refine R_region ?_
    refine J_move rfl rfl rfl ?_
    refine J_move rfl rfl rfl ?_
    refine J_cmp rfl rfl rfl rfl rfl ?_
    refine J_move rfl rfl rfl ?_
    refine J_guard rfl rfl rfl ?_
    refine J_move rfl rfl rfl ?_
    refine J_guard rfl rfl rfl ?_
    refine J_cmp rfl rfl rfl rfl rfl ?_
    refine J_guard rfl rfl rfl ?_
    refine J_move rfl rfl rfl ?_
    refine J_guard_not rfl rfl rfl rfl rfl rfl ?_
    refine J_guard_not rfl rfl rfl rfl rfl rfl ?_
    refine J_guard_not rfl rfl rfl rfl rfl rfl ?_
    refine J_guard_notU rfl rfl rfl rfl rfl ?_
    refine J_guard_notU rfl rfl rfl rfl rfl ?_
    refine J_guard_notU rfl rfl rfl rfl rfl ?_
    refine J_guard_not rfl rfl rfl rfl rfl rfl ?_
    refine J_guard rfl rfl rfl ?_
    refine J_pick_true rfl rfl rfl rfl ?_
    refine J_guard rfl rfl rfl ?_
    refine J_move rfl rfl rfl ?_
    refine J_guard_not rfl rfl rfl rfl rfl rfl ?_
    refine J_guard_not rfl rfl rfl rfl rfl rfl ?_
    refine J_guard_not rfl rfl rfl rfl rfl rfl ?_
    refine J_guard_notU rfl rfl rfl rfl rfl ?_
    refine J_guard_notU rfl rfl rfl rfl rfl ?_
    refine J_guard_notU rfl rfl rfl rfl rfl ?_
    refine J_guard_not rfl rfl rfl rfl rfl rfl ?_
    refine J_guard rfl rfl rfl ?_
    refine J_pick_true rfl rfl rfl rfl ?_
    refine J_pick_true rfl rfl rfl rfl ?_
    refine J_assign rfl rfl rfl ?_
    refine J_nil3 ?_
    refine E_then ?_
    refine R_ret ?_
    all_goals first
      | (apply E_retP Tryz.results5
         · exact Res.tmp rfl (Res.nil)
         · exact Gives.drop Gives.refl
         rfl)
      | exact absurd trivial hh
      | exact absurd rfl hh
      | (exfalso; omega)
end Go.Proofs.Sol
