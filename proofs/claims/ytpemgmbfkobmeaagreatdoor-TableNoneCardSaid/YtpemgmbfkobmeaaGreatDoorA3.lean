/- Fields: numbers as bytes. -/
import Derived.Test.YtpemgmbfkobmeaaGreatDoorA2
import Derived.Test.YtpemgmbfkobmeaaGreatDoorA1
import Derived.Maps.RangeRun
import Derived.RangeFuncIn
namespace Go.Proofs.Sol
open Go Go.Proofs
set_option maxRecDepth 100000
set_option maxHeartbeats 4000000
set_option linter.unusedVariables false
set_option linter.unusedSimpArgs false
attribute [local irreducible] R J JW E D Fn Y clf mpI own Sat Exit.then Exit.inBlock bodyPost bodyPostM Code.wpIn wpL
theorem byte_val (n : Int) (h : 0 ≤ n) : Value.int .u8 (IntKind.u8.wrap n) = byv (UInt8.ofNat n.toNat) := by
  unfold byv
  rw [IntKind.wrap_u8]
  congr 1
  simp only [UInt8.toNat_ofNat']
  omega
theorem field_width (x : Int) (F : List HP) : Fn Tryz.prog 192 [.int .i64 x] F (Pst (.bool (decide (1 ≤ x) && decide (x ≤ 7))) F) := by
  refine Fn_enter Tryz.func192 rfl Tryz.ntmps192 rfl ?_
  refine R_seq ?_
  refine R_region ?_
  refine J_assign rfl rfl rfl ?_
  refine J_nil ?_
  refine E_then ?_
  refine R_seq ?_
  refine R_region ?_
  refine J_move rfl rfl rfl ?_
  refine J_cmp rfl rfl rfl rfl rfl ?_
  refine J_move rfl rfl rfl ?_
  refine J_guard_split rfl rfl (fun hh => ?_) (fun hh => ?_)
  simp only [decide_eq_true_eq, decide_eq_false_iff_not, Bool.and_eq_true, Bool.or_eq_true, Bool.not_eq_true', Bool.not_eq_false', beq_iff_eq, bne_iff_ne, beq_eq_false_iff_ne, bne_eq_false_iff_eq, ne_eq, ge_iff_le, gt_iff_lt, Int.not_le, Int.not_lt, Bool.and_eq_false_iff, Bool.or_eq_false_iff, Decidable.not_not] at hh
  refine J_guard rfl rfl rfl ?_
  refine J_move rfl rfl rfl ?_
  refine J_guard rfl rfl rfl ?_
  refine J_cmp rfl rfl rfl rfl rfl ?_
  refine J_pick_true rfl rfl rfl rfl ?_
  refine J_assign rfl rfl rfl ?_
  refine J_nil3 ?_
  refine E_then ?_
  refine R_ret ?_
  rotate_left
  simp only [decide_eq_true_eq, decide_eq_false_iff_not, Bool.and_eq_true, Bool.or_eq_true, Bool.not_eq_true', Bool.not_eq_false', beq_iff_eq, bne_iff_ne, beq_eq_false_iff_ne, bne_eq_false_iff_eq, ne_eq, ge_iff_le, gt_iff_lt, Int.not_le, Int.not_lt, Bool.and_eq_false_iff, Bool.or_eq_false_iff, Decidable.not_not] at hh
  refine J_guard_not rfl rfl rfl rfl rfl rfl ?_
  refine J_guard_not rfl rfl rfl rfl rfl rfl ?_
  refine J_pick_false rfl rfl rfl rfl ?_
  refine J_assign rfl rfl rfl ?_
  refine J_nil3 ?_
  refine E_then ?_
  refine R_ret ?_
  rotate_left
  all_goals
    apply E_retP Tryz.results192
    · exact Res.tmp rfl (Res.nil)
    · (repeat (with_reducible exact Gives.refl))
    (first | (simp_all [one]; done) | (simp_all [one]; omega))
theorem field_Fits (x size : Int) (hx : -9223372036854775808 ≤ x ∧ x < 9223372036854775808) (F : List HP) : Fn Tryz.prog 187 [.int .i64 x, .int .i64 size] F (Pst (.bool (fitsB x size)) F) := by
  refine Fn_enter Tryz.func187 rfl Tryz.ntmps187 rfl ?_
  refine R_seq ?_
  refine R_region ?_
  refine J_assign rfl rfl rfl ?_
  refine J_nil ?_
  refine E_then ?_
  refine R_seq ?_
  refine R_region ?_
  refine J_move rfl rfl rfl ?_
  refine J_callr rfl (field_width _ _) (by exact Gives.refl) rfl rfl ?_
  refine J_move rfl rfl rfl ?_
  refine J_guard_split rfl rfl (fun hh => ?_) (fun hh => ?_)
  simp only [decide_eq_true_eq, decide_eq_false_iff_not, Bool.and_eq_true, Bool.or_eq_true, Bool.not_eq_true', Bool.not_eq_false', beq_iff_eq, bne_iff_ne, beq_eq_false_iff_ne, bne_eq_false_iff_eq, ne_eq, ge_iff_le, gt_iff_lt, Int.not_le, Int.not_lt, Bool.and_eq_false_iff, Bool.or_eq_false_iff, Decidable.not_not] at hh
  refine J_guard rfl rfl rfl ?_
  refine J_move rfl rfl rfl ?_
  refine J_guard rfl rfl rfl ?_
  refine J_cmp rfl rfl rfl rfl rfl ?_
  refine J_pick_true rfl rfl rfl rfl ?_
  refine J_move rfl rfl rfl ?_
  refine J_guard_split rfl rfl (fun hh => ?_) (fun hh => ?_)
  simp only [decide_eq_true_eq, decide_eq_false_iff_not, Bool.and_eq_true, Bool.or_eq_true, Bool.not_eq_true', Bool.not_eq_false', beq_iff_eq, bne_iff_ne, beq_eq_false_iff_ne, bne_eq_false_iff_eq, ne_eq, ge_iff_le, gt_iff_lt, Int.not_le, Int.not_lt, Bool.and_eq_false_iff, Bool.or_eq_false_iff, Decidable.not_not] at hh
  refine J_guard rfl rfl rfl ?_
  refine J_move rfl rfl rfl ?_
  refine J_guard rfl rfl rfl ?_
  refine J_move rfl rfl rfl ?_
  refine J_guard rfl rfl rfl ?_
  refine J_ari64 rfl rfl rfl (by omega) rfl rfl ?_
  refine J_guard rfl rfl rfl ?_
  refine J_shift rfl rfl rfl (by omega) rfl rfl ?_
  refine J_guard rfl rfl rfl ?_
  refine J_cmp rfl rfl rfl rfl rfl ?_
  refine J_pick_true rfl rfl rfl rfl ?_
  refine J_assign rfl rfl rfl ?_
  refine J_nil3 ?_
  refine E_then ?_
  refine R_ret ?_
  rotate_left
  simp only [decide_eq_true_eq, decide_eq_false_iff_not, Bool.and_eq_true, Bool.or_eq_true, Bool.not_eq_true', Bool.not_eq_false', beq_iff_eq, bne_iff_ne, beq_eq_false_iff_ne, bne_eq_false_iff_eq, ne_eq, ge_iff_le, gt_iff_lt, Int.not_le, Int.not_lt, Bool.and_eq_false_iff, Bool.or_eq_false_iff, Decidable.not_not] at hh
  refine J_guard_not rfl rfl rfl rfl rfl rfl ?_
  refine J_guard_not rfl rfl rfl rfl rfl rfl ?_
  refine J_guard_not rfl rfl rfl rfl rfl rfl ?_
  refine J_guard_not rfl rfl rfl rfl rfl rfl ?_
  refine J_guard_not rfl rfl rfl rfl rfl rfl ?_
  refine J_pick_false rfl rfl rfl rfl ?_
  refine J_assign rfl rfl rfl ?_
  refine J_nil3 ?_
  refine E_then ?_
  refine R_ret ?_
  rotate_left
  simp only [decide_eq_true_eq, decide_eq_false_iff_not, Bool.and_eq_true, Bool.or_eq_true, Bool.not_eq_true', Bool.not_eq_false', beq_iff_eq, bne_iff_ne, beq_eq_false_iff_ne, bne_eq_false_iff_eq, ne_eq, ge_iff_le, gt_iff_lt, Int.not_le, Int.not_lt, Bool.and_eq_false_iff, Bool.or_eq_false_iff, Decidable.not_not] at hh
  refine J_guard_not rfl rfl rfl rfl rfl rfl ?_
  refine J_guard_not rfl rfl rfl rfl rfl rfl ?_
  refine J_pick_false rfl rfl rfl rfl ?_
  refine J_move rfl rfl rfl ?_
  refine J_guard_not rfl rfl rfl rfl rfl rfl ?_
  refine J_guard_not rfl rfl rfl rfl rfl rfl ?_
  refine J_guard_not rfl rfl rfl rfl rfl rfl ?_
  refine J_guard_not rfl rfl rfl rfl rfl rfl ?_
  refine J_guard_not rfl rfl rfl rfl rfl rfl ?_
  refine J_pick_false rfl rfl rfl rfl ?_
  refine J_assign rfl rfl rfl ?_
  refine J_nil3 ?_
  refine E_then ?_
  refine R_ret ?_
  rotate_left
  · apply E_retP Tryz.results187
    · exact Res.tmp rfl (Res.nil)
    · exact Gives.refl
    have h1 : 1 ≤ size ∧ size ≤ 7 := by simp_all
    show Value.bool _ = _
    have e64 : IntKind.i64.bits = 64 := rfl
    rw [e64, shr_zero (by omega) h1.1 h1.2]
    simp [fitsB, h1]
    omega
  all_goals
    apply E_retP Tryz.results187
    · exact Res.tmp rfl (Res.nil)
    · (repeat (with_reducible exact Gives.refl))
    simp [one, fitsB]
    try omega
theorem field_Put (s : List UInt8) (x size : Int) (hs : s.length < 1000000000000) (hx : -9223372036854775808 ≤ x ∧ x < 9223372036854775808) (F : List HP) : Fn Tryz.prog 121 [.string (S s), .int .i64 x, .int .i64 size] F (Pst (.string (S (putF s x size))) F) := by
  refine Fn_enter Tryz.func121 rfl Tryz.ntmps121 rfl ?_
  refine R_seq ?_
  refine R_region ?_
  refine J_assign rfl rfl rfl ?_
  refine J_nil ?_
  refine E_then ?_
  refine R_seq ?_
  refine R_seq ?_
  refine R_region ?_
  refine J_move rfl rfl rfl ?_
  refine J_move rfl rfl rfl ?_
  refine J_callr rfl (field_Fits _ _ hx _) (by exact Gives.refl) rfl rfl ?_
  by_cases hf : fitsB x size = true
  · obtain ⟨h1, h2, h3, h4, h5⟩ := fitsB_spec hf
    simp only [hf]
    refine J_un_not rfl rfl rfl ?_
    refine J_nil3 ?_
    refine E_then ?_
    refine R_cond_false rfl ?_
    refine R_skip ?_
    refine E_then ?_
    refine R_seq ?_
    refine R_region ?_
    refine J_move rfl rfl rfl ?_
    refine J_makeSlice rfl rfl (by omega) (by omega) (by omega) rfl rfl ?_; intro b
    refine J_assign rfl rfl rfl ?_
    refine J_nil2 ?_
    refine E_then ?_
    refine R_seq ?_
    refine R_seq ?_
    refine R_region ?_
    refine J_move rfl rfl rfl ?_
    refine J_len_slice rfl rfl rfl ?_
    refine J_move rfl rfl rfl ?_
    refine J_nil3 ?_
    refine E_then ?_
    refine R_block ?_
    rw [zeroRow_one]
    refine R_loop (X := {k : Nat // k ≤ size.toNat}) (fun k => [(18, .int .i64 (k.1 : Int)), (17, .int .i64 (size.toNat : Int)), (7, .slice (some ⟨b, 0, none⟩) size.toNat size.toNat), (6, .string (S [])), (0, .string (S s)), (1, .int .i64 x), (2, .int .i64 size)])
      (fun k => cl b 5 (((be x.toNat size.toNat).take k.1).map byv ++ List.replicate (size.toNat - k.1) (.int .u8 0)) :: F) (fun k => size.toNat - k.1) ⟨0, Nat.zero_le _⟩ (by exact sub_cons rfl (sub_cons rfl (sub_cons rfl (sub_cons rfl (sub_cons rfl (sub_cons rfl (sub_cons rfl sub_nil))))))) ?_ ?_
    · simp only [List.take_zero, List.map_nil, List.nil_append, Nat.sub_zero, Nat.mul_one]; exact Gives.refl
    · rintro ⟨k, hk⟩
      dsimp only
      refine R_seq ?_
      refine R_region ?_
      refine J_cmp rfl rfl rfl rfl rfl ?_
      refine J_nil1 ?_
      refine E_then ?_
      refine R_seq ?_
      refine R_cond rfl (fun hh => ?_) (fun hh => ?_)
      simp only [decide_eq_true_eq, decide_eq_false_iff_not, Bool.and_eq_true, Bool.or_eq_true, Bool.not_eq_true', Bool.not_eq_false', beq_iff_eq, bne_iff_ne, beq_eq_false_iff_ne, bne_eq_false_iff_eq, ne_eq, ge_iff_le, gt_iff_lt, Int.not_le, Int.not_lt, Bool.and_eq_false_iff, Bool.or_eq_false_iff, Decidable.not_not] at hh
      refine R_skip ?_
      refine E_then ?_
      refine R_seq ?_
      refine R_block ?_
      refine R_seq ?_
      refine R_region ?_
      refine J_move rfl rfl rfl ?_
      refine J_assign rfl rfl rfl ?_
      refine J_nil1 ?_
      refine E_then ?_
      refine R_region ?_
      refine J_move rfl rfl rfl ?_
      refine J_move rfl rfl rfl ?_
      refine J_move rfl rfl rfl ?_
      refine J_move rfl rfl rfl ?_
      refine J_ari64 rfl rfl rfl (by omega) rfl rfl ?_
      refine J_move rfl rfl rfl ?_
      refine J_ari64 rfl rfl rfl (by omega) rfl rfl ?_
      refine J_ari64 rfl rfl rfl (by omega) rfl rfl ?_
      refine J_shift rfl rfl rfl (by omega) rfl rfl ?_
      refine J_conv rfl rfl rfl ?_
      refine J_indexAddr rfl rfl (by omega) (by omega) rfl rfl ?_
      rotate_left
      simp only [decide_eq_true_eq, decide_eq_false_iff_not, Bool.and_eq_true, Bool.or_eq_true, Bool.not_eq_true', Bool.not_eq_false', beq_iff_eq, bne_iff_ne, beq_eq_false_iff_ne, bne_eq_false_iff_eq, ne_eq, ge_iff_le, gt_iff_lt, Int.not_le, Int.not_lt, Bool.and_eq_false_iff, Bool.or_eq_false_iff, Decidable.not_not] at hh
      refine R_exit ?_
      refine E_then_exit ?_
      refine E_then_exit ?_
      refine E_block_hit ?_
      refine E_then ?_
      refine R_seq ?_
      refine R_region ?_
      refine J_move rfl rfl rfl ?_
      refine J_move rfl rfl rfl ?_
      rotate_left
      · have e1 : (0 + (k : Int).toNat * 1) = k := by omega
        have hb := be_get x.toNat size.toNat k (by omega)
        have e64 : IntKind.i64.bits = 64 := rfl
        have e2 : min (8 * (size - 1 - (k : Int))).toNat IntKind.i64.bits = 8 * (size.toNat - 1 - k) := by rw [e64]; omega
        have e3 : IntKind.u8.wrap (x.fdiv (2 ^ min (8 * (size - 1 - (k : Int))).toNat IntKind.i64.bits)) = ((UInt8.ofNat (x.toNat / 256 ^ (size.toNat - 1 - k))).toNat : Int) := by
          rw [e2, shr_pow x h3, IntKind.wrap_u8]
          simp only [UInt8.toNat_ofNat']
          omega
        rw [e1, e3]
        refine J_storeX (vs' := ((be x.toNat size.toNat).take (k + 1)).map byv ++ List.replicate (size.toNat - (k + 1)) (.int .u8 0)) rfl rfl rfl ?_ ?_ ?_
        · simp [be_length]; omega
        · rw [List.map_take, List.map_take]
          exact set_next _ _ _ _ (by simp [be_length]) (by omega) _ (by simp [hb, byv])
        · refine J_nil3 ?_
          refine E_block_normal ?_
          refine E_then ?_
          refine R_region ?_
          refine J_ari64 rfl rfl rfl (by omega) rfl rfl ?_
          refine J_moveg rfl rfl rfl ?_
          refine J_nil1 ?_
          exact E_thenI fun a w he hs => ⟨⟨k + 1, by omega⟩, by simp; omega, he.sub (by exact sub_cons rfl (sub_cons rfl (sub_cons rfl (sub_cons rfl (sub_cons rfl (sub_cons rfl (sub_cons rfl sub_nil))))))), hs.gives (by exact Gives.refl)⟩
      · have e : k = size.toNat := by omega
        subst e
        refine J_bytesToStr (cs := be x.toNat size.toNat) rfl (by simp [be_length]) (by simp [be_length, List.take_of_length_le]) rfl rfl ?_
        have hl := be_length x.toNat size.toNat
        refine J_str_add rfl rfl (by omega) rfl rfl ?_
        refine J_assign rfl rfl rfl ?_
        refine J_nil3 ?_
        refine E_then ?_
        refine R_ret ?_
        apply E_retP Tryz.results121
        · exact Res.tmp rfl (Res.nil)
        · exact Gives.drop Gives.refl
        simp [one, putF, hf]
  · rw [Bool.not_eq_true] at hf
    simp only [hf]
    refine J_un_not rfl rfl rfl ?_
    refine J_nil3 ?_
    refine E_then ?_
    refine R_cond_true rfl ?_
    refine R_seq ?_
    refine R_region ?_
    refine J_move rfl rfl rfl ?_
    refine J_assign rfl rfl rfl ?_
    refine J_nil1 ?_
    refine E_then ?_
    refine R_ret ?_
    refine E_then_ret ?_
    apply E_retP Tryz.results121
    · exact Res.tmp rfl (Res.nil)
    · exact Gives.refl
    simp [one, putF, hf]
end Go.Proofs.Sol

/- Rules for unsigned numbers of 32 bits, as vectors of bits. -/
namespace Go.Proofs.Sol
open Go
/-- A vector of 32 bits as a value. -/
def u32v (x : BitVec 32) : Value := .int .u32 (x.toNat : Int)
theorem ofInt32 (x : BitVec 32) : BitVec.ofInt 32 (x.toNat : Int) = x := by
  apply BitVec.eq_of_toNat_eq
  simp
theorem wrap_u32 (n : Int) : IntKind.u32.wrap n = n % 4294967296 := by simp [IntKind.wrap, IntKind.bits, IntKind.signed]
theorem wrap32_nat (x : BitVec 32) : IntKind.u32.wrap (x.toNat : Int) = (x.toNat : Int) := by
  rw [wrap_u32]; have := x.isLt; omega
def bit32 : BinOp → BitVec 32 → BitVec 32 → Option (BitVec 32)
  | .and, x, y => some (x &&& y)
  | .or, x, y => some (x ||| y)
  | .xor, x, y => some (x ^^^ y)
  | _, _, _ => none
theorem bitI32 {op : BinOp} {x y z : BitVec 32} (h : bit32 op x y = some z) : bitI op .u32 (x.toNat : Int) (y.toNat : Int) = (z.toNat : Int) := by
  cases op <;> simp only [bit32] at h <;> first
    | (cases h; done)
    | (cases h
       first
        | (show IntKind.u32.wrap ((BitVec.ofInt 32 (x.toNat : Int) &&& BitVec.ofInt 32 (y.toNat : Int)).toNat : Int) = _; rw [ofInt32, ofInt32, wrap32_nat]; done)
        | (show IntKind.u32.wrap ((BitVec.ofInt 32 (x.toNat : Int) ||| BitVec.ofInt 32 (y.toNat : Int)).toNat : Int) = _; rw [ofInt32, ofInt32, wrap32_nat]; done)
        | (show IntKind.u32.wrap ((BitVec.ofInt 32 (x.toNat : Int) ^^^ BitVec.ofInt 32 (y.toNat : Int)).toNat : Int) = _; rw [ofInt32, ofInt32, wrap32_nat]; done))
section
variable {P : Program} {ops : Array Oper} {rest : List Oper} {n : NT} {l g : Env} {L M : List HP} {Q : QT} {d ty : Nat} {pos : String} {aft : Array Edge}
theorem J_bits32 {op : BinOp} {T T' : Nat} {x y : Operand} {i j : Int} (a b : BitVec 32) {c : BitVec 32} (hx : ev l g x = some (.int .u32 i)) (hy : ev l g y = some (.int .u32 j)) (hi : i = (a.toNat : Int)) (hj : j = (b.toNat : Int)) (hc : bit32 op a b = some c)
    (hd : Nat.blt d n.sz = true) (hn : look g d = none)
    (h : J P ops rest n ((d, u32v c) :: l) g L Q) : J P ops (⟨some d, .binOp op T x y T', ty, pos, aft, none⟩ :: rest) n l g L Q := by
  subst hi; subst hj
  refine J_bits hx hy (by cases op <;> first | rfl | (cases hc; done)) hd hn ?_
  rw [bitI32 hc]; exact h
theorem J_shr32 {T T' : Nat} {x y : Operand} {i j : Int} {k' : IntKind} (a : BitVec 32) (hx : ev l g x = some (.int .u32 i)) (hy : ev l g y = some (.int k' j)) (hi : i = (a.toNat : Int)) (hj : 0 ≤ j ∧ j < 32)
    (hd : Nat.blt d n.sz = true) (hn : look g d = none)
    (h : J P ops rest n ((d, u32v (a >>> j.toNat)) :: l) g L Q) : J P ops (⟨some d, .binOp .shr T x y T', ty, pos, aft, none⟩ :: rest) n l g L Q := by
  subst hi
  refine J_shift hx hy rfl (by omega) hd hn ?_
  have e : ((a.toNat : Int)).fdiv (2 ^ (min j.toNat IntKind.u32.bits)) = ((a >>> j.toNat).toNat : Int) := by
    have e2 : min j.toNat IntKind.u32.bits = j.toNat := by
      have : IntKind.u32.bits = 32 := rfl
      omega
    rw [e2, BitVec.toNat_ushiftRight, Nat.shiftRight_eq_div_pow, Int.fdiv_eq_ediv_of_nonneg _ (by have : (0 : Int) < 2 ^ j.toNat := Int.pow_pos (by omega); omega)]
    simp
  rw [e]; exact h
theorem J_neg32 {T : Nat} {x : Operand} {i : Int} (a : BitVec 32) (hx : ev l g x = some (.int .u32 i)) (hi : i = (a.toNat : Int)) (hd : Nat.blt d n.sz = true) (hn : look g d = none)
    (h : J P ops rest n ((d, u32v (-a)) :: l) g L Q) : J P ops (⟨some d, .unOp .neg T x, ty, pos, aft, none⟩ :: rest) n l g L Q := by
  subst hi
  refine J_neg hx hd hn ?_
  have e : IntKind.u32.wrap (0 - (a.toNat : Int)) = ((-a).toNat : Int) := by
    rw [wrap_u32, BitVec.toNat_neg]
    have := a.isLt
    omega
  rw [e]; exact h
theorem J_conv32 {s t : Nat} {x : Operand} {c : UInt8} {ds : TypeDesc} [u : UL P s ds] [v : UL P t (.int .u32)] (hx : ev l g x = some (byv c)) (hd : Nat.blt d n.sz = true) (hn : look g d = none)
    (h : J P ops rest n ((d, u32v (c.toBitVec.zeroExtend 32)) :: l) g L Q) : J P ops (⟨some d, .convert s t x, ty, pos, aft, none⟩ :: rest) n l g L Q := by
  refine J_conv (k := .u8) (k' := .u32) hx hd hn ?_
  have e : IntKind.u32.wrap (c.toNat : Int) = ((c.toBitVec.zeroExtend 32).toNat : Int) := by
    rw [wrap_u32]; have := c.toNat_lt
    simp
    omega
  rw [e]; exact h
end
/-- One bit of a division. -/
def crcBit (n : BitVec 32) : BitVec 32 := (n >>> 1) ^^^ (0xEDB88320#32 &&& -(n &&& 1#32))
def iter {α : Type} (f : α → α) : Nat → α → α
  | 0, x => x
  | k + 1, x => f (iter f k x)
def crcStep (n : BitVec 32) (c : UInt8) : BitVec 32 := iter crcBit 8 (n ^^^ c.toBitVec.zeroExtend 32)
def crcRaw (n : BitVec 32) (s : List UInt8) : BitVec 32 := s.foldl crcStep n
/-- The sum of bytes. -/
def crc (s : List UInt8) : BitVec 32 := crcRaw 0xFFFFFFFF#32 s ^^^ 0xFFFFFFFF#32
/-- A number's bytes, the least first. -/
def le4 (n : Nat) : List UInt8 := [UInt8.ofNat n, UInt8.ofNat (n / 256), UInt8.ofNat (n / 65536), UInt8.ofNat (n / 16777216)]
def tail (s : List UInt8) : List UInt8 := le4 (crc s).toNat
theorem tail_length (s : List UInt8) : (tail s).length = 4 := rfl
end Go.Proofs.Sol

/- Sums of bytes. -/
namespace Go.Proofs.Sol
open Go Go.Proofs
set_option maxRecDepth 100000
set_option maxHeartbeats 4000000
set_option linter.unusedVariables false
set_option linter.unusedSimpArgs false
attribute [local irreducible] R J JW E D Fn Y clf mpI own Sat Exit.then Exit.inBlock bodyPost bodyPostM Code.wpIn wpL
theorem cyclic_step (x : BitVec 32) (c : UInt8) (F : List HP) : Fn Tryz.prog 246 [u32v x, byv c] F (Pst (u32v (crcStep x c)) F) := by
  refine Fn_enter Tryz.func246 rfl Tryz.ntmps246 rfl ?_
  refine R_seq ?_
  refine R_region ?_
  refine J_assign rfl rfl rfl ?_
  refine J_nil ?_
  refine E_then ?_
  refine R_seq ?_
  refine R_region ?_
  refine J_move rfl rfl rfl ?_
  refine J_move rfl rfl rfl ?_
  refine J_conv32 rfl rfl rfl ?_
  refine J_bits32 x (c.toBitVec.zeroExtend 32) rfl rfl rfl rfl rfl rfl rfl ?_
  refine J_assign rfl rfl rfl ?_
  refine J_nil3 ?_
  refine E_then ?_
  refine R_seq ?_
  refine R_seq ?_
  refine R_region ?_
  refine J_move rfl rfl rfl ?_
  refine J_nil1 ?_
  refine E_then ?_
  refine R_block ?_
  refine R_loop (X := {k : Nat // k ≤ 8}) (fun k => [(9, .int .i64 (k.1 : Int)), (0, u32v (iter crcBit k.1 (x ^^^ c.toBitVec.zeroExtend 32)))]) (fun _ => F) (fun k => 8 - k.1) ⟨0, by omega⟩ (by exact sub_cons rfl (sub_cons rfl sub_nil)) Gives.refl ?_
  rintro ⟨k, hk⟩
  dsimp only
  generalize hy : iter crcBit k (x ^^^ c.toBitVec.zeroExtend 32) = y
  refine R_seq ?_
  refine R_region ?_
  refine J_cmp rfl rfl rfl rfl rfl ?_
  refine J_nil1 ?_
  refine E_then ?_
  refine R_seq ?_
  refine R_cond rfl (fun hh => ?_) (fun hh => ?_)
  simp only [decide_eq_true_eq, decide_eq_false_iff_not, Bool.and_eq_true, Bool.or_eq_true, Bool.not_eq_true', Bool.not_eq_false', beq_iff_eq, bne_iff_ne, beq_eq_false_iff_ne, bne_eq_false_iff_eq, ne_eq, ge_iff_le, gt_iff_lt, Int.not_le, Int.not_lt, Bool.and_eq_false_iff, Bool.or_eq_false_iff, Decidable.not_not] at hh
  refine R_skip ?_
  refine E_then ?_
  refine R_seq ?_
  refine R_block ?_
  refine R_region ?_
  refine J_move rfl rfl rfl ?_
  refine J_shr32 (j := 1) y rfl rfl rfl (by omega) rfl rfl ?_
  refine J_move rfl rfl rfl ?_
  rotate_left
  simp only [decide_eq_true_eq, decide_eq_false_iff_not, Bool.and_eq_true, Bool.or_eq_true, Bool.not_eq_true', Bool.not_eq_false', beq_iff_eq, bne_iff_ne, beq_eq_false_iff_ne, bne_eq_false_iff_eq, ne_eq, ge_iff_le, gt_iff_lt, Int.not_le, Int.not_lt, Bool.and_eq_false_iff, Bool.or_eq_false_iff, Decidable.not_not] at hh
  refine R_exit ?_
  refine E_then_exit ?_
  refine E_then_exit ?_
  refine E_block_hit ?_
  refine E_then ?_
  refine R_seq ?_
  refine R_region ?_
  refine J_move rfl rfl rfl ?_
  refine J_assign rfl rfl rfl ?_
  refine J_nil1 ?_
  refine E_then ?_
  refine R_ret ?_
  rotate_left
  · refine J_bits32 y 1#32 rfl rfl rfl rfl rfl rfl rfl ?_
    refine J_neg32 (y &&& 1#32) rfl rfl rfl rfl ?_
    refine J_bits32 0xEDB88320#32 (-(y &&& 1#32)) rfl rfl rfl rfl rfl rfl rfl ?_
    refine J_bits32 (y >>> 1) (0xEDB88320#32 &&& -(y &&& 1#32)) rfl rfl rfl rfl rfl rfl rfl ?_
    refine J_assign rfl rfl rfl ?_
    refine J_nil3 ?_
    refine E_block_normal ?_
    refine E_then ?_
    refine R_region ?_
    refine J_ari64 rfl rfl rfl (by omega) rfl rfl ?_
    refine J_moveg rfl rfl rfl ?_
    refine J_nil1 ?_
    have e : iter crcBit (k + 1) (x ^^^ c.toBitVec.zeroExtend 32) = y >>> 1 ^^^ (0xEDB88320#32 &&& -(y &&& 1#32)) := by rw [← hy]; rfl
    exact E_thenI fun a w he hs => ⟨⟨k + 1, by omega⟩, by simp; omega, he.sub (sub_cons' rfl (by simp) (sub_cons' rfl (by rw [e]) sub_nil)), hs⟩
  · have e : k = 8 := by omega
    subst e
    apply E_retP Tryz.results246
    · exact Res.tmp rfl (Res.nil)
    · exact Gives.refl
    rw [← hy]; rfl
theorem cyclic_New (F : List HP) : Fn Tryz.prog 224 [] F (fun v w => ∃ b, v = .pointer (some ⟨b, 0, none⟩) ∧ Sat w (cl b 323 [u32v 0#32] :: F)) := by
  refine Fn_enter Tryz.func224 rfl Tryz.ntmps224 rfl ?_
  refine R_seq ?_
  refine R_region ?_
  refine J_assign rfl rfl rfl ?_
  refine J_nil ?_
  refine E_then ?_
  refine R_seq ?_
  refine R_region ?_
  refine J_build rfl rfl rfl rfl ?_
  refine J_boxA rfl rfl rfl ?_; intro
  refine J_assign rfl rfl rfl ?_
  refine J_nil1 ?_
  refine E_then ?_
  refine R_ret ?_
  apply E_ret Tryz.results224
  · exact Res.tmp rfl (Res.nil)
  · intro w s
    exact ⟨_, rfl, s⟩
theorem crcRaw_snoc (n : BitVec 32) (s : List UInt8) (c : UInt8) : crcRaw n (s ++ [c]) = crcStep (crcRaw n s) c := by simp [crcRaw]
theorem cyclic_Add (b : Nat) (x : BitVec 32) (s : List UInt8) (hs : s.length < 1000000000000) (F : List HP) : Fn Tryz.prog 225 [.pointer (some ⟨b, 0, none⟩), .string (S s)] (cl b 323 [u32v x] :: F)
    (Pst (.tuple #[]) (cl b 323 [u32v (crcRaw (x ^^^ 0xFFFFFFFF#32) s ^^^ 0xFFFFFFFF#32)] :: F)) := by
  refine Fn_enter Tryz.func225 rfl Tryz.ntmps225 rfl ?_
  refine R_seq ?_
  refine R_seq ?_
  refine R_region ?_
  refine J_move rfl rfl rfl ?_
  refine J_ptr_nil rfl rfl rfl rfl ?_
  refine J_nil2 ?_
  refine E_then ?_
  refine R_cond_false rfl ?_
  refine R_skip ?_
  refine E_then ?_
  refine R_seq ?_
  refine R_region ?_
  refine J_move rfl rfl rfl ?_
  refine J_nilCheck rfl rfl rfl ?_
  refine J_fieldAddr0 rfl rfl rfl ?_
  refine J_load rfl rfl rfl rfl ?_
  refine J_bits32 x 0xFFFFFFFF#32 rfl rfl rfl rfl rfl rfl rfl ?_
  refine J_assign rfl rfl rfl ?_
  refine J_nil3 ?_
  refine E_then ?_
  refine R_seq ?_
  refine R_seq ?_
  refine R_region ?_
  refine J_move rfl rfl rfl ?_
  refine J_len_str rfl rfl rfl ?_
  refine J_move rfl rfl rfl ?_
  refine J_nil3 ?_
  refine E_then ?_
  refine R_block ?_
  refine R_loop (X := {k : Nat // k ≤ s.length}) (fun k => [(15, .int .i64 (k.1 : Int)), (14, .int .i64 (s.length : Int)), (0, .pointer (some ⟨b, 0, none⟩)), (1, .string (S s)), (4, u32v (crcRaw (x ^^^ 0xFFFFFFFF#32) (s.take k.1)))]) (fun _ => cl b 323 [u32v x] :: F) (fun k => s.length - k.1) ⟨0, by omega⟩ (by exact sub_cons rfl (sub_cons rfl (sub_cons rfl (sub_cons rfl (sub_cons rfl sub_nil))))) Gives.refl ?_
  rintro ⟨k, hk⟩
  dsimp only
  generalize hy : crcRaw (x ^^^ 0xFFFFFFFF#32) (s.take k) = y
  refine R_seq ?_
  refine R_region ?_
  refine J_cmp rfl rfl rfl rfl rfl ?_
  refine J_nil1 ?_
  refine E_then ?_
  refine R_seq ?_
  refine R_cond rfl (fun hh => ?_) (fun hh => ?_)
  simp only [decide_eq_true_eq, decide_eq_false_iff_not, Bool.and_eq_true, Bool.or_eq_true, Bool.not_eq_true', Bool.not_eq_false', beq_iff_eq, bne_iff_ne, beq_eq_false_iff_ne, bne_eq_false_iff_eq, ne_eq, ge_iff_le, gt_iff_lt, Int.not_le, Int.not_lt, Bool.and_eq_false_iff, Bool.or_eq_false_iff, Decidable.not_not] at hh
  refine R_skip ?_
  refine E_then ?_
  refine R_seq ?_
  refine R_block ?_
  refine R_seq ?_
  refine R_region ?_
  refine J_move rfl rfl rfl ?_
  refine J_assign rfl rfl rfl ?_
  refine J_nil1 ?_
  refine E_then ?_
  refine R_region ?_
  refine J_move rfl rfl rfl ?_
  refine J_move rfl rfl rfl ?_
  refine J_move rfl rfl rfl ?_
  rotate_left
  simp only [decide_eq_true_eq, decide_eq_false_iff_not, Bool.and_eq_true, Bool.or_eq_true, Bool.not_eq_true', Bool.not_eq_false', beq_iff_eq, bne_iff_ne, beq_eq_false_iff_ne, bne_eq_false_iff_eq, ne_eq, ge_iff_le, gt_iff_lt, Int.not_le, Int.not_lt, Bool.and_eq_false_iff, Bool.or_eq_false_iff, Decidable.not_not] at hh
  refine R_exit ?_
  refine E_then_exit ?_
  refine E_then_exit ?_
  refine E_block_hit ?_
  refine E_then ?_
  refine R_region ?_
  refine J_move rfl rfl rfl ?_
  refine J_move rfl rfl rfl ?_
  rotate_left
  · have hlt : k < s.length := by omega
    have hc : s[(k : Int).toNat]? = some s[k] := by simp [hlt]
    refine J_index_str rfl rfl (by omega) hc rfl rfl ?_
    refine J_callr rfl (cyclic_step _ _ _) (by exact Gives.refl) rfl rfl ?_
    refine J_assign rfl rfl rfl ?_
    refine J_nil3 ?_
    refine E_block_normal ?_
    refine E_then ?_
    refine R_region ?_
    refine J_ari64 rfl rfl rfl (by omega) rfl rfl ?_
    refine J_moveg rfl rfl rfl ?_
    refine J_nil1 ?_
    have e : crcRaw (x ^^^ 0xFFFFFFFF#32) (s.take (k + 1)) = crcStep y s[k] := by rw [← hy, List.take_succ_eq_append_getElem hlt, crcRaw_snoc]
    exact E_thenI fun a w he hs => ⟨⟨k + 1, by omega⟩, by simp; omega, he.sub (sub_cons' rfl (by simp) (sub_cons rfl (sub_cons rfl (sub_cons rfl (sub_cons' rfl (by rw [e]) sub_nil))))), hs⟩
  · have e : k = s.length := by omega
    subst e
    rw [List.take_length] at hy
    refine J_bits32 y 0xFFFFFFFF#32 rfl rfl rfl rfl rfl rfl rfl ?_
    refine J_nilCheck rfl rfl rfl ?_
    refine J_fieldAddr0 rfl rfl rfl ?_
    refine J_store rfl rfl rfl rfl ?_
    refine J_nil3 ?_
    subst hy
    apply E_endP Tryz.results225
    · exact Res.nil
    · exact Gives.refl
    rfl
theorem cyclic_Sum (b : Nat) (x : BitVec 32) (F : List HP) : Fn Tryz.prog 226 [.pointer (some ⟨b, 0, none⟩)] (cl b 323 [u32v x] :: F) (Pst (.int .i64 (x.toNat : Int)) F) := by
  refine Fn_enter Tryz.func226 rfl Tryz.ntmps226 rfl ?_
  refine R_seq ?_
  refine R_region ?_
  refine J_assign rfl rfl rfl ?_
  refine J_nil ?_
  refine E_then ?_
  refine R_seq ?_
  refine R_seq ?_
  refine R_region ?_
  refine J_move rfl rfl rfl ?_
  refine J_ptr_nil rfl rfl rfl rfl ?_
  refine J_nil2 ?_
  refine E_then ?_
  refine R_cond_false rfl ?_
  refine R_skip ?_
  refine E_then ?_
  refine R_seq ?_
  refine R_region ?_
  refine J_move rfl rfl rfl ?_
  refine J_nilCheck rfl rfl rfl ?_
  refine J_fieldAddr0 rfl rfl rfl ?_
  refine J_load rfl rfl rfl rfl ?_
  refine J_conv rfl rfl rfl ?_
  refine J_assign rfl rfl rfl ?_
  refine J_nil3 ?_
  refine E_then ?_
  refine R_ret ?_
  apply E_retP Tryz.results226
  · exact Res.tmp rfl (Res.nil)
  · exact Gives.drop Gives.refl
  show Value.int _ _ = _
  rw [wrap64_in (by have := x.isLt; omega)]
theorem cyclic_Of (s : List UInt8) (hs : s.length < 1000000000000) (F : List HP) : Fn Tryz.prog 188 [.string (S s)] F (Pst (.int .i64 ((crc s).toNat : Int)) F) := by
  refine Fn_enter Tryz.func188 rfl Tryz.ntmps188 rfl ?_
  refine R_seq ?_
  refine R_region ?_
  refine J_assign rfl rfl rfl ?_
  refine J_nil ?_
  refine E_then ?_
  refine R_seq ?_
  refine R_region ?_
  refine J_callm rfl (cyclic_New F) Gives.refl rfl rfl ?_
  rintro v w ⟨b, rfl, s0⟩
  refine JW.of s0 ?_
  refine J_assign rfl rfl rfl ?_
  refine J_nil1 ?_
  refine E_then ?_
  refine R_seq ?_
  refine R_region ?_
  refine J_move rfl rfl rfl ?_
  refine J_move rfl rfl rfl ?_
  refine J_callr rfl (cyclic_Add b 0#32 s hs F) (by exact Gives.refl) rfl rfl ?_
  refine J_nil3 ?_
  refine E_then ?_
  refine R_seq ?_
  refine R_region ?_
  refine J_move rfl rfl rfl ?_
  refine J_callr rfl (cyclic_Sum b _ F) (by exact Gives.refl) rfl rfl ?_
  refine J_assign rfl rfl rfl ?_
  refine J_nil2 ?_
  refine E_then ?_
  refine R_ret ?_
  apply E_retP Tryz.results188
  · exact Res.tmp rfl (Res.nil)
  · exact Gives.refl
  rfl
theorem le4_get (n : Nat) : ∀ k, k < 4 → (le4 n)[k]? = some (UInt8.ofNat (n / 256 ^ k))
  | 0, _ => by simp [le4]
  | 1, _ => rfl
  | 2, _ => rfl
  | 3, _ => rfl
  | k + 4, h => by omega
theorem cyclic_Tail (s : List UInt8) (hs : s.length < 1000000000000) (F : List HP) : Fn Tryz.prog 123 [.string (S s)] F (Pst (.string (S (tail s))) F) := by
  refine Fn_enter Tryz.func123 rfl Tryz.ntmps123 rfl ?_
  refine R_seq ?_
  refine R_region ?_
  refine J_assign rfl rfl rfl ?_
  refine J_nil ?_
  refine E_then ?_
  refine R_seq ?_
  refine R_region ?_
  refine J_move rfl rfl rfl ?_
  refine J_callr rfl (cyclic_Of s hs F) (by exact Gives.refl) rfl rfl ?_
  generalize hx : (crc s).toNat = x
  have hlt : x < 4294967296 := by rw [← hx]; exact (crc s).isLt
  refine J_assign rfl rfl rfl ?_
  refine J_nil2 ?_
  refine E_then ?_
  refine R_seq ?_
  refine R_region ?_
  refine J_alloc rfl rfl ?_; intro
  refine J_nil ?_
  refine E_then ?_
  refine R_seq ?_
  refine R_seq ?_
  refine R_region ?_
  refine J_move rfl rfl rfl ?_
  refine J_nil1 ?_
  refine E_then ?_
  refine R_block ?_
  rename_i b
  refine R_loop (X := {k : Nat // k ≤ 4}) (fun k => [(8, .int .i64 (k.1 : Int)), (4, .pointer (some ⟨b, 0, none⟩)), (3, .int .i64 (x : Int)), (2, .string (S []))])
      (fun k => cl b 252 (((le4 x).take k.1).map byv ++ List.replicate (4 - k.1) (.int .u8 0)) :: F) (fun k => 4 - k.1) ⟨0, by omega⟩ (by exact sub_cons rfl (sub_cons rfl (sub_cons rfl (sub_cons rfl sub_nil)))) ?_ ?_
  · simp only [List.take_zero, List.map_nil, List.nil_append, Nat.sub_zero]; exact Gives.refl
  rintro ⟨k, hk⟩
  dsimp only
  refine R_seq ?_
  refine R_region ?_
  refine J_cmp rfl rfl rfl rfl rfl ?_
  refine J_nil1 ?_
  refine E_then ?_
  refine R_seq ?_
  refine R_cond rfl (fun hh => ?_) (fun hh => ?_)
  simp only [decide_eq_true_eq, decide_eq_false_iff_not, Bool.and_eq_true, Bool.or_eq_true, Bool.not_eq_true', Bool.not_eq_false', beq_iff_eq, bne_iff_ne, beq_eq_false_iff_ne, bne_eq_false_iff_eq, ne_eq, ge_iff_le, gt_iff_lt, Int.not_le, Int.not_lt, Bool.and_eq_false_iff, Bool.or_eq_false_iff, Decidable.not_not] at hh
  refine R_skip ?_
  refine E_then ?_
  refine R_seq ?_
  refine R_block ?_
  refine R_seq ?_
  refine R_region ?_
  refine J_move rfl rfl rfl ?_
  refine J_assign rfl rfl rfl ?_
  refine J_nil1 ?_
  refine E_then ?_
  refine R_region ?_
  refine J_move rfl rfl rfl ?_
  refine J_move rfl rfl rfl ?_
  refine J_move rfl rfl rfl ?_
  refine J_ari64 rfl rfl rfl (by omega) rfl rfl ?_
  refine J_shift rfl rfl rfl (by omega) rfl rfl ?_
  refine J_conv rfl rfl rfl ?_
  rotate_left
  simp only [decide_eq_true_eq, decide_eq_false_iff_not, Bool.and_eq_true, Bool.or_eq_true, Bool.not_eq_true', Bool.not_eq_false', beq_iff_eq, bne_iff_ne, beq_eq_false_iff_ne, bne_eq_false_iff_eq, ne_eq, ge_iff_le, gt_iff_lt, Int.not_le, Int.not_lt, Bool.and_eq_false_iff, Bool.or_eq_false_iff, Decidable.not_not] at hh
  refine R_exit ?_
  refine E_then_exit ?_
  refine E_then_exit ?_
  refine E_block_hit ?_
  refine E_then ?_
  refine R_seq ?_
  refine R_region ?_
  refine J_sliceArr rfl rfl rfl ?_
  rotate_left
  · have hb := le4_get x k (by omega)
    have e64 : IntKind.i64.bits = 64 := rfl
    have e2 : min (8 * (k : Int)).toNat IntKind.i64.bits = 8 * k := by rw [e64]; omega
    have e3 : IntKind.u8.wrap ((x : Int).fdiv (2 ^ min (8 * (k : Int)).toNat IntKind.i64.bits)) = ((UInt8.ofNat (x / 256 ^ k)).toNat : Int) := by
      rw [e2, shr_pow (x : Int) (by omega), IntKind.wrap_u8]
      simp only [UInt8.toNat_ofNat', Int.toNat_natCast]
      omega
    refine J_indexAddrA rfl rfl (by omega) (by omega) rfl rfl ?_
    have e1 : (0 + (k : Int).toNat * 1) = k := by omega
    rw [e1, e3]
    refine J_storeX (vs' := ((le4 x).take (k + 1)).map byv ++ List.replicate (4 - (k + 1)) (.int .u8 0)) rfl rfl rfl ?_ ?_ ?_
    · simp [le4]; omega
    · rw [List.map_take, List.map_take]
      exact set_next _ _ _ _ (by simp [le4]) (by omega) _ (by simp [hb, byv])
    · refine J_nil3 ?_
      refine E_block_normal ?_
      refine E_then ?_
      refine R_region ?_
      refine J_ari64 rfl rfl rfl (by omega) rfl rfl ?_
      refine J_moveg rfl rfl rfl ?_
      refine J_nil1 ?_
      exact E_thenI fun a w he hs => ⟨⟨k + 1, by omega⟩, by simp; omega, he.sub (by exact sub_cons rfl (sub_cons rfl (sub_cons rfl (sub_cons rfl sub_nil)))), hs.gives (by exact Gives.refl)⟩
  · have e : k = 4 := by omega
    subst e
    have e4 : (le4 x).take 4 = le4 x := rfl
    rw [e4]
    refine J_bytesToStr (cs := le4 x) rfl (by simp [le4]) (by simp [le4]) rfl rfl ?_
    refine J_assign rfl rfl rfl ?_
    refine J_nil2 ?_
    refine E_then ?_
    refine R_ret ?_
    apply E_retP Tryz.results123
    · exact Res.tmp rfl (Res.nil)
    · exact Gives.drop Gives.refl
    rw [← hx]; rfl
end Go.Proofs.Sol

/- strings.Builder. -/
namespace Go.Proofs.Sol
open Go Go.Proofs
set_option maxRecDepth 100000
set_option maxHeartbeats 4000000
set_option linter.unusedVariables false
set_option linter.unusedSimpArgs false
attribute [local irreducible] R J JW E D Fn Y clf mpI own Sat Exit.then Exit.inBlock bodyPost bodyPostM Code.wpIn wpL
instance : IsEx Tryz.prog 223 Extern.AbiNoEscape.same := ⟨_, Tryz.func223, by kernel_rfl, by kernel_rfl, by kernel_rfl, by kernel_rfl⟩
instance : LB Tryz.prog 181 := ⟨_, rfl, by decide, by kernel_rfl⟩
instance : C1 Tryz.prog 5 := ⟨by kernel_rfl⟩
abbrev bldH (b : Nat) (q : Bool) (v : Value) : HP := cl b 181 [if q then .pointer (some ⟨b, 0, none⟩) else .pointer none, v]
/-- A builder that holds bytes. -/
def bldr (b : Nat) (s : List UInt8) : HP := exi fun p : {p : Bool × Value // capOk p.2 = true} => stp [bldH b p.1.1 p.1.2, own p.1.2 5 1 (s.map byv)]
instance (b : Nat) (s : List UInt8) : Up (bldr b s) := inferInstanceAs (Up (exi _))
theorem open_bldr {w : World} {b : Nat} {s : List UInt8} {L : List HP} (h : Sat w (bldr b s :: L)) : ∃ p : {p : Bool × Value // capOk p.2 = true}, Sat w (bldH b p.1.1 p.1.2 :: own p.1.2 5 1 (s.map byv) :: L) := by
  obtain ⟨p, h⟩ := h.exi
  exact ⟨p, h.open_⟩
theorem shut_bldr {w : World} {b : Nat} {q : Bool} {v : Value} {s : List UInt8} {L : List HP} (hc : capOk v = true) (h : Sat w (bldH b q v :: own v 5 1 (s.map byv) :: L)) : Sat w (bldr b s :: L) :=
  (Sat.shut (M := [bldH b q v, own v 5 1 (s.map byv)]) h).conv fun _ e => ⟨⟨(q, v), hc⟩, e⟩
theorem new_bldr {w : World} {b : Nat} {L : List HP} (h : Sat w (cl b 181 [.pointer none, .slice none 0 0] :: L)) : Sat w (bldr b [] :: L) :=
  shut_bldr (q := false) (v := .slice none 0 0) rfl (Sat.swap (Sat.own_nil h))
theorem Builder_copyCheck (b : Nat) (q : Bool) (v : Value) (F : List HP) : Fn Tryz.prog 186 [.pointer (some ⟨b, 0, none⟩)] (bldH b q v :: F) (Pst (.tuple #[]) (bldH b true v :: F)) := by
  refine Fn_enter Tryz.func186 rfl Tryz.ntmps186 rfl ?_
  cases q
  · simp only [bldH, if_true, if_false, Bool.false_eq_true]
    refine R_seq ?_
    refine R_region ?_
    refine J_move rfl rfl rfl ?_
    refine J_nilCheck rfl rfl rfl ?_
    refine J_fieldAddr0 rfl rfl rfl ?_
    refine J_load rfl rfl rfl rfl ?_
    refine J_ptr_nil rfl rfl rfl rfl ?_
    refine J_nil3 ?_
    refine E_then ?_
    refine R_cond_true rfl ?_
    refine R_region ?_
    refine J_move rfl rfl rfl ?_
    refine J_move rfl rfl rfl ?_
    refine J_pure (Y_toUnsafe rfl (by simp)) rfl rfl ?_
    refine J_pure (Y_ext rfl (fun _ => rfl)) rfl rfl ?_
    refine J_pure (Y_fromUnsafe rfl rfl) rfl rfl ?_
    refine J_nilCheck rfl rfl rfl ?_
    refine J_fieldAddr0 rfl rfl rfl ?_
    refine J_store rfl rfl rfl rfl ?_
    refine J_nil3 ?_
    apply E_endP Tryz.results186
    · exact Res.nil
    · exact Gives.refl
    rfl
  · simp only [bldH, if_true, if_false, Bool.false_eq_true]
    refine R_seq ?_
    refine R_region ?_
    refine J_move rfl rfl rfl ?_
    refine J_nilCheck rfl rfl rfl ?_
    refine J_fieldAddr0 rfl rfl rfl ?_
    refine J_load rfl rfl rfl rfl ?_
    refine J_ptr_nil rfl rfl rfl rfl ?_
    refine J_nil3 ?_
    refine E_then ?_
    refine R_cond_false rfl ?_
    refine R_seq ?_
    refine R_region ?_
    refine J_move rfl rfl rfl ?_
    refine J_nilCheck rfl rfl rfl ?_
    refine J_fieldAddr0 rfl rfl rfl ?_
    refine J_load rfl rfl rfl rfl ?_
    refine J_move rfl rfl rfl ?_
    refine J_pure (Y_neqSelf rfl rfl) rfl rfl ?_
    refine J_nil3 ?_
    refine E_then ?_
    refine R_cond_false rfl ?_
    refine R_skip ?_
    apply E_endP Tryz.results186
    · exact Res.nil
    · exact Gives.refl
    rfl
theorem Builder_WriteString (b : Nat) (s t : List UInt8) (hl : s.length + t.length ≤ 100000000000000) (F : List HP) : Fn Tryz.prog 118 [.pointer (some ⟨b, 0, none⟩), .string (S t)] (bldr b s :: F) (Pst (.tuple #[.int .i64 (t.length : Int), .nilIface]) (bldr b (s ++ t) :: F)) := by
  refine Fn.open_ (fun w h => open_bldr h) ?_
  rintro ⟨⟨q, v⟩, hc⟩
  dsimp only at hc ⊢
  refine Fn_enter Tryz.func118 rfl Tryz.ntmps118 rfl ?_
  refine R_seq ?_
  refine R_region ?_
  refine J_assign rfl rfl rfl ?_
  refine J_assign rfl rfl rfl ?_
  refine J_nil ?_
  refine E_then ?_
  refine R_seq ?_
  refine R_region ?_
  refine J_move rfl rfl rfl ?_
  refine J_callr rfl (Builder_copyCheck _ _ _ _) (by exact Gives.refl) rfl rfl ?_
  simp only [bldH, if_true, if_false, Bool.false_eq_true]
  refine J_nil2 ?_
  refine E_then ?_
  refine R_seq ?_
  refine R_region ?_
  refine J_move rfl rfl rfl ?_
  refine J_move rfl rfl rfl ?_
  refine J_nilCheck rfl rfl rfl ?_
  refine J_fieldAddr0 rfl rfl rfl ?_
  refine J_load rfl rfl rfl rfl ?_
  refine J_move rfl rfl rfl ?_
  refine J_appendS (cs := s) (R := bldH b true v :: F) rfl rfl (by exact Take.next Take.here) (by omega) rfl rfl ?_
  intro v' hc' hsv
  refine J_nilCheck rfl rfl rfl ?_
  refine J_fieldAddr0 rfl rfl rfl ?_
  refine J_store rfl rfl (by assumption) rfl ?_
  refine J_nil3 ?_
  refine E_then ?_
  refine R_seq ?_
  refine R_region ?_
  refine J_move rfl rfl rfl ?_
  refine J_len_str rfl rfl rfl ?_
  refine J_assign rfl rfl rfl ?_
  refine J_assign rfl rfl rfl ?_
  refine J_nil2 ?_
  refine E_then ?_
  refine R_ret ?_
  apply E_ret Tryz.results118
  · exact Res.tmp rfl (Res.tmp rfl (Res.nil))
  · intro w hs
    exact ⟨rfl, shut_bldr (q := true) (v := v') (hc' hc) hs.swap⟩
theorem Builder_String (b : Nat) (s : List UInt8) (hl : s.length ≤ 100000000000000) (F : List HP) : Fn Tryz.prog 119 [.pointer (some ⟨b, 0, none⟩)] (bldr b s :: F) (Pst (.string (S s)) F) := by
  refine Fn_at fun w h => ?_
  obtain ⟨⟨⟨q, v⟩, hc⟩, h⟩ := open_bldr h
  dsimp only at hc h
  have hw := h.swap
  rcases hw.own with ⟨rfl, h0⟩ | ⟨b2, len, cap, sp, rfl, h2, h3, s'⟩
  · have h0' : s = [] := by simpa using h0
    subst h0'
    refine ⟨_, hw.drop, ?_⟩
    refine Fn_enter Tryz.func119 rfl Tryz.ntmps119 rfl ?_
    refine R_seq ?_
    refine R_region ?_
    refine J_assign rfl rfl rfl ?_
    refine J_nil ?_
    refine E_then ?_
    refine R_seq ?_
    refine R_draw0 [10, 11] (by kernel_rfl) ?_
    (refine D_lookP (i := 0) rfl (by kernel_rfl) (by exact NP_then NP_body) (by exact Y_move rfl) rfl rfl ?_)
    (refine D_lookP (i := 1) rfl (by kernel_rfl) (by exact NP_then NP_body) (by exact Y_nilCheck rfl) rfl rfl ?_)
    (refine D_lookP (i := 2) rfl (by kernel_rfl) (by exact NP_then NP_body) (by exact Y_fieldAddr0 rfl) rfl rfl ?_)
    (refine D_look (i := 3) rfl (by kernel_rfl) (by exact NP_then NP_body) (by exact Gives.refl) (by exact Y_load rfl rfl) rfl rfl ?_)
    (refine D_look (i := 4) rfl (by kernel_rfl) (by exact NP_then NP_body) (by exact Gives.refl) (by exact Y_sliceData0 rfl) rfl rfl ?_)
    (refine D_lookP (i := 5) rfl (by kernel_rfl) (by exact NP_then NP_body) (by exact Y_move rfl) rfl rfl ?_)
    (refine D_lookP (i := 6) rfl (by kernel_rfl) (by exact NP_then NP_body) (by exact Y_nilCheck rfl) rfl rfl ?_)
    (refine D_lookP (i := 7) rfl (by kernel_rfl) (by exact NP_then NP_body) (by exact Y_fieldAddr0 rfl) rfl rfl ?_)
    (refine D_look (i := 8) rfl (by kernel_rfl) (by exact NP_then NP_body) (by exact Gives.refl) (by exact Y_load rfl rfl) rfl rfl ?_)
    (refine D_look (i := 9) rfl (by kernel_rfl) (by exact NP_then NP_body) (by exact Gives.refl) (by exact Y_len_slice rfl) rfl rfl ?_)
    refine D_try1 (i := 10) (by kernel_rfl) rfl ?_
    refine J_pure (Y_string0 rfl rfl) rfl rfl ?_
    refine D_last (by kernel_rfl) ?_
    refine D_try1 (i := 11) (by kernel_rfl) rfl ?_
    refine J_assign rfl rfl rfl ?_
    refine D_last (by kernel_rfl) ?_
    (first | refine D_end1 (by kernel_rfl) ?_ | refine D_end (by kernel_rfl) ?_)
    refine E_then ?_
    refine R_ret ?_
    apply E_retP Tryz.results119
    · exact Res.tmp rfl (Res.nil)
    · exact Gives.drop Gives.refl
    rfl
  · refine ⟨_, s', ?_⟩
    have hcap : cap ≠ 0 := by simpa [capOk] using hc
    have hlen : len = s.length := by simpa using h2.symm
    subst hlen
    refine Fn_enter Tryz.func119 rfl Tryz.ntmps119 rfl ?_
    refine R_seq ?_
    refine R_region ?_
    refine J_assign rfl rfl rfl ?_
    refine J_nil ?_
    refine E_then ?_
    refine R_seq ?_
    refine R_draw (bldH b q (.slice (some ⟨b2, 0, none⟩) s.length cap) :: F) [10, 11] (by kernel_rfl) ?_
    (refine D_lookP (i := 0) rfl (by kernel_rfl) (by exact NP_then NP_body) (by exact Y_move rfl) rfl rfl ?_)
    (refine D_lookP (i := 1) rfl (by kernel_rfl) (by exact NP_then NP_body) (by exact Y_nilCheck rfl) rfl rfl ?_)
    (refine D_lookP (i := 2) rfl (by kernel_rfl) (by exact NP_then NP_body) (by exact Y_fieldAddr0 rfl) rfl rfl ?_)
    (refine D_look (i := 3) rfl (by kernel_rfl) (by exact NP_then NP_body) (by exact Gives.cons (Take.next Take.here) (Gives.drop Gives.refl)) (by exact Y_load rfl rfl) rfl rfl ?_)
    (refine D_look (i := 4) rfl (by kernel_rfl) (by exact NP_then NP_body) (by exact Gives.cons (Take.next Take.here) (Gives.drop Gives.refl)) (by exact Y_sliceData rfl (by omega)) rfl rfl ?_)
    (refine D_lookP (i := 5) rfl (by kernel_rfl) (by exact NP_then NP_body) (by exact Y_move rfl) rfl rfl ?_)
    (refine D_lookP (i := 6) rfl (by kernel_rfl) (by exact NP_then NP_body) (by exact Y_nilCheck rfl) rfl rfl ?_)
    (refine D_lookP (i := 7) rfl (by kernel_rfl) (by exact NP_then NP_body) (by exact Y_fieldAddr0 rfl) rfl rfl ?_)
    (refine D_look (i := 8) rfl (by kernel_rfl) (by exact NP_then NP_body) (by exact Gives.cons (Take.next Take.here) (Gives.drop Gives.refl)) (by exact Y_load rfl rfl) rfl rfl ?_)
    (refine D_look (i := 9) rfl (by kernel_rfl) (by exact NP_then NP_body) (by exact Gives.cons (Take.next Take.here) (Gives.drop Gives.refl)) (by exact Y_len_slice rfl) rfl rfl ?_)
    refine D_try1 (i := 10) (by kernel_rfl) rfl ?_
    by_cases h0 : s = []
    · subst h0
      refine J_pure (Y_string0 rfl rfl) rfl rfl ?_
      refine D_last (by kernel_rfl) ?_
      refine D_try1 (i := 11) (by kernel_rfl) rfl ?_
      refine J_assign rfl rfl rfl ?_
      refine D_last (by kernel_rfl) ?_
      (first | refine D_end1 (by kernel_rfl) ?_ | refine D_end (by kernel_rfl) ?_)
      refine E_then ?_
      refine R_ret ?_
      apply E_retP Tryz.results119
      · exact Res.tmp rfl (Res.nil)
      · exact Gives.drop (Gives.drop Gives.refl)
      rfl
    · refine J_string (cs := s) (sp := sp) rfl rfl h0 (by omega) (by with_reducible exact Take.here) rfl rfl ?_
      refine D_last (by kernel_rfl) ?_
      refine D_try1 (i := 11) (by kernel_rfl) rfl ?_
      refine J_assign rfl rfl rfl ?_
      refine D_last (by kernel_rfl) ?_
      (first | refine D_end1 (by kernel_rfl) ?_ | refine D_end (by kernel_rfl) ?_)
      refine E_then ?_
      refine R_ret ?_
      apply E_retP Tryz.results119
      · exact Res.tmp rfl (Res.nil)
      · exact Gives.drop Gives.refl
      rfl
end Go.Proofs.Sol

/- Sectors of a disk: what is of no disk; slices.Repeat. -/
namespace Go.Proofs.Sol
open Go Go.Proofs
set_option maxRecDepth 100000
set_option maxHeartbeats 4000000
set_option linter.unusedVariables false
set_option linter.unusedSimpArgs false
attribute [local irreducible] R J JW E D Fn Y clf mpI own Sat Exit.then Exit.inBlock bodyPost bodyPostM Code.wpIn wpL
def pad (s : List UInt8) : List UInt8 := s ++ List.replicate ((64 - s.length % 64) % 64) 0
theorem pad_length (s : List UInt8) : (pad s).length % 64 = 0 := by simp [pad]; omega
theorem region_Pad (s : List UInt8) (hs : s.length < 1000000000000) (F : List HP) : Fn Tryz.prog 122 [.string (S s)] F (Pst (.string (S (pad s))) F) := by
  refine Fn_enter Tryz.func122 rfl Tryz.ntmps122 rfl ?_
  refine R_seq ?_
  refine R_region ?_
  refine J_assign rfl rfl rfl ?_
  refine J_nil ?_
  refine E_then ?_
  refine R_seq ?_
  refine R_seq ?_
  refine R_region ?_
  refine J_move rfl rfl rfl ?_
  refine J_len_str rfl rfl rfl ?_
  refine J_rem rfl rfl (by omega) (by omega) rfl rfl ?_
  refine J_assign rfl rfl rfl ?_
  refine J_nil3 ?_
  refine E_then ?_
  refine R_seq ?_
  refine R_region ?_
  refine J_move rfl rfl rfl ?_
  refine J_cmp rfl rfl rfl rfl rfl ?_
  refine J_nil2 ?_
  refine E_then ?_
  refine R_cond rfl (fun hh => ?_) (fun hh => ?_)
  simp only [decide_eq_true_eq, decide_eq_false_iff_not, Bool.and_eq_true, Bool.or_eq_true, Bool.not_eq_true', Bool.not_eq_false', beq_iff_eq, bne_iff_ne, beq_eq_false_iff_ne, bne_eq_false_iff_eq, ne_eq, ge_iff_le, gt_iff_lt, Int.not_le, Int.not_lt, Bool.and_eq_false_iff, Bool.or_eq_false_iff, Decidable.not_not] at hh
  refine R_seq ?_
  refine R_region ?_
  refine J_move rfl rfl rfl ?_
  refine J_move rfl rfl rfl ?_
  refine J_ari64 rfl rfl rfl (by omega) rfl rfl ?_
  rotate_left
  simp only [decide_eq_true_eq, decide_eq_false_iff_not, Bool.and_eq_true, Bool.or_eq_true, Bool.not_eq_true', Bool.not_eq_false', beq_iff_eq, bne_iff_ne, beq_eq_false_iff_ne, bne_eq_false_iff_eq, ne_eq, ge_iff_le, gt_iff_lt, Int.not_le, Int.not_lt, Bool.and_eq_false_iff, Bool.or_eq_false_iff, Decidable.not_not] at hh
  refine R_skip ?_
  refine E_then ?_
  refine R_seq ?_
  refine R_region ?_
  refine J_move rfl rfl rfl ?_
  refine J_assign rfl rfl rfl ?_
  refine J_nil1 ?_
  refine E_then ?_
  refine R_ret ?_
  rotate_left
  · have e : (64 - (s.length : Int) % 64) = ((64 - s.length % 64 : Nat) : Int) := by omega
    rw [e]
    refine J_callr rfl (strings_Repeat 0 _ (by omega) _) (by exact Gives.refl) rfl rfl ?_
    have hl : (List.replicate (64 - s.length % 64) (0 : UInt8)).length ≤ 64 := by simp
    refine J_str_add rfl rfl (by omega) rfl rfl ?_
    refine J_assign rfl rfl rfl ?_
    refine J_nil3 ?_
    refine E_then ?_
    refine R_ret ?_
    refine E_then_ret ?_
    apply E_retP Tryz.results122
    · exact Res.tmp rfl (Res.nil)
    · exact Gives.refl
    have e2 : (64 - s.length % 64) % 64 = 64 - s.length % 64 := by omega
    simp [one, pad, e2]
  · apply E_retP Tryz.results122
    · exact Res.tmp rfl (Res.nil)
    · exact Gives.refl
    have e2 : (64 - s.length % 64) % 64 = 0 := by omega
    simp [one, pad, e2]
def insB (i many all : Int) : Bool := decide (0 ≤ i) && decide (0 ≤ many) && decide (i ≤ all) && decide (many ≤ all - i)
theorem region_inside (i many all : Int) (h : 0 ≤ all ∧ all ≤ 1000000000000) (F : List HP) :
    Fn Tryz.prog 214 [.int .i64 i, .int .i64 many, .int .i64 all] F (Pst (.bool (insB i many all)) F) := by
  refine Fn_enter Tryz.func214 rfl Tryz.ntmps214 rfl ?_
  refine R_seq ?_
  refine R_region ?_
  refine J_assign rfl rfl rfl ?_
  refine J_nil ?_
  refine E_then ?_
  refine R_seq ?_
  refine R_region ?_
  refine J_move rfl rfl rfl ?_
  refine J_cmp rfl rfl rfl rfl rfl ?_
  refine J_move rfl rfl rfl ?_
  refine J_guard_split rfl rfl (fun hh => ?_) (fun hh => ?_)
  simp only [decide_eq_true_eq, decide_eq_false_iff_not, Bool.and_eq_true, Bool.or_eq_true, Bool.not_eq_true', Bool.not_eq_false', beq_iff_eq, bne_iff_ne, beq_eq_false_iff_ne, bne_eq_false_iff_eq, ne_eq, ge_iff_le, gt_iff_lt, Int.not_le, Int.not_lt, Bool.and_eq_false_iff, Bool.or_eq_false_iff, Decidable.not_not] at hh
  refine J_guard rfl rfl rfl ?_
  refine J_move rfl rfl rfl ?_
  refine J_guard rfl rfl rfl ?_
  refine J_cmp rfl rfl rfl rfl rfl ?_
  refine J_pick_true rfl rfl rfl rfl ?_
  refine J_move rfl rfl rfl ?_
  refine J_guard_split rfl rfl (fun hh => ?_) (fun hh => ?_)
  simp only [decide_eq_true_eq, decide_eq_false_iff_not, Bool.and_eq_true, Bool.or_eq_true, Bool.not_eq_true', Bool.not_eq_false', beq_iff_eq, bne_iff_ne, beq_eq_false_iff_ne, bne_eq_false_iff_eq, ne_eq, ge_iff_le, gt_iff_lt, Int.not_le, Int.not_lt, Bool.and_eq_false_iff, Bool.or_eq_false_iff, Decidable.not_not] at hh
  refine J_guard rfl rfl rfl ?_
  refine J_move rfl rfl rfl ?_
  refine J_guard rfl rfl rfl ?_
  refine J_move rfl rfl rfl ?_
  refine J_guard rfl rfl rfl ?_
  refine J_cmp rfl rfl rfl rfl rfl ?_
  refine J_pick_true rfl rfl rfl rfl ?_
  refine J_move rfl rfl rfl ?_
  refine J_guard_split rfl rfl (fun hh => ?_) (fun hh => ?_)
  simp only [decide_eq_true_eq, decide_eq_false_iff_not, Bool.and_eq_true, Bool.or_eq_true, Bool.not_eq_true', Bool.not_eq_false', beq_iff_eq, bne_iff_ne, beq_eq_false_iff_ne, bne_eq_false_iff_eq, ne_eq, ge_iff_le, gt_iff_lt, Int.not_le, Int.not_lt, Bool.and_eq_false_iff, Bool.or_eq_false_iff, Decidable.not_not] at hh
  refine J_guard rfl rfl rfl ?_
  refine J_move rfl rfl rfl ?_
  refine J_guard rfl rfl rfl ?_
  refine J_move rfl rfl rfl ?_
  refine J_guard rfl rfl rfl ?_
  refine J_move rfl rfl rfl ?_
  refine J_guard rfl rfl rfl ?_
  refine J_ari64 rfl rfl rfl (by omega) rfl rfl ?_
  refine J_guard rfl rfl rfl ?_
  refine J_cmp rfl rfl rfl rfl rfl ?_
  refine J_pick_true rfl rfl rfl rfl ?_
  refine J_assign rfl rfl rfl ?_
  refine J_nil3 ?_
  refine E_then ?_
  refine R_ret ?_
  rotate_left
  simp only [decide_eq_true_eq, decide_eq_false_iff_not, Bool.and_eq_true, Bool.or_eq_true, Bool.not_eq_true', Bool.not_eq_false', beq_iff_eq, bne_iff_ne, beq_eq_false_iff_ne, bne_eq_false_iff_eq, ne_eq, ge_iff_le, gt_iff_lt, Int.not_le, Int.not_lt, Bool.and_eq_false_iff, Bool.or_eq_false_iff, Decidable.not_not] at hh
  refine J_guard_not rfl rfl rfl rfl rfl rfl ?_
  refine J_guard_not rfl rfl rfl rfl rfl rfl ?_
  refine J_guard_not rfl rfl rfl rfl rfl rfl ?_
  refine J_guard_not rfl rfl rfl rfl rfl rfl ?_
  refine J_guard_not rfl rfl rfl rfl rfl rfl ?_
  refine J_pick_false rfl rfl rfl rfl ?_
  refine J_assign rfl rfl rfl ?_
  refine J_nil3 ?_
  refine E_then ?_
  refine R_ret ?_
  rotate_left
  simp only [decide_eq_true_eq, decide_eq_false_iff_not, Bool.and_eq_true, Bool.or_eq_true, Bool.not_eq_true', Bool.not_eq_false', beq_iff_eq, bne_iff_ne, beq_eq_false_iff_ne, bne_eq_false_iff_eq, ne_eq, ge_iff_le, gt_iff_lt, Int.not_le, Int.not_lt, Bool.and_eq_false_iff, Bool.or_eq_false_iff, Decidable.not_not] at hh
  refine J_guard_not rfl rfl rfl rfl rfl rfl ?_
  refine J_guard_not rfl rfl rfl rfl rfl rfl ?_
  refine J_guard_not rfl rfl rfl rfl rfl rfl ?_
  refine J_pick_false rfl rfl rfl rfl ?_
  refine J_move rfl rfl rfl ?_
  refine J_guard_not rfl rfl rfl rfl rfl rfl ?_
  refine J_guard_not rfl rfl rfl rfl rfl rfl ?_
  refine J_guard_not rfl rfl rfl rfl rfl rfl ?_
  refine J_guard_not rfl rfl rfl rfl rfl rfl ?_
  refine J_guard_not rfl rfl rfl rfl rfl rfl ?_
  refine J_pick_false rfl rfl rfl rfl ?_
  refine J_assign rfl rfl rfl ?_
  refine J_nil3 ?_
  refine E_then ?_
  refine R_ret ?_
  rotate_left
  simp only [decide_eq_true_eq, decide_eq_false_iff_not, Bool.and_eq_true, Bool.or_eq_true, Bool.not_eq_true', Bool.not_eq_false', beq_iff_eq, bne_iff_ne, beq_eq_false_iff_ne, bne_eq_false_iff_eq, ne_eq, ge_iff_le, gt_iff_lt, Int.not_le, Int.not_lt, Bool.and_eq_false_iff, Bool.or_eq_false_iff, Decidable.not_not] at hh
  refine J_guard_not rfl rfl rfl rfl rfl rfl ?_
  refine J_guard_not rfl rfl rfl rfl rfl rfl ?_
  refine J_pick_false rfl rfl rfl rfl ?_
  refine J_move rfl rfl rfl ?_
  refine J_guard_not rfl rfl rfl rfl rfl rfl ?_
  refine J_guard_not rfl rfl rfl rfl rfl rfl ?_
  refine J_guard_not rfl rfl rfl rfl rfl rfl ?_
  refine J_pick_false rfl rfl rfl rfl ?_
  refine J_move rfl rfl rfl ?_
  refine J_guard_not rfl rfl rfl rfl rfl rfl ?_
  refine J_guard_not rfl rfl rfl rfl rfl rfl ?_
  refine J_guard_not rfl rfl rfl rfl rfl rfl ?_
  refine J_guard_not rfl rfl rfl rfl rfl rfl ?_
  refine J_guard_not rfl rfl rfl rfl rfl rfl ?_
  refine J_pick_false rfl rfl rfl rfl ?_
  refine J_assign rfl rfl rfl ?_
  refine J_nil3 ?_
  refine E_then ?_
  refine R_ret ?_
  rotate_left
  all_goals
    apply E_retP Tryz.results214
    · exact Res.tmp rfl (Res.nil)
    · (repeat (with_reducible exact Gives.refl))
    simp only [one, insB]
    congr 1
    rw [Bool.eq_iff_iff]
    simp
    try omega
theorem bits_Mul (x y : Nat) (h : x < 1000000000 ∧ y < 1000000000) (F : List HP) : Fn Tryz.prog 176 [.int .u64 (x : Int), .int .u64 (y : Int)] F (Pst (.tuple #[.int .u64 0, .int .u64 ((x * y : Nat) : Int)]) F) := by
  refine Fn_same fun w => ?_
  have h1 : x * y < 18446744073709551616 := by
    have : x * y ≤ 1000000000 * 1000000000 := Nat.mul_le_mul (by omega) (by omega)
    omega
  have := Tryz.bits_Mul x y (by omega) (by omega) w
  rw [Nat.div_eq_of_lt h1, Nat.mod_eq_of_lt h1] at this
  exact this
theorem wrapu64 {x : Int} (h : 0 ≤ x ∧ x < 18446744073709551616) : IntKind.u64.wrap x = x := by
  simp [IntKind.wrap, IntKind.bits, IntKind.signed]; omega
theorem rep_split {α : Type} (z e : α) (j n c : Nat) (h : j + c ≤ n) : setAll (List.replicate j z ++ List.replicate (n - j) e) j (List.replicate c z) = List.replicate (j + c) z ++ List.replicate (n - (j + c)) e := by
  unfold setAll
  have h1 : (List.replicate j z ++ List.replicate (n - j) e).take j = List.replicate j z := by rw [List.take_append_of_le_length (by simp), List.take_of_length_le (by simp)]
  have h2 : (List.replicate j z ++ List.replicate (n - j) e).drop (j + (List.replicate c z).length) = List.replicate (n - (j + c)) e := by
    rw [List.drop_append]
    simp
    omega
  rw [h1, h2, List.replicate_append_replicate]
theorem slices_Repeat (b0 : Nat) (z : List UInt8) (k : Nat) (hk : k ≤ 1000) (F : List HP) :
    Fn Tryz.prog 108 [.slice (some ⟨b0, 0, none⟩) 1 1, .int .i64 (k : Int)] (cl b0 9 [.string (S z)] :: F)
      (fun v w => ∃ b, v = .slice (some ⟨b, 0, none⟩) k k ∧ Sat w (cl b 9 (List.replicate k (.string (S z))) :: F)) := by
  refine Fn_enter Tryz.func108 rfl Tryz.ntmps108 rfl ?_
  refine R_seq ?_
  refine R_region ?_
  refine J_assign rfl rfl rfl ?_
  refine J_nil ?_
  refine E_then ?_
  refine R_seq ?_
  refine R_seq ?_
  refine R_region ?_
  refine J_move rfl rfl rfl ?_
  refine J_cmp rfl rfl rfl rfl rfl ?_
  refine J_nil2 ?_
  refine E_then ?_
  refine R_cond_false rfl ?_
  refine R_skip ?_
  refine E_then ?_
  refine R_seq ?_
  refine R_region ?_
  refine J_move rfl rfl rfl ?_
  refine J_len_slice rfl rfl rfl ?_
  refine J_conv rfl rfl rfl ?_
  refine J_move rfl rfl rfl ?_
  refine J_conv rfl rfl rfl ?_
  have e1 : IntKind.u64.wrap ((1 : Nat) : Int) = ((1 : Nat) : Int) := rfl
  have e2 : IntKind.u64.wrap (k : Int) = (k : Int) := wrapu64 (by omega)
  have e3 : IntKind.i64.wrap ((1 * k : Nat) : Int) = (k : Int) := by rw [Nat.one_mul]; exact wrap64_in (by omega)
  rw [e1, e2]
  refine J_callr rfl (bits_Mul 1 k (by omega) _) (by exact Gives.refl) rfl rfl ?_
  refine J_move rfl rfl rfl ?_
  refine J_extract rfl rfl rfl rfl ?_
  refine J_extract rfl rfl rfl rfl ?_
  refine J_assign rfl rfl rfl ?_
  refine J_assign rfl rfl rfl ?_
  refine J_nil3 ?_
  refine E_then ?_
  refine R_seq ?_
  refine R_seq ?_
  refine R_region ?_
  refine J_move rfl rfl rfl ?_
  refine J_cmp rfl rfl rfl rfl rfl ?_
  refine J_move rfl rfl rfl ?_
  refine J_guard rfl rfl rfl ?_
  refine J_move rfl rfl rfl ?_
  refine J_guard rfl rfl rfl ?_
  refine J_cmp rfl rfl rfl rfl rfl ?_
  refine J_pick_false rfl rfl rfl rfl ?_
  refine J_nil3 ?_
  refine E_then ?_
  refine R_cond rfl (fun hh => ?_) (fun hh => ?_)
  simp only [decide_eq_true_eq, decide_eq_false_iff_not, Bool.and_eq_true, Bool.or_eq_true, Bool.not_eq_true', Bool.not_eq_false', beq_iff_eq, bne_iff_ne, beq_eq_false_iff_ne, bne_eq_false_iff_eq, ne_eq, ge_iff_le, gt_iff_lt, Int.not_le, Int.not_lt, Bool.and_eq_false_iff, Bool.or_eq_false_iff, Decidable.not_not] at hh
  exfalso; omega
  simp only [decide_eq_true_eq, decide_eq_false_iff_not, Bool.and_eq_true, Bool.or_eq_true, Bool.not_eq_true', Bool.not_eq_false', beq_iff_eq, bne_iff_ne, beq_eq_false_iff_ne, bne_eq_false_iff_eq, ne_eq, ge_iff_le, gt_iff_lt, Int.not_le, Int.not_lt, Bool.and_eq_false_iff, Bool.or_eq_false_iff, Decidable.not_not] at hh
  refine R_skip ?_
  refine E_then ?_
  refine R_seq ?_
  refine R_region ?_
  refine J_move rfl rfl rfl ?_
  refine J_conv rfl rfl rfl ?_
  rw [e3]
  refine J_makeSlice rfl rfl (by omega) (by omega) (by omega) rfl rfl ?_
  intro b
  have ek : (k : Int).toNat * 1 = k := by omega
  have ek2 : (k : Int).toNat = k := by omega
  rw [ek, ek2, zeroRow_one]
  refine J_assign rfl rfl rfl ?_
  refine J_nil3 ?_
  refine E_then ?_
  refine R_seq ?_
  refine R_region ?_
  refine J_move rfl rfl rfl ?_
  refine J_move rfl rfl rfl ?_
  refine J_copy (m2 := 1) (c := min 1 k) (ys := List.replicate (min 1 k) (.string (S z))) (vs' := List.replicate (min 1 k) (.string (S z)) ++ List.replicate (k - min 1 k) (.string (S []))) rfl rfl (fun _ _ => rfl) rfl ?_ ?_ ?_ ?_ rfl rfl ?_
  · exact first_of (by simp; omega) (by
      rcases Nat.eq_zero_or_pos k with h | h
      · subst h; rfl
      · have : min 1 k = 1 := by omega
        rw [this]; rfl)
  · simp [single]
  · simp; omega
  · have := rep_split (Value.string (S z)) (Value.string (S [])) 0 k (min 1 k) (by omega)
    simpa using this
  refine J_assign rfl rfl rfl ?_
  refine J_nil3 ?_
  refine E_then ?_
  refine R_seq ?_
  refine R_block ?_
  refine R_loop (X := {j : Nat // j ≤ k ∧ (j = 0 → k = 0)}) (fun j => [(8, .int .i64 (j.1 : Int)), (7, .slice (some ⟨b, 0, none⟩) k k)])
    (fun j => cl b 9 (List.replicate j.1 (.string (S z)) ++ List.replicate (k - j.1) (.string (S []))) :: F) (fun j => k - j.1) ⟨min 1 k, by omega⟩ (by exact sub_cons rfl (sub_cons rfl sub_nil)) (by exact Gives.cons Take.here (Gives.drop Gives.refl)) ?_
  rintro ⟨j, hj, hj0⟩
  dsimp only
  refine R_seq ?_
  refine R_seq ?_
  refine R_region ?_
  refine J_move rfl rfl rfl ?_
  refine J_move rfl rfl rfl ?_
  refine J_len_slice rfl rfl rfl ?_
  refine J_cmp rfl rfl rfl rfl rfl ?_
  refine J_nil3 ?_
  refine E_then ?_
  refine R_cond rfl (fun hh => ?_) (fun hh => ?_)
  simp only [decide_eq_true_eq, decide_eq_false_iff_not, Bool.and_eq_true, Bool.or_eq_true, Bool.not_eq_true', Bool.not_eq_false', beq_iff_eq, bne_iff_ne, beq_eq_false_iff_ne, bne_eq_false_iff_eq, ne_eq, ge_iff_le, gt_iff_lt, Int.not_le, Int.not_lt, Bool.and_eq_false_iff, Bool.or_eq_false_iff, Decidable.not_not] at hh
  refine R_skip ?_
  refine E_then ?_
  refine R_block ?_
  rotate_left
  simp only [decide_eq_true_eq, decide_eq_false_iff_not, Bool.and_eq_true, Bool.or_eq_true, Bool.not_eq_true', Bool.not_eq_false', beq_iff_eq, bne_iff_ne, beq_eq_false_iff_ne, bne_eq_false_iff_eq, ne_eq, ge_iff_le, gt_iff_lt, Int.not_le, Int.not_lt, Bool.and_eq_false_iff, Bool.or_eq_false_iff, Decidable.not_not] at hh
  refine R_exit ?_
  refine E_then_exit ?_
  refine E_then_exit ?_
  refine E_block_hit ?_
  refine E_then ?_
  refine R_seq ?_
  refine R_region ?_
  refine J_move rfl rfl rfl ?_
  refine J_assign rfl rfl rfl ?_
  refine J_nil1 ?_
  refine E_then ?_
  refine R_ret ?_
  rotate_left
  · have hjk : j < k := by omega
    refine R_draw (F) [7, 9] (by kernel_rfl) ?_
    (refine D_lookP (i := 0) rfl (by kernel_rfl) (by exact NP_block (NP_then (NP_block (NP_then NP_body)))) (by exact Y_move rfl) rfl rfl ?_)
    (refine D_lookP (i := 1) rfl (by kernel_rfl) (by exact NP_block (NP_then (NP_block (NP_then NP_body)))) (by exact Y_move rfl) rfl rfl ?_)
    (refine D_lookP (i := 2) rfl (by kernel_rfl) (by exact NP_block (NP_then (NP_block (NP_then NP_body)))) (by exact Y_move rfl) rfl rfl ?_)
    (refine D_look (i := 3) rfl (by kernel_rfl) (by exact NP_block (NP_then (NP_block (NP_then NP_body)))) (by exact Gives.drop Gives.refl) (by exact Y_sliceFrom rfl rfl (by omega) (by omega) (by omega)) rfl rfl ?_)
    (refine D_lookP (i := 4) rfl (by kernel_rfl) (by exact NP_block (NP_then (NP_block (NP_then NP_body)))) (by exact Y_move rfl) rfl rfl ?_)
    (refine D_lookP (i := 5) rfl (by kernel_rfl) (by exact NP_block (NP_then (NP_block (NP_then NP_body)))) (by exact Y_move rfl) rfl rfl ?_)
    (refine D_look (i := 6) rfl (by kernel_rfl) (by exact NP_block (NP_then (NP_block (NP_then NP_body)))) (by exact Gives.drop Gives.refl) (by exact Y_sliceTo rfl rfl rfl (by omega) (by omega)) rfl rfl ?_)
    refine D_try1 (i := 7) (by kernel_rfl) rfl ?_
    have e4 : 0 + (j : Int).toNat * 1 = j := by omega
    have e5 : (j : Int).toNat = j := by omega
    rw [e4, e5]
    refine J_copy (m2 := j) (c := min j (k - j)) (ys := List.replicate (min j (k - j)) (.string (S z))) (vs' := List.replicate (j + min j (k - j)) (.string (S z)) ++ List.replicate (k - (j + min j (k - j))) (.string (S []))) rfl rfl (fun _ _ => rfl) rfl ?_ ?_ ?_ ?_ rfl rfl ?_
    · exact first_of (by simp; omega) (by
        rw [List.drop_zero, Nat.mul_one, List.take_append_of_le_length (by simp; omega), List.take_replicate]
        congr 1; omega)
    · simp [single]
    · simp; omega
    · exact rep_split _ _ _ _ _ (by omega)
    refine D_last (by kernel_rfl) ?_
    (refine D_lookP (i := 8) rfl (by kernel_rfl) (by exact NP_block (NP_then (NP_block (NP_then NP_body)))) (by exact Y_ari64 rfl rfl rfl (by omega)) rfl rfl ?_)
    refine D_try1 (i := 9) (by kernel_rfl) rfl ?_
    refine J_assign rfl rfl rfl ?_
    refine D_last (by kernel_rfl) ?_
    (first | refine D_end1 (by kernel_rfl) ?_ | refine D_end (by kernel_rfl) ?_)
    refine E_block_normal ?_
    exact E_thenI fun a w he hs => ⟨⟨j + min j (k - j), by omega⟩, by simp; omega, he.sub (by
      refine sub_cons' rfl ?_ (sub_cons rfl sub_nil)
      congr 1), hs⟩
  · have e : j = k := by omega
    subst e
    apply E_ret Tryz.results108
    · exact Res.tmp rfl (Res.nil)
    · intro w s
      refine ⟨b, rfl, ?_⟩
      simpa using s
end Go.Proofs.Sol

/- Plain: heads of a log, as bytes. -/
namespace Go.Proofs.Sol
open Go Go.Proofs
theorem num_be (n k : Nat) (h : n < 256 ^ k) : num (be n k) = n := by
  have key : ∀ (k a : Nat), (be n k).foldl (fun n c => n * 256 + c.toNat) a = a * 256 ^ k + n % 256 ^ k := by
    intro k
    induction k with
    | zero => intro a; simp [be, Nat.mod_one]
    | succ k ih =>
      intro a
      simp only [be, List.foldl_cons]
      rw [ih]
      simp only [UInt8.toNat_ofNat']
      have e1 : n % 256 ^ (k + 1) = n / 256 ^ k % 256 * 256 ^ k + n % 256 ^ k := by
        rw [Nat.pow_succ, Nat.mod_mul]
        rw [Nat.mul_comm (256 ^ k), Nat.add_comm]
      have e2 : (256 : Nat) ^ (k + 1) = 256 ^ k * 256 := Nat.pow_succ ..
      have e3 : (a * 256 + n / 256 ^ k % 2 ^ 8) * 256 ^ k = a * (256 ^ k * 256) + n / 256 ^ k % 256 * 256 ^ k := by
        rw [Nat.add_mul, Nat.mul_assoc, Nat.mul_comm 256 (256 ^ k)]
      rw [e1, e3, e2, Nat.add_assoc]
  have := key k 0
  simp only [num]
  rw [this, Nat.mod_eq_of_lt h]
  omega
theorem pad_of {s : Bytes} (h : 0 < s.length ∧ s.length ≤ 64) : pad s = s ++ List.replicate (64 - s.length) 0 := by
  unfold pad
  rcases Nat.lt_or_ge s.length 64 with h1 | h1
  · have e : (64 - s.length % 64) % 64 = 64 - s.length := by omega
    rw [e]
  · have e : s.length = 64 := by omega
    rw [e]
theorem pad_len {s : Bytes} (h : 0 < s.length ∧ s.length ≤ 64) : (pad s).length = 64 := by
  rw [pad_of h]; simp; omega
/-- What a head tells, ahead of its sum. -/
def headP (g q a : Int) : Bytes := putF (putF (putF [76] g 6) q 6) a 2
def headB (g q a : Int) : Bytes := pad (headP g q a ++ tail (headP g q a))
def headMay (g q a : Int) : Bool := decide (0 ≤ g ∧ g < 281474976710656 ∧ 0 ≤ q ∧ q < 281474976710656 ∧ 0 ≤ a ∧ a < 201)
theorem putF_fits {s : Bytes} {n size : Int} (h : fitsB n size = true) : putF s n size = s ++ be n.toNat size.toNat := by unfold putF; rw [if_pos h]
theorem fits_of {n size : Int} (k : Nat) (hk : size = k) (h1 : 1 ≤ size ∧ size ≤ 7) (h : 0 ≤ n ∧ n < ((256 ^ k : Nat) : Int)) : fitsB n size = true := by
  subst hk
  simp only [fitsB, Bool.and_eq_true, decide_eq_true_eq]
  refine ⟨⟨⟨h1.1, h1.2⟩, h.1⟩, ?_⟩
  have e : ((256 : Int) ^ ((k : Int)).toNat) = ((256 ^ k : Nat) : Int) := by simp
  rw [e]; exact h.2
theorem headP_eq {g q a : Int} (h : headMay g q a = true) : headP g q a = 76 :: (be g.toNat 6 ++ (be q.toNat 6 ++ be a.toNat 2)) := by
  simp only [headMay, decide_eq_true_eq] at h
  unfold headP
  rw [putF_fits (fits_of (size := 6) 6 rfl (by omega) (by omega)), putF_fits (fits_of (size := 6) 6 rfl (by omega) (by omega)), putF_fits (fits_of (size := 2) 2 rfl (by omega) (by omega))]
  simp
theorem headP_length {g q a : Int} (h : headMay g q a = true) : (headP g q a).length = 15 := by
  rw [headP_eq h]; simp [be_length]
theorem headB_length {g q a : Int} (h : headMay g q a = true) : (headB g q a).length = 64 := by
  unfold headB
  refine pad_len ?_
  simp [tail_length, headP_length h]
/-- What a sector says of a log's head: its numbers, and what is wrong. -/
def headNum (s : Bytes) : Int × Int × Int := ((num ((s.drop 1).take 6) : Int), (num ((s.drop 7).take 6) : Int), (num ((s.drop 13).take 2) : Int))
def headGet (s : Bytes) : (Int × Int × Int) × Int :=
  if s.length ≠ 64 then ((0, 0, 0), 12) else if s.take 1 ≠ [76] then ((0, 0, 0), 4)
  else if (s.drop 15).take 4 ≠ tail (s.take 15) then ((0, 0, 0), 5)
  else if headMay (headNum s).1 (headNum s).2.1 (headNum s).2.2 = true ∧ headB (headNum s).1 (headNum s).2.1 (headNum s).2.2 = s then (headNum s, 0) else ((0, 0, 0), 4)
theorem headB_eq {g q a : Int} (h : headMay g q a = true) : headB g q a = 76 :: (be g.toNat 6 ++ (be q.toNat 6 ++ (be a.toNat 2 ++ (tail (headP g q a) ++ List.replicate 45 0)))) := by
  have hl := headP_length h
  unfold headB
  rw [pad_of (by simp [tail_length, hl])]
  have e : 64 - (headP g q a ++ tail (headP g q a)).length = 45 := by simp [tail_length, hl]
  rw [e]
  conv => lhs; rw [List.append_assoc]; arg 1; rw [headP_eq h]
  simp
theorem take_app {α : Type} {a b : List α} {n : Nat} (h : a.length = n) : (a ++ b).take n = a := by subst h; simp
theorem drop_app {α : Type} {a b : List α} {n : Nat} (h : a.length = n) : (a ++ b).drop n = b := by subst h; simp
theorem drop_add {α : Type} {l : List α} (a b : Nat) : l.drop (a + b) = (l.drop a).drop b := by rw [List.drop_drop]
theorem headGet_put {g q a : Int} (h : headMay g q a = true) : headGet (headB g q a) = ((g, q, a), 0) := by
  have hm := h
  simp only [headMay, decide_eq_true_eq] at hm
  have e0 := headB_eq h
  have h1 : (headB g q a).drop 1 = be g.toNat 6 ++ (be q.toNat 6 ++ (be a.toNat 2 ++ (tail (headP g q a) ++ List.replicate 45 0))) := by rw [e0]; rfl
  have h7 : (headB g q a).drop 7 = be q.toNat 6 ++ (be a.toNat 2 ++ (tail (headP g q a) ++ List.replicate 45 0)) := by
    rw [drop_add 1 6, h1, drop_app (be_length _ _)]
  have h13 : (headB g q a).drop 13 = be a.toNat 2 ++ (tail (headP g q a) ++ List.replicate 45 0) := by
    rw [drop_add 7 6, h7, drop_app (be_length _ _)]
  have h15 : (headB g q a).drop 15 = tail (headP g q a) ++ List.replicate 45 0 := by
    rw [drop_add 13 2, h13, drop_app (be_length _ _)]
  have hP : (headB g q a).take 15 = headP g q a := by
    unfold headB
    rw [pad_of (by simp [tail_length, headP_length h]), List.append_assoc]
    exact take_app (headP_length h)
  have hn : headNum (headB g q a) = (g, q, a) := by
    unfold headNum
    rw [h1, h7, h13, take_app (be_length _ _), take_app (be_length _ _), take_app (be_length _ _), num_be _ _ (by omega), num_be _ _ (by omega), num_be _ _ (by omega)]
    have a1 : ((g.toNat : Nat) : Int) = g := by omega
    have a2 : ((q.toNat : Nat) : Int) = q := by omega
    have a3 : ((a.toNat : Nat) : Int) = a := by omega
    rw [a1, a2, a3]
  unfold headGet
  rw [if_neg (by simp [headB_length h]), if_neg (by rw [e0]; simp), if_neg (by rw [h15, hP, take_app (tail_length _)]; simp), hn, if_pos ⟨h, rfl⟩]
theorem headGet_zero : headGet (List.replicate 64 0) = ((0, 0, 0), 4) := by
  unfold headGet
  rw [if_neg (by simp), if_pos (by decide)]
/-- Of how many sectors a record is. -/
def recSize (s : Bytes) (q : Int) : Int × Int :=
  if s.length ≠ 64 then (0, 12) else if s.take 1 ≠ [82] ∨ (num ((s.drop 1).take 6) : Int) ≠ q ∨ (num ((s.drop 7).take 1) : Int) < 1 ∨ 16 < (num ((s.drop 7).take 1) : Int) then (0, 8)
  else ((num ((s.drop 7).take 1) : Int) + 1, 0)
theorem recSize_zero (q : Int) : recSize (List.replicate 64 0) q = (0, 8) := by
  unfold recSize
  rw [if_neg (by simp), if_pos (.inl (by decide))]
end Go.Proofs.Sol

/- The walk: elements of arrays that are values. -/
namespace Go.Proofs.Sol
open Go Go.Proofs
section
variable {P : Program} {ops : Array Oper} {rest : List Oper} {n : NT} {l g : Env} {L : List HP} {Q : QT} {d ty : Nat} {pos : String} {aft : Array Edge}
theorem run_indexArr {T E s bs len : Nat} {cs us : List Value} {k : IntKind} {i : Int} (u : UL P T (.array len E)) (t : TI P E s bs) (c : AG P E) (h0 : 0 ≤ i) (h1 : i < len) (hv : part' cs (i.toNat * s) s = some us) (w : World) :
    (Instr.index T (.agg cs.toArray) (.int k i)).run P w = .ok (.agg us.toArray) w := by
  unfold Instr.index
  rw [run_bind]; simp only [asIntOf, run_pure]
  rw [run_bind, run_underlying u]
  simp only []
  rw [if_pos ⟨h0, h1⟩, run_bind, run_sizeOf t]
  simp only []
  rw [run_partA c t, (part'_eq hv).2]
theorem Y_indexArrA {T E s bs len : Nat} {x y : Operand} {cs us : List Value} {k : IntKind} {i : Int} [u : UL P T (.array len E)] [t : TI P E s bs] [c : AG P E] (hx : ev l g x = some (.agg cs.toArray)) (hy : ev l g y = some (.int k i)) (h0 : 0 ≤ i) (h1 : i < len) (hv : part' cs (i.toNat * s) s = some us)
    : Y P n l g L ⟨some d, .index T x y, ty, pos, aft, none⟩ (.agg us.toArray) :=
  fun a e w _ => by
    simp only [execOp, e.eval hx, e.eval hy]
    exact run_value (run_indexArr u t c h0 h1 hv w)
theorem J_indexArrA {T E s bs len : Nat} {x y : Operand} {cs us : List Value} {k : IntKind} {i : Int} [u : UL P T (.array len E)] [t : TI P E s bs] [c : AG P E] (hx : ev l g x = some (.agg cs.toArray)) (hy : ev l g y = some (.int k i)) (h0 : 0 ≤ i) (h1 : i < len) (hv : part' cs (i.toNat * s) s = some us)
    (hd : Nat.blt d n.sz = true) (hn : look g d = none)
    (h : J P ops rest n ((d, .agg us.toArray) :: l) g L Q) : J P ops (⟨some d, .index T x y, ty, pos, aft, none⟩ :: rest) n l g L Q :=
  J_pure (Y_indexArrA hx hy h0 h1 hv) hd hn h
theorem Y_buildArr {T E s bs len : Nat} {parts : Array (Nat × Operand)} {zs out : List Value} {vs : List (Nat × Value)} [z : TZ P T zs] [u : UL P T (.array len E)] [i : TI P E s bs] (hv : evp l g parts.toList = some vs)
    (hf : fillL (fun i => some (i * s, s)) zs vs = some out) : Y P n l g L ⟨some d, .build T parts, ty, pos, aft, none⟩ (.agg out.toArray) :=
  fun a e w _ => by
    have h4 : parts.map (fun (i, x) => (i, a.eval x)) = vs.toArray := by
      apply Array.ext'; rw [Array.toList_map]; exact e.evalp hv
    simp only [execOp, h4]
    refine run_value ?_
    unfold Instr.build
    obtain ⟨z0, hz, hc⟩ := run_zero z w
    rw [run_bind, hz]
    simp only [hc]
    rw [run_bind, run_underlying u]
    simp only []
    rw [run_bind, run_sizeOf i]
    simp only []
    have hfl := fill_eq hf
    simp only [hfl]; rfl
theorem J_buildArr {T E s bs len : Nat} {parts : Array (Nat × Operand)} {zs out : List Value} {vs : List (Nat × Value)} [z : TZ P T zs] [u : UL P T (.array len E)] [i : TI P E s bs] (hv : evp l g parts.toList = some vs)
    (hf : fillL (fun i => some (i * s, s)) zs vs = some out) (hd : Nat.blt d n.sz = true) (hn : look g d = none)
    (h : J P ops rest n ((d, .agg out.toArray) :: l) g L Q) : J P ops (⟨some d, .build T parts, ty, pos, aft, none⟩ :: rest) n l g L Q :=
  J_pure (Y_buildArr hv hf) hd hn h
theorem J_mkIface {T : Nat} {x : Operand} {v : Value} {X : TypeDesc} [u : UL P T X] (hX : ∀ ms, X ≠ .interface ms) (hx : ev l g x = some v) (hd : Nat.blt d n.sz = true) (hn : look g d = none)
    (h : J P ops rest n ((d, .iface T v) :: l) g L Q) : J P ops (⟨some d, .makeInterface T x, ty, pos, aft, none⟩ :: rest) n l g L Q :=
  J_pure (fun a e w _ => by
    simp only [execOp, e.eval hx]
    refine run_value ?_
    unfold Instr.makeInterface
    rw [run_bind, run_underlying u]
    cases X <;> first | exact absurd rfl (hX _) | rfl) hd hn h
end
end Go.Proofs.Sol

/- Entries of a table: what may be; two as a sector. -/
namespace Go.Proofs.Sol
open Go Go.Proofs
set_option maxRecDepth 100000
set_option maxHeartbeats 4000000
set_option linter.unusedVariables false
set_option linter.unusedSimpArgs false
attribute [local irreducible] R J JW E D Fn Y clf mpI own Sat Exit.then Exit.inBlock bodyPost bodyPostM Code.wpIn wpL
structure Ent where
  a : Int
  b : Int
  slot : Int
abbrev entL (x : Ent) : List Value := [.int .i64 x.a, .int .i64 x.b, .int .i64 x.slot]
abbrev entV (x : Ent) : Value := .agg (entL x).toArray
def vecOk (a b : Int) : Bool := decide (0 ≤ a ∧ a ≤ 1125899906842624) && decide (0 ≤ b ∧ b ≤ 1125899906842624)
def entOk (x : Ent) : Bool := vecOk x.a x.b && decide (-1 ≤ x.slot ∧ x.slot < 8)
def entE (x : Ent) : Int := if entOk x then 0 else 3
theorem entOk_spec {x : Ent} (h : entOk x = true) : 0 ≤ x.a ∧ x.a ≤ 1125899906842624 ∧ 0 ≤ x.b ∧ x.b ≤ 1125899906842624 ∧ -1 ≤ x.slot ∧ x.slot < 8 := by
  simp only [entOk, vecOk, Bool.and_eq_true, decide_eq_true_eq] at h; omega
theorem vector_within (n m : Int) (F : List HP) : Fn Tryz.prog 227 [.int .i64 n, .int .i64 m] F (Pst (.bool (decide (0 ≤ n ∧ n ≤ m))) F) := by
  refine Fn_enter Tryz.func227 rfl Tryz.ntmps227 rfl ?_
  refine R_seq ?_
  refine R_region ?_
  refine J_assign rfl rfl rfl ?_
  refine J_nil ?_
  refine E_then ?_
  refine R_seq ?_
  refine R_region ?_
  refine J_move rfl rfl rfl ?_
  refine J_cmp rfl rfl rfl rfl rfl ?_
  refine J_move rfl rfl rfl ?_
  refine J_guard_split rfl rfl (fun hh => ?_) (fun hh => ?_)
  simp only [decide_eq_true_eq, decide_eq_false_iff_not, Bool.and_eq_true, Bool.or_eq_true, Bool.not_eq_true', Bool.not_eq_false', beq_iff_eq, bne_iff_ne, beq_eq_false_iff_ne, bne_eq_false_iff_eq, ne_eq, ge_iff_le, gt_iff_lt, Int.not_le, Int.not_lt, Bool.and_eq_false_iff, Bool.or_eq_false_iff, Decidable.not_not] at hh
  refine J_guard rfl rfl rfl ?_
  refine J_move rfl rfl rfl ?_
  refine J_guard rfl rfl rfl ?_
  refine J_move rfl rfl rfl ?_
  refine J_guard rfl rfl rfl ?_
  refine J_cmp rfl rfl rfl rfl rfl ?_
  refine J_pick_true rfl rfl rfl rfl ?_
  refine J_assign rfl rfl rfl ?_
  refine J_nil3 ?_
  refine E_then ?_
  refine R_ret ?_
  rotate_left
  simp only [decide_eq_true_eq, decide_eq_false_iff_not, Bool.and_eq_true, Bool.or_eq_true, Bool.not_eq_true', Bool.not_eq_false', beq_iff_eq, bne_iff_ne, beq_eq_false_iff_ne, bne_eq_false_iff_eq, ne_eq, ge_iff_le, gt_iff_lt, Int.not_le, Int.not_lt, Bool.and_eq_false_iff, Bool.or_eq_false_iff, Decidable.not_not] at hh
  refine J_guard_not rfl rfl rfl rfl rfl rfl ?_
  refine J_guard_not rfl rfl rfl rfl rfl rfl ?_
  refine J_guard_not rfl rfl rfl rfl rfl rfl ?_
  refine J_pick_false rfl rfl rfl rfl ?_
  refine J_assign rfl rfl rfl ?_
  refine J_nil3 ?_
  refine E_then ?_
  refine R_ret ?_
  rotate_left
  all_goals
    apply E_retP Tryz.results227
    · exact Res.tmp rfl (Res.nil)
    · (repeat (with_reducible exact Gives.refl))
    simp only [one]
    congr 1
    rw [Bool.eq_iff_iff]
    simp
    try omega
theorem vector_Right (a b : Int) (F : List HP) : Fn Tryz.prog 197 [.agg #[.int .i64 a, .int .i64 b]] F (Pst (.bool (vecOk a b)) F) := by
  unfold vecOk
  refine Fn_enter Tryz.func197 rfl Tryz.ntmps197 rfl ?_
  refine R_seq ?_
  refine R_region ?_
  refine J_boxA rfl rfl rfl ?_; intro
  refine J_assign rfl rfl rfl ?_
  refine J_nil ?_
  refine E_then ?_
  refine R_seq ?_
  refine R_region ?_
  refine J_fieldAddr0 rfl rfl rfl ?_
  refine J_load rfl rfl rfl rfl ?_
  refine J_callr rfl (vector_within a 1125899906842624 _) (by exact Gives.refl) rfl rfl ?_
  by_cases h1 : 0 ≤ a ∧ a ≤ 1125899906842624
  · rw [decide_eq_true h1]
    refine J_move rfl rfl rfl ?_
    refine J_guard rfl rfl rfl ?_
    refine J_fieldAddr0 rfl rfl rfl ?_
    refine J_guard rfl rfl rfl ?_
    refine J_load rfl rfl rfl rfl ?_
    refine J_guard rfl rfl rfl ?_
    refine J_callr rfl (vector_within b 1125899906842624 _) (by exact Gives.refl) rfl rfl ?_
    refine J_pick_true rfl rfl rfl rfl ?_
    refine J_assign rfl rfl rfl ?_
    refine J_nil3 ?_
    refine E_then ?_
    refine R_ret ?_
    apply E_retP Tryz.results197
    · exact Res.tmp rfl (Res.nil)
    · exact Gives.drop Gives.refl
    simp [one]
  · rw [decide_eq_false h1]
    refine J_move rfl rfl rfl ?_
    refine J_guard_not rfl rfl rfl rfl rfl rfl ?_
    refine J_guard_not rfl rfl rfl rfl rfl rfl ?_
    refine J_guard_not rfl rfl rfl rfl rfl rfl ?_
    refine J_pick_false rfl rfl rfl rfl ?_
    refine J_assign rfl rfl rfl ?_
    refine J_nil3 ?_
    refine E_then ?_
    refine R_ret ?_
    apply E_retP Tryz.results197
    · exact Res.tmp rfl (Res.nil)
    · exact Gives.drop Gives.refl
    simp [one]
theorem entry_Check (x : Ent) (F : List HP) : Fn Tryz.prog 138 [entV x] F (Pst (.int .i64 (entE x)) F) := by
  obtain ⟨a, b, s⟩ := x
  show Fn _ _ [.agg #[.int .i64 a, .int .i64 b, .int .i64 s]] _ _
  unfold entE entOk
  dsimp only
  refine Fn_enter Tryz.func138 rfl Tryz.ntmps138 rfl ?_
  refine R_seq ?_
  refine R_region ?_
  refine J_boxA rfl rfl rfl ?_; intro
  refine J_assign rfl rfl rfl ?_
  refine J_nil ?_
  refine E_then ?_
  refine R_seq ?_
  refine R_seq ?_
  refine R_region ?_
  refine J_fieldAddr0 rfl rfl rfl ?_
  refine J_loadA rfl rfl rfl rfl ?_
  refine J_callr rfl (vector_Right a b _) (by exact Gives.refl) rfl rfl ?_
  rcases Bool.eq_false_or_eq_true (vecOk a b) with h | h
  · rw [h]
    refine J_un_not rfl rfl rfl ?_
    refine J_move rfl rfl rfl ?_
    refine J_guard rfl rfl rfl ?_
    refine J_fieldAddr0 rfl rfl rfl ?_
    refine J_guard rfl rfl rfl ?_
    refine J_load rfl rfl rfl rfl ?_
    refine J_guard rfl rfl rfl ?_
    refine J_cmp rfl rfl rfl rfl rfl ?_
    refine J_pick_false rfl rfl rfl rfl ?_
    refine J_move rfl rfl rfl ?_
    refine J_guard_split rfl rfl (fun hh => ?_) (fun hh => ?_)
    simp only [decide_eq_true_eq, decide_eq_false_iff_not, Bool.and_eq_true, Bool.or_eq_true, Bool.not_eq_true', Bool.not_eq_false', beq_iff_eq, bne_iff_ne, beq_eq_false_iff_ne, bne_eq_false_iff_eq, ne_eq, ge_iff_le, gt_iff_lt, Int.not_le, Int.not_lt, Bool.and_eq_false_iff, Bool.or_eq_false_iff, Decidable.not_not] at hh
    refine J_guard_not rfl rfl rfl rfl rfl rfl ?_
    refine J_guard_not rfl rfl rfl rfl rfl rfl ?_
    refine J_guard_not rfl rfl rfl rfl rfl rfl ?_
    refine J_pick_true rfl rfl rfl rfl ?_
    refine J_nil3 ?_
    refine E_then ?_
    refine R_cond_true rfl ?_
    refine R_seq ?_
    refine R_region ?_
    refine J_assign rfl rfl rfl ?_
    refine J_nil ?_
    refine E_then ?_
    refine R_ret ?_
    refine E_then_ret ?_
    rotate_left
    simp only [decide_eq_true_eq, decide_eq_false_iff_not, Bool.and_eq_true, Bool.or_eq_true, Bool.not_eq_true', Bool.not_eq_false', beq_iff_eq, bne_iff_ne, beq_eq_false_iff_ne, bne_eq_false_iff_eq, ne_eq, ge_iff_le, gt_iff_lt, Int.not_le, Int.not_lt, Bool.and_eq_false_iff, Bool.or_eq_false_iff, Decidable.not_not] at hh
    refine J_guard rfl rfl rfl ?_
    refine J_fieldAddr0 rfl rfl rfl ?_
    refine J_guard rfl rfl rfl ?_
    refine J_load rfl rfl rfl rfl ?_
    refine J_guard rfl rfl rfl ?_
    refine J_cmp rfl rfl rfl rfl rfl ?_
    refine J_pick_false rfl rfl rfl rfl ?_
    refine J_nil3 ?_
    refine E_then ?_
    refine R_cond rfl (fun hh => ?_) (fun hh => ?_)
    simp only [decide_eq_true_eq, decide_eq_false_iff_not, Bool.and_eq_true, Bool.or_eq_true, Bool.not_eq_true', Bool.not_eq_false', beq_iff_eq, bne_iff_ne, beq_eq_false_iff_ne, bne_eq_false_iff_eq, ne_eq, ge_iff_le, gt_iff_lt, Int.not_le, Int.not_lt, Bool.and_eq_false_iff, Bool.or_eq_false_iff, Decidable.not_not] at hh
    refine R_seq ?_
    refine R_region ?_
    refine J_assign rfl rfl rfl ?_
    refine J_nil ?_
    refine E_then ?_
    refine R_ret ?_
    refine E_then_ret ?_
    rotate_left
    simp only [decide_eq_true_eq, decide_eq_false_iff_not, Bool.and_eq_true, Bool.or_eq_true, Bool.not_eq_true', Bool.not_eq_false', beq_iff_eq, bne_iff_ne, beq_eq_false_iff_ne, bne_eq_false_iff_eq, ne_eq, ge_iff_le, gt_iff_lt, Int.not_le, Int.not_lt, Bool.and_eq_false_iff, Bool.or_eq_false_iff, Decidable.not_not] at hh
    refine R_skip ?_
    refine E_then ?_
    refine R_seq ?_
    refine R_region ?_
    refine J_assign rfl rfl rfl ?_
    refine J_nil ?_
    refine E_then ?_
    refine R_ret ?_
    rotate_left
    all_goals
      apply E_retP Tryz.results138
      · exact Res.tmp rfl (Res.nil)
      · (repeat (first | ((fail_if_success (apply Gives.cons)); refine Gives.drop ?_) | with_reducible exact Gives.refl))
      simp [one]; omega
  · rw [h]
    refine J_un_not rfl rfl rfl ?_
    refine J_move rfl rfl rfl ?_
    refine J_guard_not rfl rfl rfl rfl rfl rfl ?_
    refine J_guard_not rfl rfl rfl rfl rfl rfl ?_
    refine J_guard_not rfl rfl rfl rfl rfl rfl ?_
    refine J_pick_true rfl rfl rfl rfl ?_
    refine J_move rfl rfl rfl ?_
    refine J_guard_not rfl rfl rfl rfl rfl rfl ?_
    refine J_guard_not rfl rfl rfl rfl rfl rfl ?_
    refine J_guard_not rfl rfl rfl rfl rfl rfl ?_
    refine J_pick_true rfl rfl rfl rfl ?_
    refine J_nil3 ?_
    refine E_then ?_
    refine R_cond_true rfl ?_
    refine R_seq ?_
    refine R_region ?_
    refine J_assign rfl rfl rfl ?_
    refine J_nil ?_
    refine E_then ?_
    refine R_ret ?_
    refine E_then_ret ?_
    apply E_retP Tryz.results138
    · exact Res.tmp rfl (Res.nil)
    · exact Gives.drop Gives.refl
    simp [one]
def entP (s : Bytes) (x : Ent) : Bytes := putF (putF (putF s x.a 7) x.b 7) (x.slot + 1) 1
def entT (x y : Ent) : Bytes := entP (entP [69] x) y
def entB (x y : Ent) : Bytes := pad (entT x y ++ tail (entT x y))
theorem entP_length {s : Bytes} {x : Ent} (h : entOk x = true) : (entP s x).length = s.length + 15 := by
  have hs := entOk_spec h
  unfold entP
  rw [putF_fits (fits_of (size := 7) 7 rfl (by omega) (by omega)), putF_fits (fits_of (size := 7) 7 rfl (by omega) (by omega)), putF_fits (fits_of (size := 1) 1 rfl (by omega) (by omega))]
  simp [be_length]
theorem entP_eq {s : Bytes} {x : Ent} (h : entOk x = true) : entP s x = s ++ (be x.a.toNat 7 ++ (be x.b.toNat 7 ++ be (x.slot + 1).toNat 1)) := by
  have hs := entOk_spec h
  unfold entP
  rw [putF_fits (fits_of (size := 7) 7 rfl (by omega) (by omega)), putF_fits (fits_of (size := 7) 7 rfl (by omega) (by omega)), putF_fits (fits_of (size := 1) 1 rfl (by omega) (by omega))]
  simp
theorem vector_Put (s : Bytes) (a b : Int) (hs : s.length < 1000000) (ha : -9223372036854775808 ≤ a ∧ a < 9223372036854775808) (hb : -9223372036854775808 ≤ b ∧ b < 9223372036854775808) (F : List HP) :
    Fn Tryz.prog 198 [.string (S s), .agg #[.int .i64 a, .int .i64 b]] F (Pst (.string (S (putF (putF s a 7) b 7))) F) := by
  have l1 := putF_length s a 7
  refine Fn_enter Tryz.func198 rfl Tryz.ntmps198 rfl ?_
  refine R_seq ?_
  refine R_region ?_
  refine J_boxA rfl rfl rfl ?_; intro
  refine J_assign rfl rfl rfl ?_
  refine J_nil ?_
  refine E_then ?_
  refine R_seq ?_
  rename_i t3
  refine R_draw ([cl t3 89 [.int .i64 a, .int .i64 b]]) [6, 7] (by kernel_rfl) ?_
  (refine D_lookP (i := 0) rfl (by kernel_rfl) (by exact NP_then NP_body) (by exact Y_move rfl) rfl rfl ?_)
  (refine D_lookP (i := 1) rfl (by kernel_rfl) (by exact NP_then NP_body) (by exact Y_fieldAddr0 rfl) rfl rfl ?_)
  (refine D_look (i := 2) rfl (by kernel_rfl) (by exact NP_then NP_body) (by exact Gives.cons Take.here Gives.nil) (by exact Y_load rfl rfl) rfl rfl ?_)
  (refine D_lookP (i := 4) rfl (by kernel_rfl) (by exact NP_then NP_body) (by exact Y_fieldAddr0 rfl) rfl rfl ?_)
  (refine D_look (i := 5) rfl (by kernel_rfl) (by exact NP_then NP_body) (by exact Gives.cons Take.here Gives.nil) (by exact Y_load rfl rfl) rfl rfl ?_)
  refine D_try1 (i := 3) (by kernel_rfl) rfl ?_
  refine J_callr rfl (field_Put s a 7 (by omega) (by omega) _) (by exact Gives.refl) rfl rfl ?_
  refine D_next (by exact Gives.cons Take.here Gives.nil) ?_
  refine D_try1 (i := 6) (by kernel_rfl) rfl ?_
  refine J_callr rfl (field_Put _ b 7 (by omega) (by omega) _) (by exact Gives.refl) rfl rfl ?_
  refine D_last (by kernel_rfl) ?_
  refine D_try1 (i := 7) (by kernel_rfl) rfl ?_
  refine J_assign rfl rfl rfl ?_
  refine D_last (by kernel_rfl) ?_
  (first | refine D_end1 (by kernel_rfl) ?_ | refine D_end (by kernel_rfl) ?_)
  refine E_then ?_
  refine R_ret ?_
  apply E_retP Tryz.results198
  · exact Res.tmp rfl (Res.nil)
  · exact Gives.drop Gives.refl
  rfl
abbrev pairL (x y : Ent) : List Value := [.int .i64 x.a, .int .i64 x.b, .int .i64 x.slot, .int .i64 y.a, .int .i64 y.b, .int .i64 y.slot]
theorem entry_Put (x y : Ent) (F : List HP) : Fn Tryz.prog 139 [.agg (pairL x y).toArray] F (Pst (.tuple #[.string (S (if entOk x && entOk y then entB x y else [])), .int .i64 (if entOk x && entOk y then 0 else 3)]) F) := by
  obtain ⟨a, b, s⟩ := x
  obtain ⟨a2, b2, s2⟩ := y
  dsimp only [pairL]
  refine Fn_enter Tryz.func139 rfl Tryz.ntmps139 rfl ?_
  refine R_seq ?_
  refine R_region ?_
  refine J_boxA rfl rfl rfl ?_; intro
  refine J_assign rfl rfl rfl ?_
  refine J_assign rfl rfl rfl ?_
  refine J_nil ?_
  refine E_then ?_
  refine R_seq ?_
  refine R_region ?_
  refine J_assign rfl rfl rfl ?_
  refine J_nil ?_
  refine E_then ?_
  refine R_seq ?_
  refine R_seq ?_
  refine R_region ?_
  refine J_loadA rfl rfl rfl rfl ?_
  refine J_move rfl rfl rfl ?_
  refine J_nil2 ?_
  refine E_then ?_
  refine R_block ?_
  rename_i t1
  refine R_loop (X := {x : Nat × Bytes // x.1 ≤ 2 ∧ (x.1 = 0 → x.2 = [69]) ∧ (x.1 = 1 → entOk ⟨a, b, s⟩ = true ∧ x.2 = entP [69] ⟨a, b, s⟩) ∧ (x.1 = 2 → entOk ⟨a, b, s⟩ = true ∧ entOk ⟨a2, b2, s2⟩ = true ∧ x.2 = entT ⟨a, b, s⟩ ⟨a2, b2, s2⟩)})
    (fun x => [(9, .int .i64 (x.1.1 : Int)), (8, .agg #[.int .i64 a, .int .i64 b, .int .i64 s, .int .i64 a2, .int .i64 b2, .int .i64 s2]), (4, .string (S x.1.2))])
    (fun _ => F) (fun x => 2 - x.1.1) ⟨(0, [69]), by omega, fun _ => rfl, fun h => (by cases h), fun h => (by cases h)⟩ (by exact sub_cons rfl (sub_cons rfl (sub_cons rfl sub_nil))) (by exact Gives.drop Gives.refl) ?_
  rintro ⟨⟨j, z⟩, hj, h0, h1, h2⟩
  dsimp only at hj h0 h1 h2 ⊢
  have hj3 : j = 0 ∨ j = 1 ∨ j = 2 := by omega
  rcases hj3 with rfl | rfl | rfl
  · obtain rfl := h0 rfl
    refine R_seq ?_
    refine R_region ?_
    refine J_cmp rfl rfl rfl rfl rfl ?_
    refine J_nil1 ?_
    refine E_then ?_
    refine R_seq ?_
    refine R_cond_true rfl ?_
    refine R_skip ?_
    refine E_then ?_
    refine R_seq ?_
    refine R_block ?_
    refine R_seq ?_
    refine R_region ?_
    refine J_indexArrA rfl rfl (by omega) (by omega) rfl rfl rfl ?_
    refine J_alloc rfl rfl ?_; intro
    refine J_storeA rfl rfl rfl rfl rfl rfl ?_
    refine J_nil1 ?_
    refine E_then ?_
    refine R_seq ?_
    refine R_seq ?_
    refine R_region ?_
    refine J_loadA rfl rfl rfl rfl ?_
    rename_i t6
    refine J_callr rfl (entry_Check ⟨a, b, s⟩ _) (by exact Gives.refl) rfl rfl ?_
    by_cases hok : entOk ⟨a, b, s⟩ = true
    · have hs := entOk_spec hok
      dsimp only at hs
      have e : entE ⟨a, b, s⟩ = 0 := by simp [entE, hok]
      rw [e]
      have l1 := putF_length [69] a 7
      have l2 := putF_length (putF [69] a 7) b 7
      simp at l1
      refine J_assign rfl rfl rfl ?_
      refine J_nil2 ?_
      refine E_then ?_
      refine R_seq ?_
      refine R_region ?_
      refine J_move rfl rfl rfl ?_
      refine J_cmp rfl rfl rfl rfl rfl ?_
      refine J_nil2 ?_
      refine E_then ?_
      refine R_cond_false rfl ?_
      refine R_skip ?_
      refine E_then ?_
      refine R_draw ([cl t6 91 [.int .i64 a, .int .i64 b, .int .i64 s]]) [7, 8] (by kernel_rfl) ?_
      (refine D_lookP (i := 0) rfl (by kernel_rfl) (by exact NP_block (NP_then (NP_then (NP_block (NP_then NP_body))))) (by exact Y_move rfl) rfl rfl ?_)
      (refine D_lookP (i := 1) rfl (by kernel_rfl) (by exact NP_block (NP_then (NP_then (NP_block (NP_then NP_body))))) (by exact Y_fieldAddr0 rfl) rfl rfl ?_)
      (refine D_look (i := 2) rfl (by kernel_rfl) (by exact NP_block (NP_then (NP_then (NP_block (NP_then NP_body))))) (by exact Gives.cons Take.here Gives.nil) (by exact Y_loadA rfl rfl) rfl rfl ?_)
      (refine D_lookP (i := 4) rfl (by kernel_rfl) (by exact NP_block (NP_then (NP_then (NP_block (NP_then NP_body))))) (by exact Y_fieldAddr0 rfl) rfl rfl ?_)
      (refine D_look (i := 5) rfl (by kernel_rfl) (by exact NP_block (NP_then (NP_then (NP_block (NP_then NP_body))))) (by exact Gives.cons Take.here Gives.nil) (by exact Y_load rfl rfl) rfl rfl ?_)
      (refine D_lookP (i := 6) rfl (by kernel_rfl) (by exact NP_block (NP_then (NP_then (NP_block (NP_then NP_body))))) (by exact Y_ari64 rfl rfl rfl (by omega)) rfl rfl ?_)
      refine D_try1 (i := 3) (by kernel_rfl) rfl ?_
      refine J_callr rfl (vector_Put [69] a b (by simp) (by omega) (by omega) _) (by exact Gives.refl) rfl rfl ?_
      refine D_next (by exact Gives.cons Take.here Gives.nil) ?_
      refine D_try1 (i := 7) (by kernel_rfl) rfl ?_
      refine J_callr rfl (field_Put _ (s + 1) 1 (by omega) (by omega) _) (by exact Gives.refl) rfl rfl ?_
      refine D_last (by kernel_rfl) ?_
      refine D_try1 (i := 8) (by kernel_rfl) rfl ?_
      refine J_assign rfl rfl rfl ?_
      refine D_last (by kernel_rfl) ?_
      (first | refine D_end1 (by kernel_rfl) ?_ | refine D_end (by kernel_rfl) ?_)
      refine E_block_normal ?_
      refine E_then ?_
      refine R_region ?_
      refine J_ari64 rfl rfl rfl (by omega) rfl rfl ?_
      refine J_moveg rfl rfl rfl ?_
      refine J_nil1 ?_
      exact E_thenI fun a' w he hs => ⟨⟨(1, entP [69] ⟨a, b, s⟩), by omega, fun h => (by cases h), fun _ => ⟨hok, rfl⟩, fun h => (by cases h)⟩, by simp, he.sub (by exact sub_cons rfl (sub_cons rfl (sub_cons rfl sub_nil))), hs.gives (by exact Gives.drop Gives.refl)⟩
    · rw [Bool.not_eq_true] at hok
      have e : entE ⟨a, b, s⟩ = 3 := by simp [entE, hok]
      rw [e]
      refine J_assign rfl rfl rfl ?_
      refine J_nil2 ?_
      refine E_then ?_
      refine R_seq ?_
      refine R_region ?_
      refine J_move rfl rfl rfl ?_
      refine J_cmp rfl rfl rfl rfl rfl ?_
      refine J_nil2 ?_
      refine E_then ?_
      refine R_cond_true rfl ?_
      refine R_seq ?_
      refine R_region ?_
      refine J_move rfl rfl rfl ?_
      refine J_assign rfl rfl rfl ?_
      refine J_assign rfl rfl rfl ?_
      refine J_nil1 ?_
      refine E_then ?_
      refine R_ret ?_
      refine E_then_ret ?_
      refine E_block_ret ?_
      refine E_then_ret ?_
      refine E_then_ret ?_
      refine E_block_ret ?_
      refine E_then_ret ?_
      apply E_retP Tryz.results139
      · exact Res.tmp rfl (Res.tmp rfl (Res.nil))
      · exact Gives.drop Gives.refl
      simp [one, hok]
  · obtain ⟨hx, rfl⟩ := h1 rfl
    have lx := entP_length (s := [69]) hx
    simp at lx
    generalize hz : entP [69] ⟨a, b, s⟩ = z at lx
    refine R_seq ?_
    refine R_region ?_
    refine J_cmp rfl rfl rfl rfl rfl ?_
    refine J_nil1 ?_
    refine E_then ?_
    refine R_seq ?_
    refine R_cond_true rfl ?_
    refine R_skip ?_
    refine E_then ?_
    refine R_seq ?_
    refine R_block ?_
    refine R_seq ?_
    refine R_region ?_
    refine J_indexArrA rfl rfl (by omega) (by omega) rfl rfl rfl ?_
    refine J_alloc rfl rfl ?_; intro
    refine J_storeA rfl rfl rfl rfl rfl rfl ?_
    refine J_nil1 ?_
    refine E_then ?_
    refine R_seq ?_
    refine R_seq ?_
    refine R_region ?_
    refine J_loadA rfl rfl rfl rfl ?_
    rename_i t6
    refine J_callr rfl (entry_Check ⟨a2, b2, s2⟩ _) (by exact Gives.refl) rfl rfl ?_
    by_cases hok : entOk ⟨a2, b2, s2⟩ = true
    · have hs := entOk_spec hok
      dsimp only at hs
      have e : entE ⟨a2, b2, s2⟩ = 0 := by simp [entE, hok]
      rw [e]
      have l1 := putF_length z a2 7
      have l2 := putF_length (putF z a2 7) b2 7
      refine J_assign rfl rfl rfl ?_
      refine J_nil2 ?_
      refine E_then ?_
      refine R_seq ?_
      refine R_region ?_
      refine J_move rfl rfl rfl ?_
      refine J_cmp rfl rfl rfl rfl rfl ?_
      refine J_nil2 ?_
      refine E_then ?_
      refine R_cond_false rfl ?_
      refine R_skip ?_
      refine E_then ?_
      refine R_draw ([cl t6 91 [.int .i64 a2, .int .i64 b2, .int .i64 s2]]) [7, 8] (by kernel_rfl) ?_
      (refine D_lookP (i := 0) rfl (by kernel_rfl) (by exact NP_block (NP_then (NP_then (NP_block (NP_then NP_body))))) (by exact Y_move rfl) rfl rfl ?_)
      (refine D_lookP (i := 1) rfl (by kernel_rfl) (by exact NP_block (NP_then (NP_then (NP_block (NP_then NP_body))))) (by exact Y_fieldAddr0 rfl) rfl rfl ?_)
      (refine D_look (i := 2) rfl (by kernel_rfl) (by exact NP_block (NP_then (NP_then (NP_block (NP_then NP_body))))) (by exact Gives.cons Take.here Gives.nil) (by exact Y_loadA rfl rfl) rfl rfl ?_)
      (refine D_lookP (i := 4) rfl (by kernel_rfl) (by exact NP_block (NP_then (NP_then (NP_block (NP_then NP_body))))) (by exact Y_fieldAddr0 rfl) rfl rfl ?_)
      (refine D_look (i := 5) rfl (by kernel_rfl) (by exact NP_block (NP_then (NP_then (NP_block (NP_then NP_body))))) (by exact Gives.cons Take.here Gives.nil) (by exact Y_load rfl rfl) rfl rfl ?_)
      (refine D_lookP (i := 6) rfl (by kernel_rfl) (by exact NP_block (NP_then (NP_then (NP_block (NP_then NP_body))))) (by exact Y_ari64 rfl rfl rfl (by omega)) rfl rfl ?_)
      refine D_try1 (i := 3) (by kernel_rfl) rfl ?_
      refine J_callr rfl (vector_Put z a2 b2 (by omega) (by omega) (by omega) _) (by exact Gives.refl) rfl rfl ?_
      refine D_next (by exact Gives.cons Take.here Gives.nil) ?_
      refine D_try1 (i := 7) (by kernel_rfl) rfl ?_
      refine J_callr rfl (field_Put _ (s2 + 1) 1 (by omega) (by omega) _) (by exact Gives.refl) rfl rfl ?_
      refine D_last (by kernel_rfl) ?_
      refine D_try1 (i := 8) (by kernel_rfl) rfl ?_
      refine J_assign rfl rfl rfl ?_
      refine D_last (by kernel_rfl) ?_
      (first | refine D_end1 (by kernel_rfl) ?_ | refine D_end (by kernel_rfl) ?_)
      refine E_block_normal ?_
      refine E_then ?_
      refine R_region ?_
      refine J_ari64 rfl rfl rfl (by omega) rfl rfl ?_
      refine J_moveg rfl rfl rfl ?_
      refine J_nil1 ?_
      exact E_thenI fun a' w he hs => ⟨⟨(2, entT ⟨a, b, s⟩ ⟨a2, b2, s2⟩), by omega, fun h => (by cases h), fun h => (by cases h), fun _ => ⟨hx, hok, rfl⟩⟩, by simp, he.sub (by unfold entT; rw [hz]; exact sub_cons rfl (sub_cons rfl (sub_cons rfl sub_nil))), hs.gives (by exact Gives.drop Gives.refl)⟩
    · rw [Bool.not_eq_true] at hok
      have e : entE ⟨a2, b2, s2⟩ = 3 := by simp [entE, hok]
      rw [e]
      refine J_assign rfl rfl rfl ?_
      refine J_nil2 ?_
      refine E_then ?_
      refine R_seq ?_
      refine R_region ?_
      refine J_move rfl rfl rfl ?_
      refine J_cmp rfl rfl rfl rfl rfl ?_
      refine J_nil2 ?_
      refine E_then ?_
      refine R_cond_true rfl ?_
      refine R_seq ?_
      refine R_region ?_
      refine J_move rfl rfl rfl ?_
      refine J_assign rfl rfl rfl ?_
      refine J_assign rfl rfl rfl ?_
      refine J_nil1 ?_
      refine E_then ?_
      refine R_ret ?_
      refine E_then_ret ?_
      refine E_block_ret ?_
      refine E_then_ret ?_
      refine E_then_ret ?_
      refine E_block_ret ?_
      refine E_then_ret ?_
      apply E_retP Tryz.results139
      · exact Res.tmp rfl (Res.tmp rfl (Res.nil))
      · exact Gives.drop Gives.refl
      simp [one, hok]
  · obtain ⟨hx, hy, rfl⟩ := h2 rfl
    have lx : (entT ⟨a, b, s⟩ ⟨a2, b2, s2⟩).length = 31 := by unfold entT; rw [entP_length hy, entP_length hx]; rfl
    rw [hx, hy]
    simp only [Bool.and_self, if_true]
    unfold entB
    generalize hz : entT ⟨a, b, s⟩ ⟨a2, b2, s2⟩ = z at lx ⊢
    have lt := tail_length z
    refine R_seq ?_
    refine R_region ?_
    refine J_cmp rfl rfl rfl rfl rfl ?_
    refine J_nil1 ?_
    refine E_then ?_
    refine R_seq ?_
    refine R_cond_false rfl ?_
    refine R_exit ?_
    refine E_then_exit ?_
    refine E_then_exit ?_
    refine E_block_hit ?_
    refine E_then ?_
    refine R_seq ?_
    refine R_region ?_
    refine J_move rfl rfl rfl ?_
    refine J_move rfl rfl rfl ?_
    refine J_callr rfl (cyclic_Tail z (by omega) _) (by exact Gives.refl) rfl rfl ?_
    refine J_str_add rfl rfl (by omega) rfl rfl ?_
    refine J_callr rfl (region_Pad _ (by simp; omega) _) (by exact Gives.refl) rfl rfl ?_
    refine J_assign rfl rfl rfl ?_
    refine J_assign rfl rfl rfl ?_
    refine J_nil3 ?_
    refine E_then ?_
    refine R_ret ?_
    apply E_retP Tryz.results139
    · exact Res.tmp rfl (Res.tmp rfl (Res.nil))
    · exact Gives.refl
    rfl
end Go.Proofs.Sol

/- Reading fields. -/
namespace Go.Proofs.Sol
open Go Go.Proofs
set_option maxRecDepth 100000
set_option maxHeartbeats 4000000
set_option linter.unusedVariables false
set_option linter.unusedSimpArgs false
attribute [local irreducible] R J JW E D Fn Y clf mpI own Sat Exit.then Exit.inBlock bodyPost bodyPostM Code.wpIn wpL
/-- A reader: what is left, and what is wrong. -/
structure Rd where
  rest : List UInt8
  err : Int
abbrev rdr (b : Nat) (r : Rd) : HP := cl b 254 [.string (S r.rest), .int .i64 r.err]
def Rd.fail (r : Rd) (e : Int) : Rd := if r.err = 0 then ⟨r.rest, e⟩ else r
theorem field_New (s : List UInt8) (F : List HP) : Fn Tryz.prog 129 [.string (S s)] F (fun v w => ∃ b, v = .pointer (some ⟨b, 0, none⟩) ∧ Sat w (rdr b ⟨s, 0⟩ :: F)) := by
  refine Fn_enter Tryz.func129 rfl Tryz.ntmps129 rfl ?_
  refine R_seq ?_
  refine R_region ?_
  refine J_assign rfl rfl rfl ?_
  refine J_nil ?_
  refine E_then ?_
  refine R_seq ?_
  refine R_region ?_
  refine J_move rfl rfl rfl ?_
  refine J_build rfl rfl rfl rfl ?_
  refine J_boxA rfl rfl rfl ?_; intro
  refine J_assign rfl rfl rfl ?_
  refine J_nil2 ?_
  refine E_then ?_
  refine R_ret ?_
  apply E_ret Tryz.results129
  · exact Res.tmp rfl (Res.nil)
  · intro w s
    exact ⟨_, rfl, s⟩
theorem field_fail (b : Nat) (r : Rd) (e : Int) (F : List HP) : Fn Tryz.prog 191 [.pointer (some ⟨b, 0, none⟩), .int .i64 e] (rdr b r :: F) (Pst (.tuple #[]) (rdr b (r.fail e) :: F)) := by
  refine Fn_enter Tryz.func191 rfl Tryz.ntmps191 rfl ?_
  by_cases h : r.err = 0
  · simp only [rdr, Rd.fail, h, if_true]
    refine R_seq ?_
    refine R_region ?_
    refine J_move rfl rfl rfl ?_
    refine J_nilCheck rfl rfl rfl ?_
    refine J_fieldAddr0 rfl rfl rfl ?_
    refine J_load rfl rfl rfl rfl ?_
    refine J_cmp rfl rfl rfl rfl rfl ?_
    refine J_nil3 ?_
    refine E_then ?_
    refine R_cond_true rfl ?_
    refine R_region ?_
    refine J_move rfl rfl rfl ?_
    refine J_move rfl rfl rfl ?_
    refine J_nilCheck rfl rfl rfl ?_
    refine J_fieldAddr0 rfl rfl rfl ?_
    refine J_store rfl rfl rfl rfl ?_
    refine J_nil3 ?_
    apply E_endP Tryz.results191
    · exact Res.nil
    · exact Gives.refl
    rfl
  · simp only [rdr, Rd.fail, h, if_false]
    refine R_seq ?_
    refine R_region ?_
    refine J_move rfl rfl rfl ?_
    refine J_nilCheck rfl rfl rfl ?_
    refine J_fieldAddr0 rfl rfl rfl ?_
    refine J_load rfl rfl rfl rfl ?_
    refine J_cmp rfl rfl rfl rfl rfl ?_
    refine J_nil3 ?_
    refine E_then ?_
    refine R_cond rfl (fun hh => ?_) (fun hh => ?_)
    simp only [decide_eq_true_eq, decide_eq_false_iff_not, Bool.and_eq_true, Bool.or_eq_true, Bool.not_eq_true', Bool.not_eq_false', beq_iff_eq, bne_iff_ne, beq_eq_false_iff_ne, bne_eq_false_iff_eq, ne_eq, ge_iff_le, gt_iff_lt, Int.not_le, Int.not_lt, Bool.and_eq_false_iff, Bool.or_eq_false_iff, Decidable.not_not] at hh
    exfalso; omega
    simp only [decide_eq_true_eq, decide_eq_false_iff_not, Bool.and_eq_true, Bool.or_eq_true, Bool.not_eq_true', Bool.not_eq_false', beq_iff_eq, bne_iff_ne, beq_eq_false_iff_ne, bne_eq_false_iff_eq, ne_eq, ge_iff_le, gt_iff_lt, Int.not_le, Int.not_lt, Bool.and_eq_false_iff, Bool.or_eq_false_iff, Decidable.not_not] at hh
    refine R_skip ?_
    apply E_endP Tryz.results191
    · exact Res.nil
    · exact Gives.refl
    rfl
def Rd.got (r : Rd) (n : Int) : List UInt8 := if r.err = 0 ∧ 0 ≤ n ∧ n ≤ r.rest.length then r.rest.take n.toNat else []
def Rd.next (r : Rd) (n : Int) : Rd := if r.err = 0 then (if n < 0 then ⟨r.rest, 3⟩ else if n ≤ r.rest.length then ⟨r.rest.drop n.toNat, 0⟩ else ⟨r.rest, 1⟩) else r
theorem field_Bytes (b : Nat) (r : Rd) (n : Int) (F : List HP) : Fn Tryz.prog 130 [.pointer (some ⟨b, 0, none⟩), .int .i64 n] (rdr b r :: F) (Pst (.string (S (r.got n))) (rdr b (r.next n) :: F)) := by
  refine Fn_enter Tryz.func130 rfl Tryz.ntmps130 rfl ?_
  obtain ⟨s, e⟩ := r
  refine R_seq ?_
  refine R_region ?_
  refine J_assign rfl rfl rfl ?_
  refine J_nil ?_
  refine E_then ?_
  refine R_seq ?_
  refine R_seq ?_
  refine R_region ?_
  refine J_move rfl rfl rfl ?_
  refine J_ptr_nil rfl rfl rfl rfl ?_
  refine J_nil2 ?_
  refine E_then ?_
  refine R_cond_false rfl ?_
  refine R_skip ?_
  refine E_then ?_
  refine R_seq ?_
  refine R_seq ?_
  refine R_region ?_
  refine J_move rfl rfl rfl ?_
  refine J_cmp rfl rfl rfl rfl rfl ?_
  refine J_nil2 ?_
  refine E_then ?_
  refine R_cond rfl (fun hh => ?_) (fun hh => ?_)
  simp only [decide_eq_true_eq, decide_eq_false_iff_not, Bool.and_eq_true, Bool.or_eq_true, Bool.not_eq_true', Bool.not_eq_false', beq_iff_eq, bne_iff_ne, beq_eq_false_iff_ne, bne_eq_false_iff_eq, ne_eq, ge_iff_le, gt_iff_lt, Int.not_le, Int.not_lt, Bool.and_eq_false_iff, Bool.or_eq_false_iff, Decidable.not_not] at hh
  refine R_region ?_
  refine J_move rfl rfl rfl ?_
  rotate_left
  simp only [decide_eq_true_eq, decide_eq_false_iff_not, Bool.and_eq_true, Bool.or_eq_true, Bool.not_eq_true', Bool.not_eq_false', beq_iff_eq, bne_iff_ne, beq_eq_false_iff_ne, bne_eq_false_iff_eq, ne_eq, ge_iff_le, gt_iff_lt, Int.not_le, Int.not_lt, Bool.and_eq_false_iff, Bool.or_eq_false_iff, Decidable.not_not] at hh
  refine R_seq ?_
  refine R_region ?_
  refine J_move rfl rfl rfl ?_
  refine J_move rfl rfl rfl ?_
  refine J_nilCheck rfl rfl rfl ?_
  refine J_fieldAddr0 rfl rfl rfl ?_
  refine J_load rfl rfl rfl rfl ?_
  refine J_len_str rfl rfl rfl ?_
  refine J_cmp rfl rfl rfl rfl rfl ?_
  refine J_nil3 ?_
  refine E_then ?_
  refine R_cond rfl (fun hh => ?_) (fun hh => ?_)
  simp only [decide_eq_true_eq, decide_eq_false_iff_not, Bool.and_eq_true, Bool.or_eq_true, Bool.not_eq_true', Bool.not_eq_false', beq_iff_eq, bne_iff_ne, beq_eq_false_iff_ne, bne_eq_false_iff_eq, ne_eq, ge_iff_le, gt_iff_lt, Int.not_le, Int.not_lt, Bool.and_eq_false_iff, Bool.or_eq_false_iff, Decidable.not_not] at hh
  refine R_region ?_
  refine J_move rfl rfl rfl ?_
  rotate_left
  simp only [decide_eq_true_eq, decide_eq_false_iff_not, Bool.and_eq_true, Bool.or_eq_true, Bool.not_eq_true', Bool.not_eq_false', beq_iff_eq, bne_iff_ne, beq_eq_false_iff_ne, bne_eq_false_iff_eq, ne_eq, ge_iff_le, gt_iff_lt, Int.not_le, Int.not_lt, Bool.and_eq_false_iff, Bool.or_eq_false_iff, Decidable.not_not] at hh
  refine R_skip ?_
  refine E_then ?_
  refine R_seq ?_
  refine R_seq ?_
  refine R_region ?_
  refine J_move rfl rfl rfl ?_
  refine J_nilCheck rfl rfl rfl ?_
  refine J_fieldAddr0 rfl rfl rfl ?_
  refine J_load rfl rfl rfl rfl ?_
  refine J_cmp rfl rfl rfl rfl rfl ?_
  refine J_nil3 ?_
  refine E_then ?_
  refine R_cond rfl (fun hh => ?_) (fun hh => ?_)
  simp only [decide_eq_true_eq, decide_eq_false_iff_not, Bool.and_eq_true, Bool.or_eq_true, Bool.not_eq_true', Bool.not_eq_false', beq_iff_eq, bne_iff_ne, beq_eq_false_iff_ne, bne_eq_false_iff_eq, ne_eq, ge_iff_le, gt_iff_lt, Int.not_le, Int.not_lt, Bool.and_eq_false_iff, Bool.or_eq_false_iff, Decidable.not_not] at hh
  refine R_seq ?_
  refine R_region ?_
  refine J_assign rfl rfl rfl ?_
  refine J_nil ?_
  refine E_then ?_
  refine R_ret ?_
  refine E_then_ret ?_
  rotate_left
  simp only [decide_eq_true_eq, decide_eq_false_iff_not, Bool.and_eq_true, Bool.or_eq_true, Bool.not_eq_true', Bool.not_eq_false', beq_iff_eq, bne_iff_ne, beq_eq_false_iff_ne, bne_eq_false_iff_eq, ne_eq, ge_iff_le, gt_iff_lt, Int.not_le, Int.not_lt, Bool.and_eq_false_iff, Bool.or_eq_false_iff, Decidable.not_not] at hh
  refine R_skip ?_
  refine E_then ?_
  refine R_seq ?_
  refine R_region ?_
  refine J_move rfl rfl rfl ?_
  refine J_nilCheck rfl rfl rfl ?_
  refine J_fieldAddr0 rfl rfl rfl ?_
  refine J_load rfl rfl rfl rfl ?_
  refine J_move rfl rfl rfl ?_
  refine J_slice_hi rfl rfl (by omega) (by omega) rfl rfl ?_
  refine J_assign rfl rfl rfl ?_
  refine J_nil3 ?_
  refine E_then ?_
  refine R_seq ?_
  refine R_region ?_
  refine J_move rfl rfl rfl ?_
  refine J_move rfl rfl rfl ?_
  refine J_nilCheck rfl rfl rfl ?_
  refine J_fieldAddr0 rfl rfl rfl ?_
  refine J_load rfl rfl rfl rfl ?_
  refine J_move rfl rfl rfl ?_
  refine J_slice_lo rfl rfl (by omega) (by omega) rfl rfl ?_
  refine J_nilCheck rfl rfl rfl ?_
  refine J_fieldAddr0 rfl rfl rfl ?_
  refine J_store rfl rfl rfl rfl ?_
  refine J_nil3 ?_
  refine E_then ?_
  refine R_seq ?_
  refine R_region ?_
  refine J_move rfl rfl rfl ?_
  refine J_assign rfl rfl rfl ?_
  refine J_nil1 ?_
  refine E_then ?_
  refine R_ret ?_
  rotate_left
  · refine J_callr rfl (field_fail _ _ _ _) (by exact Gives.refl) rfl rfl ?_
    by_cases he : e = 0
    · simp only [rdr, Rd.fail, Rd.got, Rd.next, he, hh, if_true]
      refine J_nil2 ?_
      refine E_then ?_
      refine R_seq ?_
      refine R_seq ?_
      refine R_region ?_
      refine J_move rfl rfl rfl ?_
      refine J_nilCheck rfl rfl rfl ?_
      refine J_fieldAddr0 rfl rfl rfl ?_
      refine J_load rfl rfl rfl rfl ?_
      refine J_cmp rfl rfl rfl rfl rfl ?_
      refine J_nil3 ?_
      refine E_then ?_
      refine R_cond_true rfl ?_
      refine R_seq ?_
      refine R_region ?_
      refine J_assign rfl rfl rfl ?_
      refine J_nil ?_
      refine E_then ?_
      refine R_ret ?_
      refine E_then_ret ?_
      apply E_retP Tryz.results130
      · exact Res.tmp rfl (Res.nil)
      · exact Gives.refl
      simp [one]
      omega
    · simp only [rdr, Rd.fail, Rd.got, Rd.next, he, if_false, false_and]
      refine J_nil2 ?_
      refine E_then ?_
      refine R_seq ?_
      refine R_seq ?_
      refine R_region ?_
      refine J_move rfl rfl rfl ?_
      refine J_nilCheck rfl rfl rfl ?_
      refine J_fieldAddr0 rfl rfl rfl ?_
      refine J_load rfl rfl rfl rfl ?_
      refine J_cmp rfl rfl rfl rfl rfl ?_
      refine J_nil3 ?_
      refine E_then ?_
      refine R_cond rfl (fun hh => ?_) (fun hh => ?_)
      simp only [decide_eq_true_eq, decide_eq_false_iff_not, Bool.and_eq_true, Bool.or_eq_true, Bool.not_eq_true', Bool.not_eq_false', beq_iff_eq, bne_iff_ne, beq_eq_false_iff_ne, bne_eq_false_iff_eq, ne_eq, ge_iff_le, gt_iff_lt, Int.not_le, Int.not_lt, Bool.and_eq_false_iff, Bool.or_eq_false_iff, Decidable.not_not] at hh
      refine R_seq ?_
      refine R_region ?_
      refine J_assign rfl rfl rfl ?_
      refine J_nil ?_
      refine E_then ?_
      refine R_ret ?_
      refine E_then_ret ?_
      rotate_left
      simp only [decide_eq_true_eq, decide_eq_false_iff_not, Bool.and_eq_true, Bool.or_eq_true, Bool.not_eq_true', Bool.not_eq_false', beq_iff_eq, bne_iff_ne, beq_eq_false_iff_ne, bne_eq_false_iff_eq, ne_eq, ge_iff_le, gt_iff_lt, Int.not_le, Int.not_lt, Bool.and_eq_false_iff, Bool.or_eq_false_iff, Decidable.not_not] at hh
      exfalso; omega
      apply E_retP Tryz.results130
      · exact Res.tmp rfl (Res.nil)
      · exact Gives.refl
      rfl
  · refine J_callr rfl (field_fail _ _ _ _) (by exact Gives.refl) rfl rfl ?_
    by_cases he : e = 0
    · have h1 : ¬ n < 0 := by omega
      have h2 : ¬ n ≤ (s.length : Int) := by omega
      simp only [rdr, Rd.fail, Rd.got, Rd.next, he, h1, h2, if_true, if_false, and_false]
      refine J_nil2 ?_
      refine E_then ?_
      refine R_seq ?_
      refine R_seq ?_
      refine R_region ?_
      refine J_move rfl rfl rfl ?_
      refine J_nilCheck rfl rfl rfl ?_
      refine J_fieldAddr0 rfl rfl rfl ?_
      refine J_load rfl rfl rfl rfl ?_
      refine J_cmp rfl rfl rfl rfl rfl ?_
      refine J_nil3 ?_
      refine E_then ?_
      refine R_cond_true rfl ?_
      refine R_seq ?_
      refine R_region ?_
      refine J_assign rfl rfl rfl ?_
      refine J_nil ?_
      refine E_then ?_
      refine R_ret ?_
      refine E_then_ret ?_
      apply E_retP Tryz.results130
      · exact Res.tmp rfl (Res.nil)
      · exact Gives.refl
      rfl
    · simp only [rdr, Rd.fail, Rd.got, Rd.next, he, if_false, false_and]
      refine J_nil2 ?_
      refine E_then ?_
      refine R_seq ?_
      refine R_seq ?_
      refine R_region ?_
      refine J_move rfl rfl rfl ?_
      refine J_nilCheck rfl rfl rfl ?_
      refine J_fieldAddr0 rfl rfl rfl ?_
      refine J_load rfl rfl rfl rfl ?_
      refine J_cmp rfl rfl rfl rfl rfl ?_
      refine J_nil3 ?_
      refine E_then ?_
      refine R_cond rfl (fun hh => ?_) (fun hh => ?_)
      simp only [decide_eq_true_eq, decide_eq_false_iff_not, Bool.and_eq_true, Bool.or_eq_true, Bool.not_eq_true', Bool.not_eq_false', beq_iff_eq, bne_iff_ne, beq_eq_false_iff_ne, bne_eq_false_iff_eq, ne_eq, ge_iff_le, gt_iff_lt, Int.not_le, Int.not_lt, Bool.and_eq_false_iff, Bool.or_eq_false_iff, Decidable.not_not] at hh
      refine R_seq ?_
      refine R_region ?_
      refine J_assign rfl rfl rfl ?_
      refine J_nil ?_
      refine E_then ?_
      refine R_ret ?_
      refine E_then_ret ?_
      rotate_left
      simp only [decide_eq_true_eq, decide_eq_false_iff_not, Bool.and_eq_true, Bool.or_eq_true, Bool.not_eq_true', Bool.not_eq_false', beq_iff_eq, bne_iff_ne, beq_eq_false_iff_ne, bne_eq_false_iff_eq, ne_eq, ge_iff_le, gt_iff_lt, Int.not_le, Int.not_lt, Bool.and_eq_false_iff, Bool.or_eq_false_iff, Decidable.not_not] at hh
      exfalso; omega
      apply E_retP Tryz.results130
      · exact Res.tmp rfl (Res.nil)
      · exact Gives.refl
      rfl
  · simp only [rdr, Rd.fail, Rd.got, Rd.next, hh, if_false, false_and]
    skip
    apply E_retP Tryz.results130
    · exact Res.tmp rfl (Res.nil)
    · exact Gives.refl
    rfl
  · have h1 : ¬ n < 0 := by omega
    have h2 : n ≤ (s.length : Int) := by omega
    have h3 : 0 ≤ n := by omega
    subst hh
    have g1 : Rd.got ⟨s, 0⟩ n = s.take n.toNat := by simp [Rd.got, h2, h3]
    have g2 : Rd.next ⟨s, 0⟩ n = ⟨s.drop n.toNat, 0⟩ := by simp [Rd.next, h1, h2]
    rw [g1, g2]
    skip
    apply E_retP Tryz.results130
    · exact Res.tmp rfl (Res.nil)
    · exact Gives.refl
    rfl
theorem or_i64 {x : Int} {c : UInt8} (h0 : 0 ≤ x) (h1 : x < 36028797018963968) : bitI .or .i64 (x * 256) (c.toNat : Int) = x * 256 + (c.toNat : Int) := by
  have hc := c.toNat_lt
  obtain ⟨m, rfl⟩ : ∃ m : Nat, x = (m : Int) := ⟨x.toNat, by omega⟩
  have e64 : IntKind.i64.bits = 64 := rfl
  show IntKind.i64.wrap ((BitVec.ofInt 64 ((m : Int) * 256) ||| BitVec.ofInt 64 (c.toNat : Int)).toNat : Int) = _
  have e1 : BitVec.ofInt 64 ((m : Int) * 256) = BitVec.ofNat 64 (m * 256) := by
    rw [← BitVec.ofInt_natCast]; congr 1
  have e2 : BitVec.ofInt 64 (c.toNat : Int) = BitVec.ofNat 64 c.toNat := BitVec.ofInt_natCast ..
  rw [e1, e2, BitVec.toNat_or, BitVec.toNat_ofNat, BitVec.toNat_ofNat, Nat.mod_eq_of_lt (by omega), Nat.mod_eq_of_lt (by omega)]
  have e3 : m * 256 ||| c.toNat = m * 256 + c.toNat := by
    have := Nat.two_pow_add_eq_or_of_lt (i := 8) (b := c.toNat) (by omega) m
    rw [Nat.mul_comm m 256]
    exact this.symm
  rw [e3, wrap64_in (by omega)]
  omega
theorem num_take_snoc {s : List UInt8} {k : Nat} (h : k < s.length) : num (s.take (k + 1)) = num (s.take k) * 256 + s[k].toNat := by
  rw [List.take_succ_eq_append_getElem h, num_snoc]
def Rd.num (r : Rd) (k : Int) : Int := (Sol.num (r.got k) : Int)
theorem got_le (r : Rd) (k : Int) (h : 0 ≤ k) : (r.got k).length ≤ k.toNat := by
  unfold Rd.got; split <;> simp; omega
theorem field_Num (b : Nat) (r : Rd) (k : Int) (hk : 1 ≤ k ∧ k ≤ 7) (F : List HP) : Fn Tryz.prog 131 [.pointer (some ⟨b, 0, none⟩), .int .i64 k] (rdr b r :: F) (Pst (.int .i64 (r.num k)) (rdr b (r.next k) :: F)) := by
  refine Fn_enter Tryz.func131 rfl Tryz.ntmps131 rfl ?_
  have hw : (decide (1 ≤ k) && decide (k ≤ 7)) = true := by simp; omega
  refine R_seq ?_
  refine R_region ?_
  refine J_assign rfl rfl rfl ?_
  refine J_nil ?_
  refine E_then ?_
  refine R_seq ?_
  refine R_seq ?_
  refine R_region ?_
  refine J_move rfl rfl rfl ?_
  refine J_ptr_nil rfl rfl rfl rfl ?_
  refine J_nil2 ?_
  refine E_then ?_
  refine R_cond_false rfl ?_
  refine R_skip ?_
  refine E_then ?_
  refine R_seq ?_
  refine R_seq ?_
  refine R_region ?_
  refine J_move rfl rfl rfl ?_
  refine J_callr rfl (field_width _ _) (by exact Gives.refl) rfl rfl ?_
  simp only [hw]
  refine J_un_not rfl rfl rfl ?_
  refine J_nil3 ?_
  refine E_then ?_
  refine R_cond_false rfl ?_
  refine R_skip ?_
  refine E_then ?_
  refine R_seq ?_
  refine R_region ?_
  refine J_assign rfl rfl rfl ?_
  refine J_nil ?_
  refine E_then ?_
  refine R_seq ?_
  refine R_seq ?_
  refine R_region ?_
  refine J_move rfl rfl rfl ?_
  refine J_move rfl rfl rfl ?_
  refine J_callr rfl (field_Bytes _ _ _ _) (by exact Gives.refl) rfl rfl ?_
  have hle := got_le r k (by omega)
  generalize hs : r.got k = s at hle ⊢
  refine J_strToBytes rfl rfl rfl ?_
  intro b2 cp sp kk
  have h7 : 256 ^ k.toNat ≤ 256 ^ 7 := Nat.pow_le_pow_right (by omega) (by omega)
  have hp : ∀ j, num (s.take j) < 72057594037927936 := fun j => by
    have h1 := num_lt (s.take j)
    have h2 : 256 ^ (s.take j).length ≤ 256 ^ 7 := Nat.pow_le_pow_right (by omega) (by simp; omega)
    omega
  refine J_len_slice rfl rfl rfl ?_
  refine J_move rfl rfl rfl ?_
  refine J_nil3 ?_
  refine E_then ?_
  refine R_block ?_
  refine R_loop (X := {j : Nat // j ≤ s.length}) (fun j => [(20, .int .i64 (j.1 : Int)), (19, .int .i64 (s.length : Int)), (18, .slice (some ⟨b2, 0, none⟩) s.length cp), (5, .int .i64 (num (s.take j.1) : Int))])
      (fun _ => clf b2 5 (s.map byv ++ sp) kk (kk + 1) :: rdr b (r.next k) :: F) (fun j => s.length - j.1) ⟨0, by omega⟩ (by exact sub_cons rfl (sub_cons rfl (sub_cons rfl (sub_cons rfl sub_nil)))) Gives.refl ?_
  rintro ⟨j, hj⟩
  dsimp only
  refine R_seq ?_
  refine R_region ?_
  refine J_cmp rfl rfl rfl rfl rfl ?_
  refine J_nil1 ?_
  refine E_then ?_
  refine R_seq ?_
  refine R_cond rfl (fun hh => ?_) (fun hh => ?_)
  simp only [decide_eq_true_eq, decide_eq_false_iff_not, Bool.and_eq_true, Bool.or_eq_true, Bool.not_eq_true', Bool.not_eq_false', beq_iff_eq, bne_iff_ne, beq_eq_false_iff_ne, bne_eq_false_iff_eq, ne_eq, ge_iff_le, gt_iff_lt, Int.not_le, Int.not_lt, Bool.and_eq_false_iff, Bool.or_eq_false_iff, Decidable.not_not] at hh
  refine R_skip ?_
  refine E_then ?_
  refine R_seq ?_
  refine R_block ?_
  refine R_seq ?_
  refine R_region ?_
  refine J_indexAddr rfl rfl (by omega) (by omega) rfl rfl ?_
  rotate_left
  simp only [decide_eq_true_eq, decide_eq_false_iff_not, Bool.and_eq_true, Bool.or_eq_true, Bool.not_eq_true', Bool.not_eq_false', beq_iff_eq, bne_iff_ne, beq_eq_false_iff_ne, bne_eq_false_iff_eq, ne_eq, ge_iff_le, gt_iff_lt, Int.not_le, Int.not_lt, Bool.and_eq_false_iff, Bool.or_eq_false_iff, Decidable.not_not] at hh
  refine R_exit ?_
  refine E_then_exit ?_
  refine E_then_exit ?_
  refine E_block_hit ?_
  refine E_then ?_
  refine R_seq ?_
  refine R_region ?_
  refine J_move rfl rfl rfl ?_
  refine J_assign rfl rfl rfl ?_
  refine J_nil1 ?_
  refine E_then ?_
  refine R_ret ?_
  rotate_left
  · have hlt : j < s.length := by omega
    have e1 : (0 + (j : Int).toNat * 1) = j := by omega
    rw [e1]
    refine J_loadX (v := byv s[j]) rfl (by rw [List.getElem?_append_left (by simpa using hlt)]; simp [hlt]) rfl rfl ?_
    refine J_assign rfl rfl rfl ?_
    refine J_nil2 ?_
    refine E_then ?_
    refine R_region ?_
    refine J_move rfl rfl rfl ?_
    refine J_shift rfl rfl rfl (by omega) rfl rfl ?_
    refine J_move rfl rfl rfl ?_
    refine J_conv_byte rfl rfl rfl ?_
    have h8 : num (s.take j) < 36028797018963968 := by
      have h1 := num_lt (s.take j)
      have h2 : 256 ^ (s.take j).length ≤ 256 ^ 6 := Nat.pow_le_pow_right (by omega) (by simp; omega)
      omega
    have e8 : IntKind.i64.wrap (((num (s.take j) : Nat) : Int) * 2 ^ min (Int.toNat 8) IntKind.i64.bits) = ((num (s.take j) : Nat) : Int) * 256 := by
      show IntKind.i64.wrap (_ * 256) = _
      rw [wrap64_in (by omega)]
    rw [e8]
    refine J_bits rfl rfl rfl rfl rfl ?_
    rw [or_i64 (by omega) (by omega)]
    have e9 := num_take_snoc hlt
    refine J_assign rfl rfl rfl ?_
    refine J_nil3 ?_
    refine E_block_normal ?_
    refine E_then ?_
    refine R_region ?_
    refine J_ari64 rfl rfl rfl (by omega) rfl rfl ?_
    refine J_moveg rfl rfl rfl ?_
    refine J_nil1 ?_
    exact E_thenI fun a w he hs => ⟨⟨j + 1, by omega⟩, by simp; omega, he.sub (sub_cons' rfl (by simp) (sub_cons rfl (sub_cons rfl (sub_cons' rfl (by rw [e9]; simp) sub_nil)))), hs⟩
  · have e : j = s.length := by omega
    subst e
    apply E_retP Tryz.results131
    · exact Res.tmp rfl (Res.nil)
    · exact Gives.cons (Take.next Take.here) (Gives.drop Gives.refl)
    simp [one, Rd.num, hs]
end Go.Proofs.Sol

/- Plain: records of a log, as bytes. -/
namespace Go.Proofs.Sol
open Go Go.Proofs
def recT0 (q by_ : Int) (n : Nat) : Bytes := putF (putF (putF [82] q 6) (n : Int) 1) by_ 1
def recTold (q by_ : Int) (n : Nat) (l : List (Int × Bytes)) : Bytes := l.foldl (fun t p => putF t p.1 2) (recT0 q by_ n)
def turnB (s : Bytes) (by_ : Int) : Bytes := (s.headD 0 ^^^ UInt8.ofNat by_.toNat) :: s.drop 1
def recAll (by_ : Int) (l : List (Int × Bytes)) : Bytes := l.flatMap fun p => turnB p.2 by_
def recB (q by_ : Int) (l : List (Int × Bytes)) : Bytes := pad (recTold q by_ l.length l ++ tail (recTold q by_ l.length l ++ recAll by_ l)) ++ recAll by_ l
/-- Of a transaction that may be. -/
structure RecOk (l : List (Int × Bytes)) : Prop where
  many : l.length ≤ 16
  at_ : ∀ p ∈ l, 0 ≤ p.1 ∧ p.1 < 1000
  data : ∀ p ∈ l, p.2.length = 64
  nd : (l.map (·.1)).Nodup
theorem turnB_length {s : Bytes} {by_ : Int} (h : s.length = 64) : (turnB s by_).length = 64 := by simp [turnB, h]
theorem recAll_length {l : List (Int × Bytes)} (by_ : Int) (h : ∀ p ∈ l, p.2.length = 64) : (recAll by_ l).length = 64 * l.length := by
  induction l with
  | nil => rfl
  | cons p l ih =>
    have h1 := ih fun q hq => h q (List.mem_cons_of_mem _ hq)
    have h2 := turnB_length (by_ := by_) (h p List.mem_cons_self)
    simp only [recAll, List.flatMap_cons, List.length_append, List.length_cons] at h1 ⊢
    omega
theorem recT0_length {q by_ : Int} {n : Nat} (hq : 0 ≤ q ∧ q < 281474976710656) (hb : 0 ≤ by_ ∧ by_ < 256) (hn : n < 256) : (recT0 q by_ n).length = 9 := by
  unfold recT0
  rw [putF_fits (fits_of (size := 6) 6 rfl (by omega) (by omega)), putF_fits (fits_of (size := 1) 1 rfl (by omega) (by omega)), putF_fits (fits_of (size := 1) 1 rfl (by omega) (by omega))]
  simp [be_length]
theorem foldP_length {l : List (Int × Bytes)} (h : ∀ p ∈ l, 0 ≤ p.1 ∧ p.1 < 1000) : ∀ t : Bytes, (l.foldl (fun t p => putF t p.1 2) t).length = t.length + 2 * l.length := by
  induction l with
  | nil => intro t; rfl
  | cons p l ih =>
    intro t
    have hp := h p List.mem_cons_self
    rw [List.foldl_cons, ih (fun q hq => h q (List.mem_cons_of_mem _ hq)), putF_fits (fits_of (size := 2) 2 rfl (by omega) (by omega))]
    simp [be_length]; omega
theorem recTold_length {q by_ : Int} {n : Nat} {l : List (Int × Bytes)} (hq : 0 ≤ q ∧ q < 281474976710656) (hb : 0 ≤ by_ ∧ by_ < 256) (hn : n < 256) (h : ∀ p ∈ l, 0 ≤ p.1 ∧ p.1 < 1000) : (recTold q by_ n l).length = 9 + 2 * l.length := by
  unfold recTold
  rw [foldP_length h, recT0_length hq hb hn]
theorem recB_length {q by_ : Int} {l : List (Int × Bytes)} (hq : 0 ≤ q ∧ q < 281474976710656) (hb : 0 ≤ by_ ∧ by_ < 256) (h : RecOk l) : (recB q by_ l).length = 64 * (l.length + 1) := by
  have hm := h.many
  have h1 := recTold_length hq hb (n := l.length) (by omega) h.at_
  have h2 := recAll_length by_ h.data
  have h3 : (pad (recTold q by_ l.length l ++ tail (recTold q by_ l.length l ++ recAll by_ l))).length = 64 := pad_len (by simp [tail_length, h1]; omega)
  unfold recB
  rw [List.length_append, h3, h2]; omega
/-- A list without twins, of things of another, is no longer. -/
theorem nodup_le {α : Type} [DecidableEq α] : ∀ {a b : List α}, a.Nodup → (∀ x ∈ a, x ∈ b) → a.length ≤ b.length
  | [], _, _, _ => Nat.zero_le _
  | x :: a, b, hn, hs => by
    rw [List.nodup_cons] at hn
    have hx := hs x List.mem_cons_self
    have h1 : ∀ y ∈ a, y ∈ b.erase x := fun y hy => (List.mem_erase_of_ne (fun e => hn.1 (by rw [← e]; exact hy))).2 (hs y (List.mem_cons_of_mem _ hy))
    have h2 := nodup_le hn.2 h1
    have h3 := List.length_erase_of_mem hx
    have h4 : 0 < b.length := List.length_pos_of_mem hx
    simp only [List.length_cons]; omega
/-- The marks that a turn meets. -/
def meets (l : List (Int × Bytes)) (n : Nat) : Bool := l.any fun p => p.2.headD 0 ^^^ UInt8.ofNat n == 82
theorem meets_le {l : List (Int × Bytes)} {n : Nat} (hn : n ≤ 256) (h : ∀ j, j < n → meets l j = true) : n ≤ l.length := by
  have h1 : ((List.range n).map fun j => (UInt8.ofNat j)).Nodup := by
    rw [List.nodup_iff_pairwise_ne, List.pairwise_map]
    refine List.Pairwise.imp_of_mem ?_ (List.nodup_iff_pairwise_ne.1 List.nodup_range)
    intro a b ha hb hab e
    rw [List.mem_range] at ha hb
    have := congrArg UInt8.toNat e
    simp only [UInt8.toNat_ofNat'] at this
    omega
  have h2 : ∀ x ∈ (List.range n).map fun j => (UInt8.ofNat j), x ∈ l.map fun p => p.2.headD 0 ^^^ 82 := by
    intro x hx
    obtain ⟨j, hj, rfl⟩ := List.mem_map.1 hx
    have := h j (List.mem_range.1 hj)
    unfold meets at this
    obtain ⟨p, hp, he⟩ := List.any_eq_true.1 this
    refine List.mem_map.2 ⟨p, hp, ?_⟩
    rw [beq_iff_eq] at he
    rw [← he, ← UInt8.xor_assoc, UInt8.xor_self, UInt8.zero_xor]
  have := nodup_le h1 h2
  simpa using this
end Go.Proofs.Sol

/- A disk on which nothing fails: what is sure, what is seen. -/
namespace Go.Proofs.Sol
open Go Go.Proofs
set_option maxRecDepth 100000
set_option maxHeartbeats 4000000
set_option linter.unusedVariables false
set_option linter.unusedSimpArgs false
attribute [local irreducible] R J JW E D Fn Y clf mpI own Sat Exit.then Exit.inBlock bodyPost bodyPostM Code.wpIn wpL
structure Dk where
  A : List Bytes
  V : List Bytes
  k : Nat
def secs (ws : List (Int × Bytes)) : List Value := ws.flatMap fun p => [.int .i64 p.1, .string (S p.2)]
def lay (A : List Bytes) (ws : List (Int × Bytes)) : List Bytes := ws.foldl (fun A p => A.set p.1.toNat p.2) A
structure DkX where
  bs : Nat
  bm : Nat
  vw : Value
  m : List (Int × Bytes)
  ws : List (Int × Bytes)
  ops : Int
structure DkOk (D : Dk) (x : DkX) : Prop where
  len : D.V.length = D.A.length
  many : D.A.length ≤ 1000
  a64 : ∀ s ∈ D.A, s.length = 64
  v64 : ∀ s ∈ D.V, s.length = 64
  seen : ∀ i : Nat, i < D.A.length → D.V.getD i [] = (mget x.m i).getD (D.A.getD i [])
  waits : lay D.A x.ws = D.V
  inr : ∀ p ∈ x.ws, 0 ≤ p.1 ∧ p.1 < D.A.length ∧ p.2.length = 64
  ops : 0 ≤ x.ops ∧ x.ops ≤ D.k
  wk : x.ws.length ≤ D.k
abbrev strs (A : List Bytes) : List Value := A.map fun s => .string (S s)
abbrev dkH (d : Nat) (n : Nat) (x : DkX) : HP := cl d 171 [.slice (some ⟨x.bs, 0, none⟩) n n, .map (some x.bm), x.vw, .int .i64 x.ops, .slice none 0 0, .int .i64 0, .bool false]
abbrev dkL (d : Nat) (A : List Bytes) (x : DkX) : List HP := [dkH d A.length x, cl x.bs 9 (strs A), mpI x.bm x.m, own x.vw 164 2 (secs x.ws)]
/-- The disk d. -/
def dsk (d : Nat) (D : Dk) : HP := exi fun x : {x : DkX // DkOk D x} => stp (dkL d D.A x.1)
instance (d : Nat) (D : Dk) : Up (dsk d D) := inferInstanceAs (Up (exi _))
theorem open_dsk {w : World} {d : Nat} {D : Dk} {L : List HP} (h : Sat w (dsk d D :: L)) : ∃ x : {x : DkX // DkOk D x}, Sat w (dkL d D.A x.1 ++ L) := by
  obtain ⟨p, h⟩ := h.exi
  exact ⟨p, h.open_⟩
theorem shut_dsk {w : World} {d : Nat} {D : Dk} {x : DkX} {L : List HP} (hx : DkOk D x) (h : Sat w (dkL d D.A x ++ L)) : Sat w (dsk d D :: L) :=
  (Sat.shut (M := dkL d D.A x) h).conv fun _ e => ⟨⟨x, hx⟩, e⟩
def Dk.tick (D : Dk) : Dk := ⟨D.A, D.V, D.k + 1⟩
def Dk.n (D : Dk) : Nat := D.V.length
theorem disk_Sectors (d : Nat) (n : Nat) (x : DkX) (F : List HP) : Fn Tryz.prog 161 [.pointer (some ⟨d, 0, none⟩)] (dkH d n x :: F) (Pst (.int .i64 (n : Int)) (dkH d n x :: F)) := by
  refine Fn_enter Tryz.func161 rfl Tryz.ntmps161 rfl ?_
  refine R_seq ?_
  refine R_region ?_
  refine J_assign rfl rfl rfl ?_
  refine J_nil ?_
  refine E_then ?_
  refine R_seq ?_
  refine R_seq ?_
  refine R_region ?_
  refine J_move rfl rfl rfl ?_
  refine J_ptr_nil rfl rfl rfl rfl ?_
  refine J_nil2 ?_
  refine E_then ?_
  refine R_cond_false rfl ?_
  refine R_skip ?_
  refine E_then ?_
  refine R_seq ?_
  refine R_region ?_
  refine J_move rfl rfl rfl ?_
  refine J_nilCheck rfl rfl rfl ?_
  refine J_fieldAddr0 rfl rfl rfl ?_
  refine J_load rfl rfl rfl rfl ?_
  refine J_len_slice rfl rfl rfl ?_
  refine J_assign rfl rfl rfl ?_
  refine J_nil3 ?_
  refine E_then ?_
  refine R_ret ?_
  apply E_retP Tryz.results161
  · exact Res.tmp rfl (Res.nil)
  · exact Gives.refl
  rfl
theorem disk_there (d : Nat) (n : Nat) (x : DkX) (at_ : Int) (F : List HP) : Fn Tryz.prog 185 [.pointer (some ⟨d, 0, none⟩), .int .i64 at_] (dkH d n x :: F) (Pst (.bool (decide (0 ≤ at_) && decide (at_ < n))) (dkH d n x :: F)) := by
  refine Fn_enter Tryz.func185 rfl Tryz.ntmps185 rfl ?_
  refine R_seq ?_
  refine R_region ?_
  refine J_assign rfl rfl rfl ?_
  refine J_nil ?_
  refine E_then ?_
  refine R_seq ?_
  refine R_region ?_
  refine J_move rfl rfl rfl ?_
  refine J_cmp rfl rfl rfl rfl rfl ?_
  refine J_move rfl rfl rfl ?_
  refine J_guard_split rfl rfl (fun hh => ?_) (fun hh => ?_)
  simp only [decide_eq_true_eq, decide_eq_false_iff_not, Bool.and_eq_true, Bool.or_eq_true, Bool.not_eq_true', Bool.not_eq_false', beq_iff_eq, bne_iff_ne, beq_eq_false_iff_ne, bne_eq_false_iff_eq, ne_eq, ge_iff_le, gt_iff_lt, Int.not_le, Int.not_lt, Bool.and_eq_false_iff, Bool.or_eq_false_iff, Decidable.not_not] at hh
  refine J_guard rfl rfl rfl ?_
  refine J_move rfl rfl rfl ?_
  refine J_guard rfl rfl rfl ?_
  refine J_move rfl rfl rfl ?_
  refine J_guard rfl rfl rfl ?_
  rotate_left
  simp only [decide_eq_true_eq, decide_eq_false_iff_not, Bool.and_eq_true, Bool.or_eq_true, Bool.not_eq_true', Bool.not_eq_false', beq_iff_eq, bne_iff_ne, beq_eq_false_iff_ne, bne_eq_false_iff_eq, ne_eq, ge_iff_le, gt_iff_lt, Int.not_le, Int.not_lt, Bool.and_eq_false_iff, Bool.or_eq_false_iff, Decidable.not_not] at hh
  refine J_guard_not rfl rfl rfl rfl rfl rfl ?_
  refine J_guard_not rfl rfl rfl rfl rfl rfl ?_
  refine J_guard_not rfl rfl rfl rfl rfl rfl ?_
  refine J_guard_not rfl rfl rfl rfl rfl rfl ?_
  refine J_pick_false rfl rfl rfl rfl ?_
  refine J_assign rfl rfl rfl ?_
  refine J_nil3 ?_
  refine E_then ?_
  refine R_ret ?_
  rotate_left
  · refine J_callr rfl (disk_Sectors d n x _) (by exact Gives.refl) rfl rfl ?_
    refine J_guard rfl rfl rfl ?_
    refine J_cmp rfl rfl rfl rfl rfl ?_
    refine J_pick_true rfl rfl rfl rfl ?_
    refine J_assign rfl rfl rfl ?_
    refine J_nil3 ?_
    refine E_then ?_
    refine R_ret ?_
    apply E_retP Tryz.results185
    · exact Res.tmp rfl (Res.nil)
    · exact Gives.refl
    simp [one, hh]
  · apply E_retP Tryz.results185
    · exact Res.tmp rfl (Res.nil)
    · exact Gives.refl
    simp [one]
    omega
theorem disk_call (d : Nat) (n : Nat) (x : DkX) (h : 0 ≤ x.ops ∧ x.ops < 1000000000000000) (F : List HP) : Fn Tryz.prog 184 [.pointer (some ⟨d, 0, none⟩)] (dkH d n x :: F) (Pst (.tuple #[.int .i64 0, .bool false]) (dkH d n { x with ops := x.ops + 1 } :: F)) := by
  obtain ⟨bs, bm, vw, m, ws, ops⟩ := x
  dsimp only at h ⊢
  simp only [dkH]
  refine Fn_enter Tryz.func184 rfl Tryz.ntmps184 rfl ?_
  refine R_seq ?_
  refine R_region ?_
  refine J_assign rfl rfl rfl ?_
  refine J_assign rfl rfl rfl ?_
  refine J_nil ?_
  refine E_then ?_
  refine R_seq ?_
  refine R_seq ?_
  refine R_region ?_
  refine J_move rfl rfl rfl ?_
  refine J_ptr_nil rfl rfl rfl rfl ?_
  refine J_nil2 ?_
  refine E_then ?_
  refine R_cond_false rfl ?_
  refine R_skip ?_
  refine E_then ?_
  refine R_seq ?_
  refine R_region ?_
  refine J_move rfl rfl rfl ?_
  refine J_nilCheck rfl rfl rfl ?_
  refine J_fieldAddr0 rfl rfl rfl ?_
  refine J_load rfl rfl rfl rfl ?_
  refine J_ari64 rfl rfl rfl (by omega) rfl rfl ?_
  refine J_nilCheck rfl rfl rfl ?_
  refine J_fieldAddr0 rfl rfl rfl ?_
  refine J_store rfl rfl rfl rfl ?_
  refine J_nil3 ?_
  refine E_then ?_
  refine R_seq ?_
  refine R_block ?_
  refine R_seq ?_
  refine R_region ?_
  refine J_move rfl rfl rfl ?_
  refine J_nilCheck rfl rfl rfl ?_
  refine J_fieldAddr0 rfl rfl rfl ?_
  refine J_load rfl rfl rfl rfl ?_
  refine J_assign rfl rfl rfl ?_
  refine J_nil3 ?_
  refine E_then ?_
  refine R_cond_false rfl ?_
  refine R_seq ?_
  refine R_draw0 [9] (by kernel_rfl) ?_
  (refine D_lookP (i := 0) rfl (by kernel_rfl) (by exact NP_then (NP_block (NP_then NP_body))) (by exact Y_move rfl) rfl rfl ?_)
  (refine D_lookP (i := 1) rfl (by kernel_rfl) (by exact NP_then (NP_block (NP_then NP_body))) (by exact Y_nilCheck rfl) rfl rfl ?_)
  (refine D_lookP (i := 2) rfl (by kernel_rfl) (by exact NP_then (NP_block (NP_then NP_body))) (by exact Y_fieldAddr0 rfl) rfl rfl ?_)
  (refine D_look (i := 3) rfl (by kernel_rfl) (by exact NP_then (NP_block (NP_then NP_body))) (by exact Gives.refl) (by exact Y_load rfl rfl) rfl rfl ?_)
  (refine D_lookP (i := 4) rfl (by kernel_rfl) (by exact NP_then (NP_block (NP_then NP_body))) (by exact Y_move rfl) rfl rfl ?_)
  (refine D_lookP (i := 5) rfl (by kernel_rfl) (by exact NP_then (NP_block (NP_then NP_body))) (by exact Y_nilCheck rfl) rfl rfl ?_)
  (refine D_lookP (i := 6) rfl (by kernel_rfl) (by exact NP_then (NP_block (NP_then NP_body))) (by exact Y_fieldAddr0 rfl) rfl rfl ?_)
  (refine D_look (i := 7) rfl (by kernel_rfl) (by exact NP_then (NP_block (NP_then NP_body))) (by exact Gives.refl) (by exact Y_load rfl rfl) rfl rfl ?_)
  (refine D_lookP (i := 8) rfl (by kernel_rfl) (by exact NP_then (NP_block (NP_then NP_body))) (by exact Y_cmpF rfl rfl rfl (by first | rfl | (simp only [decide_eq_false_iff_not, ge_iff_le, gt_iff_lt, beq_eq_false_iff_ne, bne_eq_false_iff_eq, ne_eq]; first | done | omega))) rfl rfl ?_)
  refine D_try1 (i := 9) (by kernel_rfl) rfl ?_
  refine J_assign rfl rfl rfl ?_
  refine D_last (by kernel_rfl) ?_
  (first | refine D_end1 (by kernel_rfl) ?_ | refine D_end (by kernel_rfl) ?_)
  refine E_then ?_
  refine R_cond_false rfl ?_
  refine R_seq ?_
  refine R_draw0 [8, 9] (by kernel_rfl) ?_
  (refine D_lookP (i := 0) rfl (by kernel_rfl) (by exact NP_then (NP_block (NP_then NP_body))) (by exact Y_move rfl) rfl rfl ?_)
  (refine D_lookP (i := 1) rfl (by kernel_rfl) (by exact NP_then (NP_block (NP_then NP_body))) (by exact Y_nilCheck rfl) rfl rfl ?_)
  (refine D_lookP (i := 2) rfl (by kernel_rfl) (by exact NP_then (NP_block (NP_then NP_body))) (by exact Y_fieldAddr0 rfl) rfl rfl ?_)
  (refine D_look (i := 3) rfl (by kernel_rfl) (by exact NP_then (NP_block (NP_then NP_body))) (by exact Gives.refl) (by exact Y_load rfl rfl) rfl rfl ?_)
  (refine D_lookP (i := 4) rfl (by kernel_rfl) (by exact NP_then (NP_block (NP_then NP_body))) (by exact Y_move rfl) rfl rfl ?_)
  (refine D_lookP (i := 5) rfl (by kernel_rfl) (by exact NP_then (NP_block (NP_then NP_body))) (by exact Y_nilCheck rfl) rfl rfl ?_)
  (refine D_lookP (i := 6) rfl (by kernel_rfl) (by exact NP_then (NP_block (NP_then NP_body))) (by exact Y_fieldAddr0 rfl) rfl rfl ?_)
  (refine D_look (i := 7) rfl (by kernel_rfl) (by exact NP_then (NP_block (NP_then NP_body))) (by exact Gives.refl) (by exact Y_load rfl rfl) rfl rfl ?_)
  refine D_try1 (i := 8) (by kernel_rfl) rfl ?_
  refine J_callr rfl (slices_Contains_nil _ _ _) (by exact Gives.refl) rfl rfl ?_
  refine D_last (by kernel_rfl) ?_
  refine D_try1 (i := 9) (by kernel_rfl) rfl ?_
  refine J_assign rfl rfl rfl ?_
  refine D_last (by kernel_rfl) ?_
  (first | refine D_end1 (by kernel_rfl) ?_ | refine D_end (by kernel_rfl) ?_)
  refine E_then ?_
  refine R_cond_false rfl ?_
  refine R_skip ?_
  refine E_block_normal ?_
  refine E_then ?_
  refine R_seq ?_
  refine R_region ?_
  refine J_assign rfl rfl rfl ?_
  refine J_assign rfl rfl rfl ?_
  refine J_nil ?_
  refine E_then ?_
  refine R_ret ?_
  apply E_retP Tryz.results184
  · exact Res.tmp rfl (Res.tmp rfl (Res.nil))
  · exact Gives.refl
  rfl
/-- A sector, read; what was wrong. -/
def Dk.rd (D : Dk) (i : Int) : Bytes := if 0 ≤ i ∧ i < D.V.length then D.V.getD i.toNat [] else []
def Dk.rdE (D : Dk) (i : Int) : Int := if 0 ≤ i ∧ i < D.V.length then 0 else 3
theorem disk_Read (d : Nat) (D : Dk) (i : Int) (hk : D.k < 100000000000000) (F : List HP) : Fn Tryz.prog 114 [.pointer (some ⟨d, 0, none⟩), .int .i64 i] (dsk d D :: F) (Pst (.tuple #[.string (S (D.rd i)), .int .i64 (D.rdE i)]) (dsk d D.tick :: F)) := by
  refine Fn.open_ (fun w h => open_dsk h) ?_
  rintro ⟨x, hx⟩
  have hl := hx.len
  have ho := hx.ops
  have hx' : DkOk D.tick { x with ops := x.ops + 1 } := ⟨hx.len, hx.many, hx.a64, hx.v64, hx.seen, hx.waits, hx.inr, by simp [Dk.tick]; omega, by have := hx.wk; simp [Dk.tick]; omega⟩
  dsimp only [dkL, List.cons_append, List.nil_append]
  refine Fn_enter Tryz.func114 rfl Tryz.ntmps114 rfl ?_
  refine R_seq ?_
  refine R_region ?_
  refine J_assign rfl rfl rfl ?_
  refine J_assign rfl rfl rfl ?_
  refine J_nil ?_
  refine E_then ?_
  refine R_seq ?_
  refine R_region ?_
  refine J_move rfl rfl rfl ?_
  refine J_callr rfl (disk_call d _ x (by omega) _) (by exact Gives.refl) rfl rfl ?_
  refine J_move rfl rfl rfl ?_
  refine J_extract rfl rfl rfl rfl ?_
  refine J_extract rfl rfl rfl rfl ?_
  refine J_assign rfl rfl rfl ?_
  refine J_assign rfl rfl rfl ?_
  refine J_nil3 ?_
  refine E_then ?_
  refine R_seq ?_
  refine R_block ?_
  refine R_seq ?_
  refine R_region ?_
  refine J_move rfl rfl rfl ?_
  refine J_cmp rfl rfl rfl rfl rfl ?_
  refine J_assign rfl rfl rfl ?_
  refine J_nil2 ?_
  refine E_then ?_
  refine R_cond_false rfl ?_
  refine R_seq ?_
  refine R_region ?_
  refine J_move rfl rfl rfl ?_
  refine J_move rfl rfl rfl ?_
  refine J_callr rfl (disk_there d _ _ i _) (by exact Gives.refl) rfl rfl ?_
  by_cases hi : 0 ≤ i ∧ i < D.A.length
  · have e1 : (decide (0 ≤ i) && decide (i < (D.A.length : Int))) = true := by simp [hi]
    have e2 : D.rd i = (mget x.m i).getD (D.A.getD i.toNat []) := by
      unfold Dk.rd
      rw [if_pos (by omega)]
      have := hx.seen i.toNat (by omega)
      have e3 : ((i.toNat : Nat) : Int) = i := by omega
      rw [e3] at this
      exact this
    have e3 : D.rdE i = 0 := by unfold Dk.rdE; rw [if_pos (by omega)]
    simp only [e1, e2, e3]
    simp only [dkH]
    refine J_un_not rfl rfl rfl ?_
    refine J_assign rfl rfl rfl ?_
    refine J_nil3 ?_
    refine E_then ?_
    refine R_cond_false rfl ?_
    refine R_skip ?_
    refine E_block_normal ?_
    refine E_then ?_
    refine R_seq ?_
    refine R_seq ?_
    refine R_region ?_
    refine J_move rfl rfl rfl ?_
    refine J_nilCheck rfl rfl rfl ?_
    refine J_fieldAddr0 rfl rfl rfl ?_
    refine J_load rfl rfl rfl rfl ?_
    refine J_move rfl rfl rfl ?_
    refine J_lookup rfl rfl rfl rfl ?_
    refine J_move rfl rfl rfl ?_
    refine J_extract rfl rfl rfl rfl ?_
    refine J_extract rfl rfl rfl rfl ?_
    refine J_assign rfl rfl rfl ?_
    refine J_assign rfl rfl rfl ?_
    refine J_nil3 ?_
    refine E_then ?_
    refine R_seq ?_
    refine R_region ?_
    refine J_move rfl rfl rfl ?_
    refine J_nil1 ?_
    refine E_then ?_
    refine R_cond rfl (fun hh => ?_) (fun hh => ?_)
    refine R_seq ?_
    refine R_region ?_
    refine J_move rfl rfl rfl ?_
    refine J_assign rfl rfl rfl ?_
    refine J_assign rfl rfl rfl ?_
    refine J_nil1 ?_
    refine E_then ?_
    refine R_ret ?_
    refine E_then_ret ?_
    rotate_left
    refine R_skip ?_
    refine E_then ?_
    refine R_seq ?_
    refine R_region ?_
    refine J_move rfl rfl rfl ?_
    refine J_nilCheck rfl rfl rfl ?_
    refine J_fieldAddr0 rfl rfl rfl ?_
    refine J_load rfl rfl rfl rfl ?_
    refine J_move rfl rfl rfl ?_
    refine J_indexAddr rfl rfl (by omega) (by omega) rfl rfl ?_
    rotate_left
    · obtain ⟨t, hm⟩ := Option.isSome_iff_exists.1 hh
      apply E_ret Tryz.results114
      · exact Res.tmp rfl (Res.tmp rfl (Res.nil))
      · intro w s
        exact ⟨by rw [hm]; rfl, shut_dsk hx' s⟩
    · have hm : mget x.m i = none := by simpa using hh
      have e5 : 0 + i.toNat * 1 = i.toNat := by omega
      have e6 : i.toNat < D.A.length := by omega
      rw [e5]
      refine J_loadX (v := .string (S (D.A.getD i.toNat []))) rfl (by simp [e6]) rfl rfl ?_
      refine J_assign rfl rfl rfl ?_
      refine J_assign rfl rfl rfl ?_
      refine J_nil3 ?_
      refine E_then ?_
      refine R_ret ?_
      apply E_ret Tryz.results114
      · exact Res.tmp rfl (Res.tmp rfl (Res.nil))
      · intro w s
        exact ⟨by rw [hm]; rfl, shut_dsk hx' s⟩
  · have e1 : (decide (0 ≤ i) && decide (i < (D.A.length : Int))) = false := by simp; omega
    have e2 : D.rd i = [] := by unfold Dk.rd; rw [if_neg (by omega)]
    have e3 : D.rdE i = 3 := by unfold Dk.rdE; rw [if_neg (by omega)]
    simp only [e1, e2, e3]
    refine J_un_not rfl rfl rfl ?_
    refine J_assign rfl rfl rfl ?_
    refine J_nil3 ?_
    refine E_then ?_
    refine R_cond_true rfl ?_
    refine R_seq ?_
    refine R_region ?_
    refine J_assign rfl rfl rfl ?_
    refine J_assign rfl rfl rfl ?_
    refine J_nil ?_
    refine E_then ?_
    refine R_ret ?_
    refine E_block_ret ?_
    refine E_then_ret ?_
    apply E_ret Tryz.results114
    · exact Res.tmp rfl (Res.tmp rfl (Res.nil))
    · intro w s
      exact ⟨rfl, shut_dsk hx' s⟩
def Dk.wr (D : Dk) (i : Int) (s : Bytes) : Dk := if 0 ≤ i ∧ i < D.V.length ∧ s.length = 64 then ⟨D.A, D.V.set i.toNat s, D.k + 1⟩ else D.tick
def Dk.wrE (D : Dk) (i : Int) (s : Bytes) : Int := if 0 ≤ i ∧ i < D.V.length then (if s.length = 64 then 0 else 12) else 3
theorem secs_snoc (ws : List (Int × Bytes)) (i : Int) (s : Bytes) : secs (ws ++ [(i, s)]) = secs ws ++ [.int .i64 i, .string (S s)] := by simp [secs]
theorem secs_length (ws : List (Int × Bytes)) : (secs ws).length = ws.length * 2 := by
  induction ws with
  | nil => rfl
  | cons p ws ih => simp [secs] at ih ⊢; omega
theorem lay_snoc (A : List Bytes) (ws : List (Int × Bytes)) (i : Int) (s : Bytes) : lay A (ws ++ [(i, s)]) = (lay A ws).set i.toNat s := by simp [lay]
theorem DkOk.wr {D : Dk} {x : DkX} (h : DkOk D x) {i : Int} {s : Bytes} (hi : 0 ≤ i ∧ i < D.V.length) (hs : s.length = 64) (vw : Value) : DkOk (D.wr i s) ⟨x.bs, x.bm, vw, mput x.m i s, x.ws ++ [(i, s)], x.ops + 1⟩ := by
  have hl := h.len
  have e : D.wr i s = ⟨D.A, D.V.set i.toNat s, D.k + 1⟩ := by unfold Dk.wr; rw [if_pos ⟨hi.1, hi.2, hs⟩]
  rw [e]
  refine ⟨by simp [hl], h.many, h.a64, ?_, ?_, ?_, ?_, ?_, ?_⟩
  · intro t ht
    rcases List.mem_or_eq_of_mem_set ht with h' | h'
    · exact h.v64 t h'
    · exact h' ▸ hs
  · intro j hj
    dsimp only at hj ⊢
    rw [mget_mput]
    by_cases hij : i = (j : Int)
    · subst hij
      simp [hl, hj]
    · rw [if_neg hij]
      have : i.toNat ≠ j := by omega
      have hset : (D.V.set i.toNat s).getD j [] = D.V.getD j [] := by simp [List.getD_eq_getElem?_getD, this]
      rw [hset]
      exact h.seen j hj
  · dsimp only
    rw [lay_snoc, h.waits]
  · intro p hp
    rcases List.mem_append.1 hp with h' | h'
    · exact h.inr p h'
    · simp at h'; subst h'; exact ⟨hi.1, by dsimp only; omega, hs⟩
  · have := h.ops; dsimp only; omega
  · have := h.wk; simp; omega
theorem disk_Write (d : Nat) (D : Dk) (i : Int) (s : Bytes) (hk : D.k < 100000000000) (F : List HP) : Fn Tryz.prog 159 [.pointer (some ⟨d, 0, none⟩), .int .i64 i, .string (S s)] (dsk d D :: F) (Pst (.int .i64 (D.wrE i s)) (dsk d (D.wr i s) :: F)) := by
  refine Fn.open_ (fun w h => open_dsk h) ?_
  rintro ⟨x, hx⟩
  have hl := hx.len
  have ho := hx.ops
  have hx' : DkOk D.tick { x with ops := x.ops + 1 } := ⟨hx.len, hx.many, hx.a64, hx.v64, hx.seen, hx.waits, hx.inr, by simp [Dk.tick]; omega, by have := hx.wk; simp [Dk.tick]; omega⟩
  dsimp only [dkL, List.cons_append, List.nil_append]
  refine Fn_enter Tryz.func159 rfl Tryz.ntmps159 rfl ?_
  refine R_seq ?_
  refine R_region ?_
  refine J_assign rfl rfl rfl ?_
  refine J_nil ?_
  refine E_then ?_
  refine R_seq ?_
  refine R_region ?_
  refine J_move rfl rfl rfl ?_
  refine J_callr rfl (disk_call d _ x (by omega) _) (by exact Gives.refl) rfl rfl ?_
  refine J_move rfl rfl rfl ?_
  refine J_extract rfl rfl rfl rfl ?_
  refine J_extract rfl rfl rfl rfl ?_
  refine J_assign rfl rfl rfl ?_
  refine J_assign rfl rfl rfl ?_
  refine J_nil3 ?_
  refine E_then ?_
  refine R_seq ?_
  refine R_seq ?_
  refine R_region ?_
  refine J_move rfl rfl rfl ?_
  refine J_cmp rfl rfl rfl rfl rfl ?_
  refine J_move rfl rfl rfl ?_
  refine J_guard_not rfl rfl rfl rfl rfl rfl ?_
  refine J_guard_not rfl rfl rfl rfl rfl rfl ?_
  refine J_pick_false rfl rfl rfl rfl ?_
  refine J_nil3 ?_
  refine E_then ?_
  refine R_cond_false rfl ?_
  refine R_skip ?_
  refine E_then ?_
  refine R_seq ?_
  refine R_block ?_
  refine R_seq ?_
  refine R_region ?_
  refine J_move rfl rfl rfl ?_
  refine J_move rfl rfl rfl ?_
  refine J_callr rfl (disk_there d _ _ i _) (by exact Gives.refl) rfl rfl ?_
  by_cases hi : 0 ≤ i ∧ i < D.A.length
  · have e1 : (decide (0 ≤ i) && decide (i < (D.A.length : Int))) = true := by simp [hi]
    simp only [e1]
    simp only [dkH]
    refine J_un_not rfl rfl rfl ?_
    refine J_assign rfl rfl rfl ?_
    refine J_nil3 ?_
    refine E_then ?_
    refine R_cond_false rfl ?_
    refine R_seq ?_
    refine R_region ?_
    refine J_move rfl rfl rfl ?_
    refine J_len_str rfl rfl rfl ?_
    refine J_cmp rfl rfl rfl rfl rfl ?_
    refine J_assign rfl rfl rfl ?_
    refine J_nil3 ?_
    refine E_then ?_
    refine R_cond rfl (fun hh => ?_) (fun hh => ?_)
    simp only [decide_eq_true_eq, decide_eq_false_iff_not, Bool.and_eq_true, Bool.or_eq_true, Bool.not_eq_true', Bool.not_eq_false', beq_iff_eq, bne_iff_ne, beq_eq_false_iff_ne, bne_eq_false_iff_eq, ne_eq, ge_iff_le, gt_iff_lt, Int.not_le, Int.not_lt, Bool.and_eq_false_iff, Bool.or_eq_false_iff, Decidable.not_not] at hh
    refine R_seq ?_
    refine R_seq ?_
    refine R_region ?_
    refine J_move rfl rfl rfl ?_
    refine J_un_not rfl rfl rfl ?_
    refine J_nil2 ?_
    refine E_then ?_
    refine R_cond_true rfl ?_
    refine R_region ?_
    refine J_assign rfl rfl rfl ?_
    refine J_nil ?_
    refine E_then ?_
    refine R_seq ?_
    refine R_region ?_
    refine J_move rfl rfl rfl ?_
    refine J_assign rfl rfl rfl ?_
    refine J_nil1 ?_
    refine E_then ?_
    refine R_ret ?_
    refine E_block_ret ?_
    refine E_then_ret ?_
    rotate_left
    simp only [decide_eq_true_eq, decide_eq_false_iff_not, Bool.and_eq_true, Bool.or_eq_true, Bool.not_eq_true', Bool.not_eq_false', beq_iff_eq, bne_iff_ne, beq_eq_false_iff_ne, bne_eq_false_iff_eq, ne_eq, ge_iff_le, gt_iff_lt, Int.not_le, Int.not_lt, Bool.and_eq_false_iff, Bool.or_eq_false_iff, Decidable.not_not] at hh
    refine R_skip ?_
    refine E_block_normal ?_
    refine E_then ?_
    refine R_seq ?_
    refine R_seq ?_
    refine R_region ?_
    refine J_move rfl rfl rfl ?_
    refine J_nilCheck rfl rfl rfl ?_
    refine J_fieldAddr0 rfl rfl rfl ?_
    refine J_load rfl rfl rfl rfl ?_
    refine J_map_nil rfl rfl rfl rfl ?_
    refine J_nil3 ?_
    refine E_then ?_
    refine R_cond_false rfl ?_
    refine R_skip ?_
    refine E_then ?_
    refine R_seq ?_
    refine R_region ?_
    refine J_move rfl rfl rfl ?_
    refine J_nilCheck rfl rfl rfl ?_
    refine J_fieldAddr0 rfl rfl rfl ?_
    refine J_load rfl rfl rfl rfl ?_
    refine J_move rfl rfl rfl ?_
    refine J_move rfl rfl rfl ?_
    refine J_mapUpdate rfl rfl rfl (by with_reducible exact Take.next (Take.next Take.here)) ?_
    refine J_nil3 ?_
    refine E_then ?_
    refine R_seq ?_
    refine R_region ?_
    refine J_move rfl rfl rfl ?_
    refine J_move rfl rfl rfl ?_
    refine J_nilCheck rfl rfl rfl ?_
    refine J_fieldAddr0 rfl rfl rfl ?_
    refine J_load rfl rfl rfl rfl ?_
    refine J_move rfl rfl rfl ?_
    refine J_move rfl rfl rfl ?_
    refine J_build rfl rfl rfl rfl ?_
    refine J_buildSlice rfl rfl rfl rfl rfl rfl ?_; intro
    rotate_left
    · have e2 : ¬ s.length = 64 := by omega
      have e3 : D.wr i s = D.tick := by unfold Dk.wr; rw [if_neg (by omega)]
      have e4 : D.wrE i s = 12 := by unfold Dk.wrE; rw [if_pos (by omega), if_neg e2]
      rw [e3, e4]
      apply E_ret Tryz.results159
      · exact Res.tmp rfl (Res.nil)
      · intro w s
        exact ⟨rfl, shut_dsk hx' s⟩
    · have e2 : s.length = 64 := by omega
      have e4 : D.wrE i s = 0 := by unfold Dk.wrE; rw [if_pos (by omega), if_pos e2]
      have hwk := hx.wk
      rw [e4]
      refine J_append (m := 1) (k := 2) (xs := secs x.ws) (ys := [.int .i64 i, .string (S s)]) (E := 164) rfl rfl (by with_reducible exact Take.next (Take.next (Take.next (Take.next Take.here)))) (by rintro k ⟨⟩) rfl (by omega) (by omega) (by simp) rfl (by rw [secs_length]; omega) rfl rfl rfl ?_
      intro v' hsv
      refine J_nilCheck rfl rfl rfl ?_
      refine J_fieldAddr0 rfl rfl rfl ?_
      refine J_store rfl rfl (by assumption) rfl ?_
      refine J_nil3 ?_
      refine E_then ?_
      refine R_seq ?_
      refine R_region ?_
      refine J_move rfl rfl rfl ?_
      refine J_assign rfl rfl rfl ?_
      refine J_nil1 ?_
      refine E_then ?_
      refine R_ret ?_
      apply E_ret Tryz.results159
      · exact Res.tmp rfl (Res.nil)
      · intro w hs
        have hx2 := hx.wr (i := i) (s := s) ⟨hi.1, by omega⟩ e2 v'
        have e5 : (D.wr i s).A = D.A := by unfold Dk.wr; split <;> rfl
        refine ⟨rfl, shut_dsk hx2 ?_⟩
        dsimp only [dkL, List.cons_append, List.nil_append]
        rw [secs_snoc, e5]
        exact hs.gives (by exact Gives.cons (Take.next (Take.next (Take.next Take.here))) (Gives.cons (Take.next (Take.next (Take.next Take.here))) (Gives.cons (Take.next (Take.next Take.here)) (Gives.cons Take.here (Gives.drop Gives.refl)))))
  · have e1 : (decide (0 ≤ i) && decide (i < (D.A.length : Int))) = false := by simp; omega
    have e2 : D.wr i s = D.tick := by unfold Dk.wr; rw [if_neg (by omega)]
    have e3 : D.wrE i s = 3 := by unfold Dk.wrE; rw [if_neg (by omega)]
    simp only [e1, e2, e3]
    refine J_un_not rfl rfl rfl ?_
    refine J_assign rfl rfl rfl ?_
    refine J_nil3 ?_
    refine E_then ?_
    refine R_cond_true rfl ?_
    refine R_seq ?_
    refine R_seq ?_
    refine R_region ?_
    refine J_move rfl rfl rfl ?_
    refine J_un_not rfl rfl rfl ?_
    refine J_nil2 ?_
    refine E_then ?_
    refine R_cond_true rfl ?_
    refine R_region ?_
    refine J_assign rfl rfl rfl ?_
    refine J_nil ?_
    refine E_then ?_
    refine R_seq ?_
    refine R_region ?_
    refine J_move rfl rfl rfl ?_
    refine J_assign rfl rfl rfl ?_
    refine J_nil1 ?_
    refine E_then ?_
    refine R_ret ?_
    refine E_block_ret ?_
    refine E_then_ret ?_
    apply E_ret Tryz.results159
    · exact Res.tmp rfl (Res.nil)
    · intro w s
      exact ⟨rfl, shut_dsk hx' s⟩
/-- All is sure. -/
def Dk.fl (D : Dk) : Dk := ⟨D.V, D.V, D.k + 1⟩
/-- What is sure is seen. -/
def Dk.back (D : Dk) : Dk := ⟨D.A, D.A, D.k⟩
theorem secs_drop (ws : List (Int × Bytes)) (j : Nat) (h : j < ws.length) : ((secs ws).drop (j * 2)).take 2 = [.int .i64 ws[j].1, .string (S ws[j].2)] := by
  induction ws generalizing j with
  | nil => simp at h
  | cons p ws ih =>
    cases j with
    | zero => rfl
    | succ j =>
      have e : (secs (p :: ws)).drop ((j + 1) * 2) = (secs ws).drop (j * 2) := by
        have : (j + 1) * 2 = j * 2 + 1 + 1 := by omega
        rw [this]; rfl
      rw [e, ih j (by simpa using h)]; rfl
theorem lay_take (A : List Bytes) (ws : List (Int × Bytes)) (j : Nat) (h : j < ws.length) : lay A (ws.take (j + 1)) = (lay A (ws.take j)).set ws[j].1.toNat ws[j].2 := by
  rw [List.take_succ_eq_append_getElem h, lay_snoc]
theorem lay_length (A : List Bytes) (ws : List (Int × Bytes)) : (lay A ws).length = A.length := by
  induction ws generalizing A with
  | nil => rfl
  | cons p ws ih => simp [lay] at ih ⊢; rw [ih]; simp
/-- settle of what waits. -/
theorem disk_settle (d bs bm : Nat) (vw : Value) (A : List Bytes) (m ws : List (Int × Bytes)) (ops : Int) (hA : A.length ≤ 1000) (hw : ws.length < 1000000000000) (hr : ∀ p ∈ ws, 0 ≤ p.1 ∧ p.1 < A.length) (F : List HP) :
    Fn Tryz.prog 141 [.pointer (some ⟨d, 0, none⟩), vw]
      (dkH d A.length ⟨bs, bm, vw, m, ws, ops⟩ :: cl bs 9 (strs A) :: mpI bm m :: own vw 164 2 (secs ws) :: F)
      (Pst (.tuple #[]) (dkH d A.length ⟨bs, bm, .slice none 0 0, [], [], ops⟩ :: cl bs 9 (strs (lay A ws)) :: mpI bm [] :: F)) := by
  refine Fn_at fun w s => ?_
  have s1 : Sat w (own vw 164 2 (secs ws) :: dkH d A.length ⟨bs, bm, vw, m, ws, ops⟩ :: cl bs 9 (strs A) :: mpI bm m :: F) := s.gives (by exact Gives.last (Take.next (Take.next (Take.next Take.here))))
  rcases s1.own with ⟨hv, h0⟩ | ⟨b2, len, cap, sp, hv, h2, h3, s'⟩
  · refine ⟨_, s1.drop, ?_⟩
    have h0' : ws = [] := by
      cases ws with
      | nil => rfl
      | cons p ws => simp [secs] at h0
    subst h0'; subst hv
    simp only [dkH]
    refine Fn_enter Tryz.func141 rfl Tryz.ntmps141 rfl ?_
    refine R_seq ?_
    refine R_seq ?_
    refine R_region ?_
    refine J_move rfl rfl rfl ?_
    refine J_len_slice rfl rfl rfl ?_
    refine J_move rfl rfl rfl ?_
    refine J_nil3 ?_
    refine E_then ?_
    refine R_block ?_
    refine R_loop (X := Unit) (fun _ => [(8, .int .i64 0), (7, .int .i64 0), (0, .pointer (some ⟨d, 0, none⟩))])
      (fun _ => cl d 171 [.slice (some ⟨bs, 0, none⟩) A.length A.length, .map (some bm), .slice none 0 0, .int .i64 ops, .slice none 0 0, .int .i64 0, .bool false] :: cl bs 9 (strs A) :: mpI bm m :: F) (fun _ => 0) () (by exact sub_cons rfl (sub_cons rfl (sub_cons rfl sub_nil))) Gives.refl ?_
    rintro ⟨⟩
    refine R_seq ?_
    refine R_region ?_
    refine J_cmp rfl rfl rfl rfl rfl ?_
    refine J_nil1 ?_
    refine E_then ?_
    refine R_seq ?_
    refine R_cond_false rfl ?_
    refine R_exit ?_
    refine E_then_exit ?_
    refine E_then_exit ?_
    refine E_block_hit ?_
    refine E_then ?_
    refine R_seq ?_
    refine R_region ?_
    refine J_move rfl rfl rfl ?_
    refine J_nilCheck rfl rfl rfl ?_
    refine J_fieldAddr0 rfl rfl rfl ?_
    refine J_load rfl rfl rfl rfl ?_
    refine J_clear rfl (by with_reducible exact Take.next (Take.next Take.here)) ?_
    refine J_nil3 ?_
    refine E_then ?_
    refine R_region ?_
    refine J_move rfl rfl rfl ?_
    refine J_nilCheck rfl rfl rfl ?_
    refine J_fieldAddr0 rfl rfl rfl ?_
    refine J_store rfl rfl rfl rfl ?_
    refine J_nil3 ?_
    have e0 : lay A [] = A := rfl
    rw [e0]
    apply E_endP Tryz.results141
    · exact Res.nil
    · exact Gives.cons (Take.next Take.here) (Gives.last (Take.next Take.here))
    rfl
  · refine ⟨_, s', ?_⟩
    have hlen : len = ws.length := by rw [secs_length] at h2; omega
    subst hlen; subst hv
    simp only [dkH]
    refine Fn_enter Tryz.func141 rfl Tryz.ntmps141 rfl ?_
    refine R_seq ?_
    refine R_seq ?_
    refine R_region ?_
    refine J_move rfl rfl rfl ?_
    refine J_len_slice rfl rfl rfl ?_
    refine J_move rfl rfl rfl ?_
    refine J_nil3 ?_
    refine E_then ?_
    refine R_block ?_
    refine R_loop (X := {j : Nat // j ≤ ws.length}) (fun j => [(8, .int .i64 (j.1 : Int)), (7, .int .i64 (ws.length : Int)), (6, .slice (some ⟨b2, 0, none⟩) ws.length cap), (0, .pointer (some ⟨d, 0, none⟩))])
      (fun j => cl b2 164 (secs ws ++ sp) :: cl d 171 [.slice (some ⟨bs, 0, none⟩) A.length A.length, .map (some bm), .slice (some ⟨b2, 0, none⟩) ws.length cap, .int .i64 ops, .slice none 0 0, .int .i64 0, .bool false] :: cl bs 9 (strs (lay A (ws.take j.1))) :: mpI bm m :: F)
      (fun j => ws.length - j.1) ⟨0, Nat.zero_le _⟩ (by exact sub_cons rfl (sub_cons rfl (sub_cons rfl (sub_cons rfl sub_nil)))) Gives.refl ?_
    rintro ⟨j, hj⟩
    dsimp only
    refine R_seq ?_
    refine R_region ?_
    refine J_cmp rfl rfl rfl rfl rfl ?_
    refine J_nil1 ?_
    refine E_then ?_
    refine R_seq ?_
    refine R_cond rfl (fun hh => ?_) (fun hh => ?_)
    simp only [decide_eq_true_eq, decide_eq_false_iff_not, Bool.and_eq_true, Bool.or_eq_true, Bool.not_eq_true', Bool.not_eq_false', beq_iff_eq, bne_iff_ne, beq_eq_false_iff_ne, bne_eq_false_iff_eq, ne_eq, ge_iff_le, gt_iff_lt, Int.not_le, Int.not_lt, Bool.and_eq_false_iff, Bool.or_eq_false_iff, Decidable.not_not] at hh
    refine R_skip ?_
    refine E_then ?_
    refine R_seq ?_
    refine R_block ?_
    refine R_seq ?_
    refine R_region ?_
    refine J_indexAddr rfl rfl (by omega) (by omega) rfl rfl ?_
    rotate_left
    simp only [decide_eq_true_eq, decide_eq_false_iff_not, Bool.and_eq_true, Bool.or_eq_true, Bool.not_eq_true', Bool.not_eq_false', beq_iff_eq, bne_iff_ne, beq_eq_false_iff_ne, bne_eq_false_iff_eq, ne_eq, ge_iff_le, gt_iff_lt, Int.not_le, Int.not_lt, Bool.and_eq_false_iff, Bool.or_eq_false_iff, Decidable.not_not] at hh
    refine R_exit ?_
    refine E_then_exit ?_
    refine E_then_exit ?_
    refine E_block_hit ?_
    refine E_then ?_
    refine R_seq ?_
    refine R_region ?_
    refine J_move rfl rfl rfl ?_
    refine J_nilCheck rfl rfl rfl ?_
    refine J_fieldAddr0 rfl rfl rfl ?_
    refine J_load rfl rfl rfl rfl ?_
    rotate_left
    · have hlt : j < ws.length := by omega
      have e1 : 0 + (j : Int).toNat * 2 = j * 2 := by omega
      have hsl := secs_length ws
      rw [e1]
      refine J_loadAX (us := [.int .i64 ws[j].1, .string (S ws[j].2)]) rfl (by rw [List.length_append, hsl]; omega) (by
        rw [List.drop_append_of_le_length (by omega), List.take_append_of_le_length (by rw [List.length_drop, hsl]; omega)]
        exact secs_drop ws j hlt) rfl rfl ?_
      refine J_alloc rfl rfl ?_; intro
      refine J_storeA rfl rfl rfl rfl rfl rfl ?_
      refine J_nil2 ?_
      refine E_then ?_
      rename_i b5
      have hr := hr ws[j] (List.getElem_mem hlt)
      refine R_draw ([cl b5 164 [.int .i64 ws[j].1, .string (S ws[j].2)], cl d 171 [.slice (some ⟨bs, 0, none⟩) A.length A.length, .map (some bm), .slice (some ⟨b2, 0, none⟩) ws.length cap, .int .i64 ops, .slice none 0 0, .int .i64 0, .bool false]]) [9] (by kernel_rfl) ?_
      (refine D_lookP (i := 0) rfl (by kernel_rfl) (by exact NP_block (NP_then (NP_then (NP_block (NP_then NP_body))))) (by exact Y_move rfl) rfl rfl ?_)
      (refine D_lookP (i := 1) rfl (by kernel_rfl) (by exact NP_block (NP_then (NP_then (NP_block (NP_then NP_body))))) (by exact Y_nilCheck rfl) rfl rfl ?_)
      (refine D_lookP (i := 2) rfl (by kernel_rfl) (by exact NP_block (NP_then (NP_then (NP_block (NP_then NP_body))))) (by exact Y_fieldAddr0 rfl) rfl rfl ?_)
      (refine D_look (i := 3) rfl (by kernel_rfl) (by exact NP_block (NP_then (NP_then (NP_block (NP_then NP_body))))) (by exact Gives.cons Take.here (Gives.cons (Take.next Take.here) Gives.nil)) (by exact Y_load rfl rfl) rfl rfl ?_)
      (refine D_lookP (i := 4) rfl (by kernel_rfl) (by exact NP_block (NP_then (NP_then (NP_block (NP_then NP_body))))) (by exact Y_fieldAddr0 rfl) rfl rfl ?_)
      (refine D_look (i := 5) rfl (by kernel_rfl) (by exact NP_block (NP_then (NP_then (NP_block (NP_then NP_body))))) (by exact Gives.cons Take.here (Gives.cons (Take.next Take.here) Gives.nil)) (by exact Y_load rfl rfl) rfl rfl ?_)
      (refine D_lookP (i := 6) rfl (by kernel_rfl) (by exact NP_block (NP_then (NP_then (NP_block (NP_then NP_body))))) (by exact Y_fieldAddr0 rfl) rfl rfl ?_)
      (refine D_look (i := 7) rfl (by kernel_rfl) (by exact NP_block (NP_then (NP_then (NP_block (NP_then NP_body))))) (by exact Gives.cons Take.here (Gives.cons (Take.next Take.here) Gives.nil)) (by exact Y_load rfl rfl) rfl rfl ?_)
      (refine D_look (i := 8) rfl (by kernel_rfl) (by exact NP_block (NP_then (NP_then (NP_block (NP_then NP_body))))) (by exact Gives.cons Take.here (Gives.cons (Take.next Take.here) Gives.nil)) (by exact Y_indexAddr rfl rfl (by omega) (by omega)) rfl rfl ?_)
      refine D_try1 (i := 9) (by kernel_rfl) rfl ?_
      have e2 : 0 + ws[j].1.toNat * 1 = ws[j].1.toNat := by omega
      have hal := lay_length A (ws.take j)
      rw [e2]
      refine J_storeX (vs' := strs (lay A (ws.take (j + 1)))) rfl rfl rfl (by simp [strs, hal]; omega) (by rw [lay_take A ws j hlt]; simp [strs, List.map_set]) ?_
      refine D_last (by kernel_rfl) ?_
      (first | refine D_end1 (by kernel_rfl) ?_ | refine D_end (by kernel_rfl) ?_)
      refine E_block_normal ?_
      refine E_then ?_
      refine R_region ?_
      refine J_ari64 rfl rfl rfl (by omega) rfl rfl ?_
      refine J_moveg rfl rfl rfl ?_
      refine J_nil1 ?_
      exact E_thenI fun a w he hs => ⟨⟨j + 1, by omega⟩, by simp; omega, he.sub (by exact sub_cons rfl (sub_cons rfl (sub_cons rfl (sub_cons rfl sub_nil)))), hs.gives (by exact Gives.cons (Take.next Take.here) (Gives.cons (Take.next Take.here) (Gives.cons (Take.next Take.here) (Gives.cons (Take.next Take.here) (Gives.drop Gives.refl)))))⟩
    · have e : j = ws.length := by omega
      subst e
      rw [List.take_length]
      refine J_clear rfl (by with_reducible exact Take.next (Take.next (Take.next Take.here))) ?_
      refine J_nil3 ?_
      refine E_then ?_
      refine R_region ?_
      refine J_move rfl rfl rfl ?_
      refine J_nilCheck rfl rfl rfl ?_
      refine J_fieldAddr0 rfl rfl rfl ?_
      refine J_store rfl rfl rfl rfl ?_
      refine J_nil3 ?_
      apply E_endP Tryz.results141
      · exact Res.nil
      · exact Gives.cons (Take.next (Take.next Take.here)) (Gives.cons (Take.next (Take.next Take.here)) (Gives.cons Take.here (Gives.drop Gives.refl)))
      rfl
end Go.Proofs.Sol

/- A disk on which nothing fails: all made sure, begun again, made new. -/
namespace Go.Proofs.Sol
open Go Go.Proofs
set_option maxRecDepth 100000
set_option maxHeartbeats 4000000
set_option linter.unusedVariables false
set_option linter.unusedSimpArgs false
attribute [local irreducible] R J JW E D Fn Y clf mpI own Sat Exit.then Exit.inBlock bodyPost bodyPostM Code.wpIn wpL
theorem fl_ok {D : Dk} {x : DkX} (h : DkOk D x) : DkOk D.fl ⟨x.bs, x.bm, .slice none 0 0, [], [], x.ops + 1⟩ := by
  have hl := h.len
  refine ⟨rfl, by simp [Dk.fl]; have := h.many; omega, h.v64, h.v64, ?_, rfl, by simp, ?_, by simp⟩
  · intro i hi; simp [Dk.fl, mget]
  · have := h.ops; simp [Dk.fl]; omega
theorem disk_Flush (d : Nat) (D : Dk) (hk : D.k < 100000000000) (F : List HP) : Fn Tryz.prog 115 [.pointer (some ⟨d, 0, none⟩)] (dsk d D :: F) (Pst (.int .i64 0) (dsk d D.fl :: F)) := by
  refine Fn.open_ (fun w h => open_dsk h) ?_
  rintro ⟨x, hx⟩
  have ho := hx.ops
  have hf := fl_ok hx
  have hwk := hx.wk
  have hmany := hx.many
  have hwt := hx.waits
  have hlen := hx.len
  have hinr := hx.inr
  dsimp only [dkL, List.cons_append, List.nil_append]
  refine Fn_enter Tryz.func115 rfl Tryz.ntmps115 rfl ?_
  refine R_seq ?_
  refine R_region ?_
  refine J_assign rfl rfl rfl ?_
  refine J_nil ?_
  refine E_then ?_
  refine R_seq ?_
  refine R_region ?_
  refine J_move rfl rfl rfl ?_
  refine J_callr rfl (disk_call d _ x (by omega) _) (by exact Gives.refl) rfl rfl ?_
  simp only [dkH]
  refine J_move rfl rfl rfl ?_
  refine J_extract rfl rfl rfl rfl ?_
  refine J_extract rfl rfl rfl rfl ?_
  refine J_assign rfl rfl rfl ?_
  refine J_assign rfl rfl rfl ?_
  refine J_nil3 ?_
  refine E_then ?_
  refine R_seq ?_
  refine R_seq ?_
  refine R_region ?_
  refine J_move rfl rfl rfl ?_
  refine J_cmp rfl rfl rfl rfl rfl ?_
  refine J_nil2 ?_
  refine E_then ?_
  refine R_cond_true rfl ?_
  refine R_region ?_
  refine J_move rfl rfl rfl ?_
  refine J_move rfl rfl rfl ?_
  refine J_nilCheck rfl rfl rfl ?_
  refine J_fieldAddr0 rfl rfl rfl ?_
  refine J_load rfl rfl rfl rfl ?_
  refine J_callr rfl (disk_settle d x.bs x.bm x.vw D.A x.m x.ws (x.ops + 1) hmany (by omega) (fun p hp => ⟨(hinr p hp).1, (hinr p hp).2.1⟩) F) (by exact Gives.refl) rfl rfl ?_
  rw [hwt]
  refine J_nil3 ?_
  refine E_then ?_
  refine R_seq ?_
  refine R_region ?_
  refine J_move rfl rfl rfl ?_
  refine J_assign rfl rfl rfl ?_
  refine J_nil1 ?_
  refine E_then ?_
  refine R_ret ?_
  apply E_ret Tryz.results115
  · exact Res.tmp rfl (Res.nil)
  · intro w s
    refine ⟨rfl, shut_dsk hf ?_⟩
    dsimp only [dkL, List.cons_append, List.nil_append, Dk.fl]
    rw [hlen]
    have s2 : Sat w (own (.slice none 0 0) 164 2 (secs []) :: _) := Sat.own_nil s
    exact s2.gives (by exact Gives.cons (Take.next Take.here) (Gives.cons (Take.next Take.here) (Gives.last (Take.next Take.here))))
/-- Begun again: nothing that waits survives. -/
theorem back_ok {D : Dk} {x : DkX} (h : DkOk D x) : DkOk D.back ⟨x.bs, x.bm, .slice none 0 0, [], [], x.ops⟩ :=
  ⟨rfl, h.many, h.a64, h.a64, fun i hi => by simp [Dk.back, mget], rfl, by simp, h.ops, by simp⟩
abbrev zs64 : Bytes := List.replicate 64 0
/-- A new disk. -/
def Dk.new (k : Nat) : Dk := ⟨List.replicate k zs64, List.replicate k zs64, 0⟩
theorem new_ok (k : Nat) (hk : k ≤ 1000) (bs bm : Nat) : DkOk (Dk.new k) ⟨bs, bm, .slice none 0 0, [], [], 0⟩ :=
  ⟨rfl, by simp [Dk.new]; omega, fun s hs => by rw [List.eq_of_mem_replicate hs]; rfl, fun s hs => by rw [List.eq_of_mem_replicate hs]; rfl, fun i hi => by simp [Dk.new, mget], rfl, by simp, by simp [Dk.new], by simp⟩
theorem disk_New (k : Nat) (hk : k ≤ 1000) (F : List HP) : Fn Tryz.prog 28 [.int .i64 (k : Int)] F (fun v w => ∃ d, v = .pointer (some ⟨d, 0, none⟩) ∧ Sat w (dsk d (Dk.new k) :: F)) := by
  refine Fn_enter Tryz.func28 rfl Tryz.ntmps28 rfl ?_
  refine R_seq ?_
  refine R_region ?_
  refine J_assign rfl rfl rfl ?_
  refine J_nil ?_
  refine E_then ?_
  refine R_seq ?_
  refine R_region ?_
  refine J_move rfl rfl rfl ?_
  refine J_max rfl rfl rfl rfl ?_
  refine J_min rfl rfl rfl rfl ?_
  refine J_assign rfl rfl rfl ?_
  refine J_nil3 ?_
  refine E_then ?_
  refine R_seq ?_
  refine R_region ?_
  refine J_callr rfl (strings_Repeat 0 64 (by omega) _) (by exact Gives.refl) rfl rfl ?_
  refine J_buildSlice rfl rfl rfl rfl rfl rfl ?_; intro
  refine J_move rfl rfl rfl ?_
  have e1 : (if (1000 : Int) < (if (0 : Int) > (k : Int) then 0 else (k : Int)) then 1000 else (if (0 : Int) > (k : Int) then 0 else (k : Int))) = (k : Int) := by
    split <;> split <;> omega
  rw [e1]
  refine J_callm rfl (slices_Repeat _ zs64 k hk F) ⟨fun _ s => s⟩ rfl rfl ?_
  rintro v w ⟨b, rfl, s0⟩
  refine JW.of s0 ?_
  refine J_makeMap rfl rfl ?_; intro
  refine J_build rfl rfl rfl rfl ?_
  refine J_boxA rfl rfl rfl ?_; intro
  refine J_assign rfl rfl rfl ?_
  refine J_nil3 ?_
  refine E_then ?_
  refine R_ret ?_
  rename_i bm d
  apply E_ret Tryz.results28
  · exact Res.tmp rfl (Res.nil)
  · intro w s
    refine ⟨d, rfl, shut_dsk (x := ⟨b, bm, .slice none 0 0, [], [], 0⟩) (new_ok k hk b bm) ?_⟩
    have e2 : List.replicate k (Value.string (S zs64)) = strs (Dk.new k).A := by simp [strs, Dk.new]
    have e3 : (Dk.new k).A.length = k := by simp [Dk.new]
    rw [e2] at s
    dsimp only [dkL, List.cons_append, List.nil_append]
    rw [e3]
    have s2 : Sat w (own (.slice none 0 0) 164 2 (secs []) :: _) := Sat.own_nil s
    exact s2.gives (by exact Gives.cons (Take.next Take.here) (Gives.cons (Take.next (Take.next Take.here)) (Gives.last (Take.next Take.here))))
end Go.Proofs.Sol

/- A disk of which only what is seen counts, and how many calls there were at most. -/
namespace Go.Proofs.Sol
open Go Go.Proofs
set_option maxRecDepth 100000
set_option maxHeartbeats 4000000
set_option linter.unusedVariables false
set_option linter.unusedSimpArgs false
attribute [local irreducible] R J JW E D Fn Y clf mpI own Sat Exit.then Exit.inBlock bodyPost bodyPostM Code.wpIn wpL
def dvk (d : Nat) (V : List Bytes) (k : Nat) : HP := exi fun D : {D : Dk // D.V = V ∧ D.k ≤ k} => dsk d D.1
instance (d : Nat) (V : List Bytes) (k : Nat) : Up (dvk d V k) := inferInstanceAs (Up (exi _))
theorem open_dvk {w : World} {d k : Nat} {V : List Bytes} {L : List HP} (h : Sat w (dvk d V k :: L)) : ∃ D : {D : Dk // D.V = V ∧ D.k ≤ k}, Sat w (dsk d D.1 :: L) := h.exi
theorem shut_dvk {w : World} {d k : Nat} {D : Dk} {V : List Bytes} {L : List HP} (hV : D.V = V) (hk : D.k ≤ k) (h : Sat w (dsk d D :: L)) : Sat w (dvk d V k :: L) := h.conv fun _ e => ⟨⟨D, hV, hk⟩, e⟩
theorem dvk_le {w : World} {d k k' : Nat} {V : List Bytes} {L : List HP} (hk : k ≤ k') (h : Sat w (dvk d V k :: L)) : Sat w (dvk d V k' :: L) := by
  obtain ⟨⟨D, h1, h2⟩, s⟩ := open_dvk h
  exact shut_dvk h1 (by omega) s
theorem dvk_know {w : World} {d k : Nat} {V : List Bytes} {L : List HP} (h : Sat w (dvk d V k :: L)) : V.length ≤ 1000 ∧ ∀ s ∈ V, s.length = 64 := by
  obtain ⟨⟨D, rfl, _⟩, s⟩ := open_dvk h
  obtain ⟨⟨x, hx⟩, _⟩ := open_dsk s
  have h1 := hx.len
  have h2 := hx.many
  exact ⟨by dsimp only at *; omega, hx.v64⟩
def rdV (V : List Bytes) (i : Int) : Bytes := if 0 ≤ i ∧ i < V.length then V.getD i.toNat [] else []
def rdE (V : List Bytes) (i : Int) : Int := if 0 ≤ i ∧ i < V.length then 0 else 3
def wrV (V : List Bytes) (i : Int) (s : Bytes) : List Bytes := if 0 ≤ i ∧ i < V.length ∧ s.length = 64 then V.set i.toNat s else V
def wrE (V : List Bytes) (i : Int) (s : Bytes) : Int := if 0 ≤ i ∧ i < V.length then (if s.length = 64 then 0 else 12) else 3
theorem diskv_Read (d : Nat) (V : List Bytes) (k : Nat) (i : Int) (hk : k < 1000000000) (F : List HP) : Fn Tryz.prog 114 [.pointer (some ⟨d, 0, none⟩), .int .i64 i] (dvk d V k :: F) (Pst (.tuple #[.string (S (rdV V i)), .int .i64 (rdE V i)]) (dvk d V (k + 1) :: F)) := by
  refine Fn.open_ (fun w h => open_dvk h) ?_
  rintro ⟨D, rfl, h2⟩
  refine (disk_Read d D i (by omega) F).mono Gives.refl ?_
  rintro v w ⟨h3, h4⟩
  exact ⟨h3, shut_dvk (D := D.tick) rfl (by simp [Dk.tick]; omega) h4⟩
theorem diskv_Write (d : Nat) (V : List Bytes) (k : Nat) (i : Int) (s : Bytes) (hk : k < 1000000000) (F : List HP) : Fn Tryz.prog 159 [.pointer (some ⟨d, 0, none⟩), .int .i64 i, .string (S s)] (dvk d V k :: F) (Pst (.int .i64 (wrE V i s)) (dvk d (wrV V i s) (k + 1) :: F)) := by
  refine Fn.open_ (fun w h => open_dvk h) ?_
  rintro ⟨D, rfl, h2⟩
  refine (disk_Write d D i s (by omega) F).mono Gives.refl ?_
  rintro v w ⟨h3, h4⟩
  refine ⟨h3, shut_dvk ?_ ?_ h4⟩
  · unfold Dk.wr wrV; split <;> rfl
  · unfold Dk.wr; split <;> simp [Dk.tick] <;> omega
theorem diskv_Flush (d : Nat) (V : List Bytes) (k : Nat) (hk : k < 1000000000) (F : List HP) : Fn Tryz.prog 115 [.pointer (some ⟨d, 0, none⟩)] (dvk d V k :: F) (Pst (.int .i64 0) (dvk d V (k + 1) :: F)) := by
  refine Fn.open_ (fun w h => open_dvk h) ?_
  rintro ⟨D, rfl, h2⟩
  refine (disk_Flush d D (by omega) F).mono Gives.refl ?_
  rintro v w ⟨h3, h4⟩
  exact ⟨h3, shut_dvk (D := D.fl) rfl (by simp [Dk.fl]; omega) h4⟩
theorem diskv_Sectors (d : Nat) (V : List Bytes) (k : Nat) (F : List HP) : Fn Tryz.prog 161 [.pointer (some ⟨d, 0, none⟩)] (dvk d V k :: F) (Pst (.int .i64 (V.length : Int)) (dvk d V k :: F)) := by
  refine Fn.open_ (fun w h => open_dvk h) ?_
  rintro ⟨D, rfl, h2⟩
  dsimp only
  refine Fn.open_ (fun w h => open_dsk h) ?_
  rintro ⟨x, hx⟩
  dsimp only [dkL, List.cons_append, List.nil_append]
  refine (disk_Sectors d D.A.length x _).mono Gives.refl ?_
  rintro v w ⟨h1, h2'⟩
  exact ⟨by rw [h1, hx.len], shut_dvk rfl h2 (shut_dsk hx h2')⟩
theorem diskv_New (k : Nat) (hk : k ≤ 1000) (F : List HP) : Fn Tryz.prog 28 [.int .i64 (k : Int)] F (fun v w => ∃ d, v = .pointer (some ⟨d, 0, none⟩) ∧ Sat w (dvk d (List.replicate k zs64) 0 :: F)) := by
  refine (disk_New k hk F).mono Gives.refl ?_
  rintro v w ⟨d, h1, h2⟩
  exact ⟨d, h1, shut_dvk rfl (by simp [Dk.new]) h2⟩
end Go.Proofs.Sol

/- Ranges: over a map; over a function that tells things. -/
namespace Go.Proofs.Sol
open Go
section
variable {P : Program} {ops : Array Oper} {rest : List Oper} {n : NT} {l g : Env} {L M : List HP} {Q : QT} {d ty : Nat} {pos : String} {aft : Array Edge}
/-- A map as it is while it is gone through. -/
def mpE (b : Nat) (es : List MapEntry) (clock : Nat) : HP := pt b (.map es.toArray clock)
def itr (b bm since : Nat) (seen : List Nat) : HP := pt b (.mapIter (some bm) since seen.toArray since)
theorem Sat.mpI_open {w : World} {b : Nat} {m : List (Int × Bytes)} {L : List HP} (s : Sat w (mpI b m :: L)) : ∃ x : {x : List MapEntry × Nat // ent m x.1 ∧ brn x.1 x.2}, Sat w (mpE b x.1.1 x.1.2 :: L) := by
  obtain ⟨h1, h2, s1, ⟨es, cl, he, hbr, hb⟩, hL⟩ := s
  exact ⟨⟨(es, cl), he, hbr⟩, h1, h2, s1, hb, hL⟩
theorem Sat.mpI_shut {w : World} {b c : Nat} {es : List MapEntry} {m : List (Int × Bytes)} {L : List HP} (s : Sat w (mpE b es c :: L)) (h1 : ent m es) (h2 : brn es c) : Sat w (mpI b m :: L) :=
  s.conv fun _ e => ⟨es, c, h1, h2, e⟩
theorem J_range {T K V b : Nat} {x : Operand} {es : List MapEntry} {c : Nat} {R : List HP} [u : UL P T (.map K V)] (hx : ev l g x = some (.map (some b))) (t : Take L (mpE b es c) R) (hd : Nat.blt d n.sz = true) (hn : look g d = none)
    (h : ∀ i, J P ops rest n ((d, .pointer (some ⟨i, 0, none⟩)) :: l) g (itr i b c [] :: mpE b es c :: R) Q) : J P ops (⟨some d, .range T x, ty, pos, aft, none⟩ :: rest) n l g L Q := by
  intro a w e s
  refine wpL_plain rfl fun K' hK => ?_
  unfold Oper.wp
  have s' := s.take t
  have hb := s'.cell
  have hr : (execOp a.eval ⟨some d, .range T x, ty, pos, aft, none⟩).run P w = .ok (.value (.pointer (some ⟨w.heap.size, 0, none⟩))) (w.alloc (.mapIter (some b) c #[] c)) := by
    simp only [execOp, e.eval hx]
    refine run_value ?_
    unfold Instr.range
    rw [run_bind, run_underlying u]
    simp only []
    rw [run_bind]
    unfold getObj
    simp only [Sem.run, hb]
    rfl
  rw [hr, Oper.upon_value]
  exact hK _ _ (h _ _ _ (e.putl hd hn _) (s'.alloc _))
/-- The next entry, whichever; or none is left. -/
theorem J_next {b i : Nat} {x : Operand} {es : List MapEntry} {c : Nat} {seen : List Nat} {R R2 : List HP} (hx : ev l g x = some (.pointer (some ⟨i, 0, none⟩))) (t : Take L (itr i b c seen) R) (t2 : Take R (mpE b es c) R2) (hbr : brn es c) (hd : Nat.blt d n.sz = true) (hn : look g d = none)
    (h1 : (∀ e ∈ es, e.born ∈ seen) → J P ops rest n ((d, .tuple #[.bool false]) :: l) g L Q)
    (h2 : ∀ e ∈ es, e.born ∉ seen → J P ops rest n ((d, .tuple #[.bool true, e.key, e.val]) :: l) g (itr i b c (seen ++ [e.born]) :: mpE b es c :: R2) Q) : J P ops (⟨some d, .next x false, ty, pos, aft, none⟩ :: rest) n l g L Q := by
  intro a w e s
  refine wpL_plain rfl fun K' hK => ?_
  unfold Oper.wp
  have s' := s.take t
  have hi := s'.cell
  have hb := (s'.drop.take t2).cell
  have key := run_next_at (P := P) w ty i b c c seen.toArray es.toArray c hi hb (by simpa using hbr.2) (Nat.le_refl _)
  rcases key with ⟨h0, hr⟩ | ⟨en, hen, w1, hw1, hr⟩
  · have hr' : (execOp a.eval ⟨some d, .next x false, ty, pos, aft, none⟩).run P w = .ok (.value (.tuple #[.bool false])) w := by
      simp only [execOp, e.eval hx]
      exact run_value hr
    rw [hr', Oper.upon_value]
    refine hK _ _ (h1 ?_ _ _ (e.putl hd hn _) s)
    intro x hx
    have h3 : (leftOf es.toArray seen.toArray).toList = [] := List.eq_nil_of_length_eq_zero (by simpa using h0)
    unfold leftOf at h3
    simp at h3
    exact h3 x hx
  · have hr' : (execOp a.eval ⟨some d, .next x false, ty, pos, aft, none⟩).run P w = .ok (.value (.tuple #[.bool true, en.key, en.val])) (ChangeMaps.setBlock w1 i (.mapIter (some b) c (seen.toArray.push en.born) c)) := by
      simp only [execOp, e.eval hx]
      exact run_value hr
    rw [hr', Oper.upon_value]
    unfold leftOf at hen
    simp at hen
    refine hK _ _ (h2 en hen.1 hen.2 _ _ (e.putl hd hn _) ?_)
    have s1 : Sat w1 (itr i b c seen :: R) := by
      rcases hw1 with rfl | rfl
      · exact s'
      · exact s'.of_heap rfl
    have s2 := s1.set (.mapIter (some b) c (seen ++ [en.born]).toArray c) (w' := ChangeMaps.setBlock w1 i (.mapIter (some b) c (seen.toArray.push en.born) c)) (by
      unfold ChangeMaps.setBlock
      congr 2
      simp)
    exact s2.gives (Gives.cons Take.here ⟨t2.out⟩)
theorem J_openOwn {v : Value} {E k : Nat} {xs : List Value} {R : List HP} (t : Take L (own v E k xs) R) (h1 : v = .slice none 0 0 → xs = [] → J P ops rest n l g R Q)
    (h2 : ∀ b len cap sp, v = .slice (some ⟨b, 0, none⟩) len cap → xs.length = len * k → xs.length + sp.length = cap * k → J P ops rest n l g (cl b E (xs ++ sp) :: R) Q) : J P ops rest n l g L Q := by
  intro a w e s
  rcases (s.take t).own with ⟨g1, g2⟩ | ⟨b, len, cap, sp, g1, g2, g3, s'⟩
  · exact h1 g1 g2 a w e (s.take t).drop
  · exact h2 b len cap sp g1 g2 g3 a w e s'
theorem J_entry {b i : Nat} {x : Operand} {es : List MapEntry} {c : Nat} {seen : List Nat} {en : MapEntry} {R R2 : List HP} (hx : ev l g x = some (.pointer (some ⟨i, 0, none⟩))) (t : Take L (itr i b c (seen ++ [en.born])) R) (t2 : Take R (mpE b es c) R2) (hbr : brn es c) (hen : en ∈ es)
    (hd : Nat.blt d n.sz = true) (hn : look g d = none)
    (h : J P ops rest n ((d, .tuple #[en.key, en.val]) :: l) g L Q) : J P ops (⟨some d, .entry x, ty, pos, aft, none⟩ :: rest) n l g L Q := by
  intro a w e s
  refine wpL_plain rfl fun K' hK => ?_
  unfold Oper.wp
  have s' := s.take t
  have hi := s'.cell
  have hb := (s'.drop.take t2).cell
  have hi' : w.heap[i]? = some (.mapIter (some b) c (seen.toArray.push en.born) c) := by rw [hi]; simp
  have hr' : (execOp a.eval ⟨some d, .entry x, ty, pos, aft, none⟩).run P w = .ok (.value (.tuple #[en.key, en.val])) w := by
    simp only [execOp, e.eval hx]
    exact run_value (run_entry_at (P := P) w i b c seen.toArray es.toArray c en hi' hb (by simpa using hen) (by simpa using hbr.1))
  rw [hr', Oper.upon_value]
  exact hK _ _ (h _ _ (e.putl hd hn _) s)
end
theorem Gives.own_nil {L M : List HP} {E k : Nat} (h : Gives L M) : Gives L (Sol.own (.slice none 0 0) E k [] :: M) := ⟨fun hh s => ⟨fun _ => none, hh, Split.empty _, .inl ⟨rfl, rfl⟩, h.out _ s⟩⟩
/-- A range over a function: the loop's record; one round, which goes on or leaves by 'return'. -/
def setPs (ps : Array Tmp) (vs : List Value) (tmps : Array Value) : Array Value := (ps.zip vs.toArray).foldl (fun tmps (t, a) => tmps.setIfInBounds t a) tmps
abbrev left (c : Loop) : Loop := { c with state := .done, pending := some .ret }
def RPost (l : Nat) (c : Loop) (I : Nat → List HP) (X : List HP) (i : Nat) (F : List HP) : Ending → World → Prop := fun e w' =>
  (e = .returned (.bool true) ∧ Sat w' (pt l (.loop c) :: (I (i + 1) ++ F))) ∨ (e = .returned (.bool false) ∧ Sat w' (pt l (.loop (left c)) :: (X ++ F)))
def Rounds (P : Program) (l : Nat) (c : Loop) (es : List (List Value)) (I : Nat → List HP) (X : List HP) : Prop :=
  ∀ i vs, es[i]? = some vs → ∀ F w, Sat w (pt l (.loop c) :: (I i ++ F)) → RoundIn Fence.wide 0 P l c.fn (setPs c.params vs c.tmps) c.assign c.body w (RPost l c I X i F)
/-- What a function that is ranged over tells, one after the other. -/
def Tells (P : Program) (f : FuncId) (caps : List Value) (C : List HP) (es : List (List Value)) : Prop :=
  ∀ (l : Nat) (c : Loop) (I : Nat → List HP) (X F : List HP), c.state = .ready → (∀ vs ∈ es, vs.length = c.params.size) → Rounds P l c es I X →
    Fn P f (.func (.yield l) #[] #[] :: caps) (pt l (.loop c) :: (C ++ (I 0 ++ F)))
      (fun _ w' => Sat w' (pt l (.loop c) :: (C ++ (I es.length ++ F))) ∨ Sat w' (pt l (.loop (left c)) :: (C ++ (X ++ F))))
def penv : List Nat → List Value → Env → Env
  | t :: ts, v :: vs, g => penv ts vs ((t, v) :: g)
  | _, _, g => g
theorem setPs_eq (ps : List Nat) (vs : List Value) (tmps : Array Value) : setPs ps.toArray vs tmps = (ps.zip vs).foldl (fun tmps (p : Nat × Value) => tmps.setIfInBounds p.1 p.2) tmps := by
  unfold setPs
  rw [List.zip_toArray, List.foldl_toArray]
theorem setPs_env {k : Nat} {ro : Option Nat} {ps : List Nat} {vs : List Value} {g : Env} {a : Act} (h : ps.all (fun t => Nat.blt t k) = true) (e : EnvOk ⟨k, [], ro⟩ [] g a) (hl : vs.length = ps.length) :
    EnvOk ⟨k, [], ro⟩ [] (penv ps vs g) { tmps := setPs ps.toArray vs a.tmps, defers := [] } := by
  induction ps generalizing vs g a with
  | nil =>
    cases vs with
    | cons _ _ => cases hl
    | nil => rw [setPs_eq]; exact ⟨e.size, rfl, e.l, e.g⟩
  | cons t ts ih =>
    cases vs with
    | nil => cases hl
    | cons v vs =>
      simp only [List.all_cons, Bool.and_eq_true] at h
      have h2 := ih h.2 (e.putg (d := t) h.1 rfl v) (by simpa using hl)
      have e1 : setPs (t :: ts).toArray (v :: vs) a.tmps = setPs ts.toArray vs (a.put (some t) v).tmps := by
        rw [setPs_eq, setPs_eq]; rfl
      rw [e1]
      exact h2
def RQ (P : Program) (l : Nat) (c : Loop) (I : Nat → List HP) (X : List HP) (i : Nat) (F : List HP) : QT := roundPost P l (RPost l c I X i F)
abbrev busy (c : Loop) : Loop := { c with state := .busy }
section
variable {P : Program} {L M R' : List HP} {Q : QT} {g : Env} {n : NT} {l : Nat} {c : Loop} {I : Nat → List HP} {X F : List HP} {i : Nat}
theorem run_getLoop {w : World} {c : Loop} (h : w.heap[l]? = some (.loop c)) : (Instr.getLoop l).run P w = .ok c w := by
  unfold Instr.getLoop
  rw [run_bind]
  unfold getObj
  simp only [Sem.run, h]
  rfl
theorem run_setObj {w : World} {c : Loop} {o' : Obj} (h : w.heap[l]? = some (.loop c)) : (setObj l o').run P w = .ok () { w with heap := w.heap.setIfInBounds l o' } := by
  unfold setObj
  simp only [Sem.run, h]
theorem E_roundN (hc : c.state = .ready ∧ c.pending = none) (t : Take L (pt l (.loop (busy c))) R') (hM : Gives R' (I (i + 1) ++ F)) : E (RQ P l c I X i F) .normal n g L := by
  intro a w e s
  have s' := s.take t
  have hb := s'.cell
  refine ⟨.bool true, { w with heap := w.heap.setIfInBounds l (.loop c) }, ?_, .inl ⟨rfl, ?_⟩⟩
  · unfold Instr.endRound
    rw [run_bind, run_getLoop hb]
    simp only []
    have e1 : ({ busy c with state := if (none : Option Code).isNone = true then .ready else .done, pending := none } : Loop) = c := by
      obtain ⟨h1, h2⟩ := hc
      cases c; simp_all
    rw [run_bind, e1, run_setObj hb]
    rfl
  · exact (s'.set (.loop c) rfl).gives (Gives.cons Take.here hM)
theorem E_roundR (t : Take L (pt l (.loop (busy c))) R') (hM : Gives R' (X ++ F)) : E (RQ P l c I X i F) .ret n g L := by
  intro a w e s
  have s' := s.take t
  have hb := s'.cell
  refine ⟨.bool false, { w with heap := w.heap.setIfInBounds l (.loop (left c)) }, ?_, .inr ⟨rfl, ?_⟩⟩
  · unfold Instr.endRound
    rw [run_bind, run_getLoop hb]
    simp only []
    rw [run_bind]
    have hs := run_setObj (P := P) (o' := .loop (left c)) hb
    simp only [Option.isNone_some, Bool.false_eq_true, if_false] at hs ⊢
    rw [hs]; rfl
  · exact (s'.set (.loop (left c)) rfl).gives (Gives.cons Take.here hM)
theorem round_of {k : Nat} {ps : List Nat} {vs : List Value} {A : Env} {a : Act} (hro : c.params = ps.toArray) (hk : ps.all (fun t => Nat.blt t k) = true) (hl : vs.length = ps.length) (e : EnvOk ⟨k, [], none⟩ [] g a) (ht : c.tmps = a.tmps) (hc : c.state = .ready)
    (ha : ∀ F, R P c.assign ⟨k, [], some l⟩ (penv ps vs g) (pt l (.loop c) :: (I i ++ F)) (Exit.then (fun a w => EnvOk ⟨k, [], some l⟩ [] A a ∧ Sat w (pt l (.loop c) :: (I i ++ F))) fun _ _ _ => False))
    (hb : ∀ F, R P c.body ⟨k, [], some l⟩ A (pt l (.loop (busy c)) :: (I i ++ F)) (RQ P l c I X i F)) :
    ∀ F w, Sat w (pt l (.loop c) :: (I i ++ F)) → RoundIn Fence.wide 0 P l c.fn (setPs c.params vs c.tmps) c.assign c.body w (RPost l c I X i F) := by
  intro F w s
  refine roundIn_of_wpIn (F := Fence.wide) trivial ?_
  have e' : EnvOk ⟨k, [], some l⟩ [] g a := ⟨e.size, e.defers, e.l, e.g⟩
  have e2 := setPs_env (vs := vs) hk e' hl
  rw [hro, ht]
  refine wpIn_mono (ha F _ w e2 s) ?_
  intro ex a1 w1 q
  cases ex with
  | normal =>
    obtain ⟨e3, s3⟩ := q
    have hbk := s3.cell
    refine ⟨{ w1 with heap := w1.heap.setIfInBounds l (.loop (busy c)) }, ?_, hb F _ _ e3 (s3.set _ rfl)⟩
    unfold Instr.beginRound
    rw [run_bind, run_getLoop hbk]
    simp only []
    rw [run_bind, run_setObj hbk]
    simp only [hc]
    rfl
  | _ => exact q.elim
theorem gives_in {p : HP} {A B : List HP} : Gives (p :: (A ++ B)) (A ++ (p :: B)) := by
  induction A with
  | nil => exact Gives.refl
  | cons q A ih => exact ⟨fun _ s => stars_mono ih.out (stars_swap s)⟩
theorem gives_out {p : HP} {A B : List HP} : Gives (A ++ (p :: B)) (p :: (A ++ B)) := by
  induction A with
  | nil => exact Gives.refl
  | cons q A ih => exact ⟨fun _ s => stars_swap (stars_mono ih.out s)⟩
theorem gives_app {A B B' : List HP} (h : Gives B B') : Gives (A ++ B) (A ++ B') := by
  induction A with
  | nil => exact h
  | cons q A ih => exact ⟨fun _ s => stars_mono ih.out s⟩
theorem gives_one {p : HP} {A B : List HP} (h : Gives A B) : Gives (p :: A) (p :: B) := ⟨fun _ s => stars_mono h.out s⟩
theorem gives_ins {M A B : List HP} : Gives (M ++ (A ++ B)) (A ++ (M ++ B)) := by
  induction M with
  | nil => exact Gives.refl
  | cons q M ih => exact (gives_one ih).trans gives_in
theorem gives_outs {M A B : List HP} : Gives (A ++ (M ++ B)) (M ++ (A ++ B)) := by
  induction M with
  | nil => exact Gives.refl
  | cons q M ih => exact gives_out.trans (gives_one ih)
theorem gives_mpI {b ck : Nat} {es : List MapEntry} {m : List (Int × Bytes)} (h1 : ent m es) (h2 : brn es ck) : Gives (mpE b es ck :: L) (mpI b m :: L) := ⟨fun _ s => stars_mono_hd (fun _ e => ⟨es, ck, h1, h2, e⟩) s⟩
theorem run_endLoop {w : World} {c : Loop} (h : w.heap[l]? = some (.loop c)) (hc : (c.state == .busy) = false) : (Instr.endLoop l).run P w = .ok c.pending { w with heap := w.heap.setIfInBounds l (.loop { c with state := .exhausted }) } := by
  unfold Instr.endLoop
  rw [run_bind, run_getLoop h]
  simp only [hc, Bool.false_eq_true, if_false]
  rw [run_bind, run_setObj h]
  rfl
/-- The statement. -/
theorem R_rangeFunc {k : Nat} {gOp : Operand} {ps : List Nat} {assign body : Code} {f : FuncId} {caps : List Value} {C : List HP} {es : List (List Value)} (I : Nat → List HP) (X : List HP) (A : List Value → Env) (F : List HP) [u : IsFn P f]
    (hg : ev [] g gOp = some (.func (.func f) #[] caps.toArray)) (T : Tells P f caps C es) (hL : Gives L (C ++ (I 0 ++ F))) (hps : ∀ vs ∈ es, vs.length = ps.length) (hk : ps.all (fun t => Nat.blt t k) = true)
    (ha : ∀ l c i vs, es[i]? = some vs → ∀ F', R P assign ⟨k, [], some l⟩ (penv ps vs g) (pt l (.loop c) :: (I i ++ F')) (Exit.then (fun a w => EnvOk ⟨k, [], some l⟩ [] (A vs) a ∧ Sat w (pt l (.loop c) :: (I i ++ F'))) fun _ _ _ => False))
    (hb : ∀ l c i vs, es[i]? = some vs → c.state = .ready ∧ c.pending = none → ∀ F', R P body ⟨k, [], some l⟩ (A vs) (pt l (.loop (busy c)) :: (I i ++ F')) (RQ P l c I X i F'))
    (hn : ∀ r, E Q .normal ⟨k, dfm r, none⟩ g (pt r (.deferred (some [])) :: (C ++ (I es.length ++ F))))
    (hx : ∀ r, E Q .ret ⟨k, dfm r, none⟩ g (pt r (.deferred (some [])) :: (C ++ (X ++ F)))) :
    R P (.rangeFunc gOp ps.toArray assign body) ⟨k, [], none⟩ g L Q := by
  intro a w e s
  refine wpIn_rangeFunc (F := Fence.wide) fun fn _ => ?_
  obtain ⟨fnc, hf1, hf2, hf3⟩ := u.out
  let c : Loop := { state := .ready, pending := none, fn, tmps := a.tmps, params := ps.toArray, assign, body, defers := w.heap.size }
  have hsz : (w.alloc (.deferred (some []))).heap.size = w.heap.size + 1 := Array.size_push ..
  refine ⟨w.heap.size + 1, dfm w.heap.size, (w.alloc (.deferred (some []))).alloc (.loop c), { target := .fn (.func f) caps.toArray, args := #[.func (.yield (w.heap.size + 1)) #[] #[]] }, (w.alloc (.deferred (some []))).alloc (.loop c), f, (.func (.yield (w.heap.size + 1)) #[] #[] :: caps).toArray, (w.alloc (.deferred (some []))).alloc (.loop c), ?_, ?_, fun _ _ => trivial, ?_, fun h => (by cases h), ?_⟩
  · show (Instr.enterLoop fn a.tmps ps.toArray assign body none).run P w = _
    unfold Instr.enterLoop
    simp only []
    rw [run_bind]
    simp only [newObj, Sem.run]
    rw [run_bind]
    simp only [run_pure]
    rw [run_bind]
    simp only [Sem.run, run_pure]
    rw [Array.size_push]
    rfl
  · unfold resolve
    simp only []
    rw [e.eval hg]
    simp only [Deferred.ofValue, List.map_toArray, List.map_cons, List.map_nil, Act.eval, run_pure]
    rfl
  · simp only [invoke, callFunc]
    rw [run_bind]
    simp only [program, Sem.run, hf1, hf2, hf3, Bool.false_eq_true, if_false, run_pure]
    simp
  · have s1 : Sat ((w.alloc (.deferred (some []))).alloc (.loop c)) (pt (w.heap.size + 1) (.loop c) :: pt w.heap.size (.deferred (some [])) :: L) := by
      have := (s.alloc (.deferred (some []))).alloc (.loop c)
      rw [hsz] at this
      exact this
    have s2 : Sat ((w.alloc (.deferred (some []))).alloc (.loop c)) (pt (w.heap.size + 1) (.loop c) :: (C ++ (I 0 ++ (pt w.heap.size (.deferred (some [])) :: F)))) :=
      s1.gives (gives_one ((gives_one hL).trans (gives_in.trans (gives_app gives_in))))
    have hcall := T (w.heap.size + 1) c I X (pt w.heap.size (.deferred (some [])) :: F) rfl hps
      (fun i vs hi => round_of rfl hk (hps vs (List.mem_of_getElem? hi)) e rfl rfl (ha _ _ _ _ hi) (hb _ _ _ _ hi ⟨rfl, rfl⟩)) _ s2
    have hds : dfm w.heap.size ++ a.defers = dfm w.heap.size := by rw [e.defers]; rfl
    refine callsIn_wide.2 (hcall.mono ?_)
    rintro ex w3 ⟨v, rfl, hq⟩
    have e2 : EnvOk ⟨k, dfm w.heap.size, none⟩ [] g { a with defers := dfm w.heap.size ++ a.defers } := ⟨e.size, hds, e.l, e.g⟩
    rcases hq with hq | hq
    · refine ⟨none, _, run_endLoop hq.cell rfl, ?_⟩
      exact hn _ _ _ e2 ((hq.set _ rfl).drop.gives ((gives_app gives_out).trans gives_out))
    · refine ⟨some .ret, _, run_endLoop hq.cell rfl, wpIn_ret ?_⟩
      exact hx _ _ _ e2 ((hq.set _ rfl).drop.gives ((gives_app gives_out).trans gives_out))
end
theorem E.know {Q : QT} {e : Exit} {n : NT} {g : Env} {L : List HP} {φ : Prop} (k : ∀ w, Sat w L → φ) (h : φ → E Q e n g L) : E Q e n g L := fun a w o s => h (k w s) a w o s
theorem E.open_ {Q : QT} {e : Exit} {n : NT} {g : Env} {L : List HP} {α : Type} {M : α → List HP} (k : ∀ w, Sat w L → ∃ x, Sat w (M x)) (h : ∀ x, E Q e n g (M x)) : E Q e n g L := fun a w o s => let ⟨x, hx⟩ := k w s; h x a w o hx
/-- No round leaves. -/
theorem E_no {Q : QT} {e : Exit} {n : NT} {g : Env} {q : HP} {C L : List HP} : E Q e n g (q :: (C ++ ([fun _ => False] ++ L))) := fun _ _ _ s => by
  have s2 : Sat _ ((fun _ => False) :: (C ++ L)) := s.drop.gives gives_out
  obtain ⟨_, _, _, hf, _⟩ := s2
  exact hf.elim
/-- Operations among which the body of a loop is called. -/
def JY (P : Program) (ops : Array Oper) (rest : List Oper) (n : NT) (l g : Env) (L : List HP) (Q : QT) : Prop := ∀ a w, EnvOk n l g a → Sat w L → wpListIn (fen n.ro) 0 P ops Q rest a w
section
variable {P : Program} {ops : Array Oper} {rest : List Oper} {k : Nat} {l g : Env} {L M : List HP} {Q : QT} {d ty : Nat} {pos : String} {aft : Array Edge}
theorem R_regionY {id : Nat} {lo : List Oper} (h : JY P lo.toArray lo ⟨k, [], none⟩ [] g L Q) : R P (.region id lo.toArray false) ⟨k, [], none⟩ g L Q := fun a w e s => wpIn_region_lit (h a w e s)
theorem JY_of (h : J P ops rest ⟨k, [], none⟩ l g L Q) : JY P ops rest ⟨k, [], none⟩ l g L Q := fun a w e s => wpListIn_of (h a w e s) rfl
theorem JY_pure {op : Op} {v : Value} (hv : Y P ⟨k, [], none⟩ l g L ⟨some d, op, ty, pos, aft, none⟩ v) (hd : Nat.blt d k = true) (hn : look g d = none) (h : JY P ops rest ⟨k, [], none⟩ ((d, v) :: l) g L Q) :
    JY P ops (⟨some d, op, ty, pos, aft, none⟩ :: rest) ⟨k, [], none⟩ l g L Q := by
  intro a w e s
  refine wpListIn_plain rfl fun K hK => ⟨fun _ _ => trivial, ?_⟩
  rw [Oper.semAt_none, hv a e w s, Oper.uponIn_value]
  exact hK _ _ (h _ _ (e.putl hd hn v) s)
/-- The body, called. -/
theorem JY_yield {b i t : Nat} {args : Array Operand} {at_ : Array TypeId} {c : Loop} {es : List (List Value)} {I : Nat → List HP} {X F : List HP} {vs : List Value} (hf : ev l g (.tmp t) = some (.func (.yield b) #[] #[])) (ha : evl l g args.toList = some vs)
    (hr : Rounds P b c es I X) (hi : es[i]? = some vs) (hsz : vs.length = c.params.size) (hL : Gives L (pt b (.loop c) :: (I i ++ F))) (hd : Nat.blt d k = true) (hn : look g d = none)
    (h1 : JY P ops rest ⟨k, [], none⟩ ((d, .bool true) :: l) g (pt b (.loop c) :: (I (i + 1) ++ F)) Q) (h2 : JY P ops rest ⟨k, [], none⟩ ((d, .bool false) :: l) g (pt b (.loop (left c)) :: (X ++ F)) Q) :
    JY P ops (⟨some d, .call ⟨.value (.tmp t), args, at_⟩, ty, pos, aft, none⟩ :: rest) ⟨k, [], none⟩ l g L Q := by
  intro a w e s
  refine wpListIn_plain rfl fun K hK => ⟨fun _ _ => trivial, ?_⟩
  have s' := s.gives hL
  have hb := s'.cell
  have h6 : args.map a.eval = vs.toArray := by
    apply Array.ext'; rw [Array.toList_map]; exact e.evall ha
  have hrun : (execOp a.eval ⟨some d, .call ⟨.value (.tmp t), args, at_⟩, ty, pos, aft, none⟩).run P w = .ok (.round b c.fn (setPs c.params vs c.tmps) c.assign c.body) w := by
    simp only [execOp]
    rw [run_bind]
    simp only [resolve, e.eval hf, h6]
    simp only [run_pure, Deferred.ofValue, invoke]
    have e7 : (#[] ++ vs.toArray : Array Value) = vs.toArray := by simp
    rw [e7]
    unfold Instr.yield
    rw [run_bind, run_getLoop hb]
    simp only []
    rw [if_neg (by simp [hsz])]
    rfl
  rw [Oper.semAt_none, hrun, Oper.uponIn_round]
  refine ⟨fun h => (by cases h), (hr i vs hi F w s').mono ?_⟩
  rintro ex w' (⟨rfl, hs⟩ | ⟨rfl, hs⟩)
  · exact hK _ _ (h1 _ _ (e.putl hd hn _) hs)
  · exact hK _ _ (h2 _ _ (e.putl hd hn _) hs)
end
end Go.Proofs.Sol

/- Plain: the keys of a map, gone through in whatever order, then sorted. -/
namespace Go.Proofs.Sol
open Go Go.Proofs
def kE (e : MapEntry) : Int := match e.key with
  | .int _ k => k
  | _ => 0
theorem ent_keys {m : List (Int × Bytes)} {es : List MapEntry} (h : ent m es) : es.map kE = m.map (·.1) := by
  have h1 := congrArg (List.map fun p : Value × Value => match p.1 with | .int _ k => k | _ => (0 : Int)) h
  simp only [List.map_map] at h1
  exact h1
theorem ent_kE {m : List (Int × Bytes)} {es : List MapEntry} (h : ent m es) {e : MapEntry} (he : e ∈ es) : e.key = .int .i64 (kE e) := by
  obtain ⟨i, hi⟩ := List.getElem?_of_mem he
  obtain ⟨k, hk⟩ := ent_key h hi
  unfold kE; rw [hk]
theorem srt_perm {a b : List Int} (h : a.Perm b) : srt a = srt b := by
  refine List.Perm.eq_of_pairwise (le := fun x y => decide (x ≤ y) = true) ?_ ?_ ?_ ?_
  · intro x y _ _ h1 h2
    simp at h1 h2; omega
  · exact List.pairwise_mergeSort (fun a b c => by simp; omega) (fun a b => by simp; omega) _
  · exact List.pairwise_mergeSort (fun a b c => by simp; omega) (fun a b => by simp; omega) _
  · exact (List.mergeSort_perm _ _).trans (h.trans (List.mergeSort_perm _ _).symm)
theorem nodup_of_map {α β : Type} (f : α → β) : ∀ {l : List α}, (l.map f).Nodup → l.Nodup
  | [], _ => List.nodup_nil
  | a :: l, h => by
    rw [List.map_cons, List.nodup_cons] at h
    rw [List.nodup_cons]
    exact ⟨fun h' => h.1 (List.mem_map.2 ⟨a, h', rfl⟩), nodup_of_map f h.2⟩
theorem born_inj : ∀ {es : List MapEntry}, (es.map (·.born)).Nodup → ∀ {a b : MapEntry}, a ∈ es → b ∈ es → a.born = b.born → a = b
  | [], _, a, _, ha, _, _ => by cases ha
  | x :: es, h, a, b, ha, hb, hab => by
    rw [List.map_cons, List.nodup_cons] at h
    rcases List.mem_cons.1 ha with rfl | ha' <;> rcases List.mem_cons.1 hb with rfl | hb'
    · rfl
    · exact absurd (List.mem_map.2 ⟨b, hb', hab.symm⟩) h.1
    · exact absurd (List.mem_map.2 ⟨a, ha', hab⟩) h.1
    · exact born_inj h.2 ha' hb' hab
/-- Some of the entries, each once. -/
structure Some_ (es p : List MapEntry) : Prop where
  sub : ∀ e ∈ p, e ∈ es
  nd : (p.map (·.born)).Nodup
theorem Some_.nil (es : List MapEntry) : Some_ es [] := ⟨by simp, by simp⟩
theorem Some_.snoc {es p : List MapEntry} (h : Some_ es p) {e : MapEntry} (he : e ∈ es) (hn : e.born ∉ p.map (·.born)) : Some_ es (p ++ [e]) := by
  refine ⟨fun x hx => ?_, ?_⟩
  · rcases List.mem_append.1 hx with h' | h'
    · exact h.sub x h'
    · simp at h'; exact h' ▸ he
  · rw [List.map_append, List.nodup_append]
    refine ⟨h.nd, by simp, ?_⟩
    intro x hx y hy
    simp at hy
    subst hy
    exact fun h' => hn (h' ▸ hx)
def rest_ (es p : List MapEntry) : Nat := (es.filter fun e => !(p.map (·.born)).contains e.born).length
theorem rest_lt {es p : List MapEntry} {e : MapEntry} (he : e ∈ es) (hn : e.born ∉ p.map (·.born)) : rest_ es (p ++ [e]) < rest_ es p := by
  unfold rest_
  have e1 : (es.filter fun x => !((p ++ [e]).map (·.born)).contains x.born) = (es.filter fun x => !(p.map (·.born)).contains x.born).filter fun x => !(x.born == e.born) := by
    rw [List.filter_filter]
    congr 1
    funext x
    simp only [List.map_append, List.map_cons, List.map_nil, List.contains_append, List.contains_cons, List.contains_nil, Bool.or_false, Bool.not_or]
    exact Bool.and_comm _ _
  rw [e1, List.length_filter_lt_length_iff_exists]
  refine ⟨e, ?_, by simp⟩
  rw [List.mem_filter]
  refine ⟨he, ?_⟩
  simpa using hn
theorem Some_.perm {es p : List MapEntry} (h : Some_ es p) (hb : (es.map (·.born)).Nodup) (hall : ∀ e ∈ es, e.born ∈ p.map (·.born)) : p.Perm es := by
  refine (List.perm_ext_iff_of_nodup (nodup_of_map _ h.nd) (nodup_of_map _ hb)).2 fun a => ⟨h.sub a, fun ha => ?_⟩
  obtain ⟨b, hb', hab⟩ := List.mem_map.1 (hall a ha)
  have := born_inj hb (h.sub b hb') ha hab
  exact this ▸ hb'
theorem Some_.le {es p : List MapEntry} (h : Some_ es p) (hb : (es.map (·.born)).Nodup) : p.length ≤ es.length := by
  have hp : p.Perm (es.filter fun e => (p.map (·.born)).contains e.born) := by
    refine (List.perm_ext_iff_of_nodup (nodup_of_map _ h.nd) ((nodup_of_map _ hb).sublist List.filter_sublist)).2 fun a => ⟨fun ha => ?_, fun ha => ?_⟩
    · rw [List.mem_filter]
      refine ⟨h.sub a ha, ?_⟩
      rw [List.contains_iff_mem]
      exact List.mem_map.2 ⟨a, ha, rfl⟩
    · rw [List.mem_filter, List.contains_iff_mem] at ha
      obtain ⟨b, hb', hab⟩ := List.mem_map.1 ha.2
      have := born_inj hb (h.sub b hb') ha.1 hab
      exact this ▸ hb'
  rw [hp.length_eq]
  exact List.length_filter_le ..
/-- The things of a map, by rising keys. -/
def told (m : List (Int × Bytes)) : List (Int × Bytes) := (srt (m.map (·.1))).map fun k => (k, (mget m k).getD [])
theorem told_length (m : List (Int × Bytes)) : (told m).length = m.length := by simp [told, srt]
def toldV (m : List (Int × Bytes)) : List (List Value) := (told m).map fun p => [.int .i64 p.1, .string (S p.2)]
end Go.Proofs.Sol

/- Shadows: things over places, in two layers. -/
namespace Go.Proofs.Sol
open Go Go.Proofs
set_option maxRecDepth 100000
set_option maxHeartbeats 4000000
set_option linter.unusedVariables false
set_option linter.unusedSimpArgs false
attribute [local irreducible] R J JW E D Fn Y clf mpI own Sat Exit.then Exit.inBlock bodyPost bodyPostM Code.wpIn wpL
/-- What a layer tells: its things, by rising places. -/
theorem each_tells (t1 bm : Nat) (m : List (Int × Bytes)) (hm : m.length < 1000000) : Tells Tryz.prog 208 [.pointer (some ⟨t1, 0, none⟩)] [cl t1 216 [.map (some bm)], mpI bm m] (toldV m) := by
  intro l c I X F hc hps hr
  dsimp only [List.cons_append, List.nil_append]
  refine Fn_at fun w s => ?_
  have s1 : Sat w (mpI bm m :: pt l (.loop c) :: cl t1 216 [.map (some bm)] :: (I 0 ++ F)) := s.gives (by exact Gives.last (Take.next (Take.next Take.here)))
  obtain ⟨⟨⟨es, ck⟩, he, hb⟩, s2⟩ := s1.mpI_open
  dsimp only at he hb s2
  refine ⟨_, s2, ?_⟩
  clear s s1 s2 w
  have hlen := ent_length he
  refine Fn_enter Tryz.func208 rfl Tryz.ntmps208 rfl ?_
  refine R_seq ?_
  refine R_region ?_
  refine J_assign rfl rfl rfl ?_
  refine J_nil ?_
  refine E_then ?_
  refine R_seq ?_
  refine R_seq ?_
  refine R_region ?_
  refine J_load rfl rfl rfl rfl ?_
  refine J_range rfl (by with_reducible exact Take.here) rfl rfl ?_
  intro it
  refine J_nil2 ?_
  refine E_then ?_
  refine R_block ?_
  refine R_loop (X := {p : List MapEntry // Some_ es p} × {v : Value // single v = true}) (fun p => [(8, .pointer (some ⟨it, 0, none⟩)), (0, .func (.yield l) #[] #[]), (1, .pointer (some ⟨t1, 0, none⟩)), (3, p.2.1)])
    (fun p => own p.2.1 3 1 (i64s (p.1.1.map kE)) :: itr it bm ck (p.1.1.map (·.born)) :: mpE bm es ck :: pt l (.loop c) :: cl t1 216 [.map (some bm)] :: (I 0 ++ F)) (fun p => rest_ es p.1.1) (⟨[], Some_.nil es⟩, ⟨.slice none 0 0, rfl⟩) (by exact sub_cons rfl (sub_cons rfl (sub_cons rfl (sub_cons rfl sub_nil)))) (Gives.own_nil Gives.refl) ?_
  rintro ⟨⟨p, hp⟩, ⟨v, hv⟩⟩
  dsimp only
  refine R_seq ?_
  refine R_region ?_
  refine J_next rfl (by with_reducible exact Take.next Take.here) (by with_reducible exact Take.next Take.here) hb rfl rfl (fun hall => ?_) (fun e he1 he2 => ?_)
  · refine J_extract rfl rfl rfl rfl ?_
    refine J_nil2 ?_
    refine E_then ?_
    refine R_seq ?_
    refine R_cond_false rfl ?_
    refine R_exit ?_
    refine E_then_exit ?_
    refine E_then_exit ?_
    refine E_block_hit ?_
    refine E_then ?_
    refine R_seq ?_
    refine R_region ?_
    refine J_move rfl rfl rfl ?_
    have hpl : (p.map kE).length < 1000000000 := by
      have := (hp.perm hb.1 hall).length_eq
      simp; omega
    refine J_callr rfl (slices_Sort v (p.map kE) hpl _) (by exact Gives.refl) rfl rfl ?_
    have hz : srt (p.map kE) = srt (m.map (·.1)) := by rw [srt_perm ((hp.perm hb.1 hall).map kE), ent_keys he]
    rw [hz]
    generalize hzs : srt (m.map (·.1)) = zs
    have hzl : zs.length = m.length := by rw [← hzs]; simp [srt]
    have htold : ∀ j, (hj : j < zs.length) → (toldV m)[j]? = some [.int .i64 zs[j], .string (S ((mget m zs[j]).getD []))] := fun j hj => by
      simp [toldV, told, hzs, hj]
    have htl : (toldV m).length = m.length := by simp [toldV, told_length]
    refine J_nil2 ?_
    refine E_then ?_
    refine R_seq ?_
    refine R_region ?_
    refine J_move rfl rfl rfl ?_
    refine J_openOwn (by with_reducible exact Take.here) (fun hv0 hz0 => ?_) (fun b2 len cap sp hv0 hz1 hz2 => ?_)
    · subst hv0
      have hz0' : zs = [] := by simpa [i64s] using hz0
      subst hz0'
      have hm0 : m.length = 0 := by simpa using hzl.symm
      refine J_len_slice rfl rfl rfl ?_
      refine J_move rfl rfl rfl ?_
      refine J_nil3 ?_
      refine E_then ?_
      refine R_block ?_
      refine R_loop (X := Unit) (fun _ => [(21, .int .i64 0), (20, .int .i64 0)]) (fun _ => mpI bm m :: pt l (.loop c) :: cl t1 216 [.map (some bm)] :: (I 0 ++ F)) (fun _ => 0) () (by exact sub_cons rfl (sub_cons rfl sub_nil)) (Gives.drop (gives_mpI he hb)) ?_
      rintro ⟨⟩
      refine R_seq ?_
      refine R_region ?_
      refine J_cmp rfl rfl rfl rfl rfl ?_
      refine J_nil1 ?_
      refine E_then ?_
      refine R_seq ?_
      refine R_cond_false rfl ?_
      refine R_exit ?_
      refine E_then_exit ?_
      refine E_then_exit ?_
      refine E_block_hit ?_
      apply E_end Tryz.results208
      · exact Res.nil
      · intro w hs
        refine .inl ?_
        rw [htl, hm0]
        exact hs.gives (by exact Gives.cons (Take.next Take.here) (Gives.last (Take.next Take.here)))
    · subst hv0
      have hln : len = zs.length := by simpa [i64s] using hz1.symm
      subst hln
      refine J_len_slice rfl rfl rfl ?_
      refine J_move rfl rfl rfl ?_
      refine J_nil3 ?_
      refine E_then ?_
      refine R_block ?_
      refine R_loop (X := {j : Nat // j ≤ zs.length}) (fun j => [(21, .int .i64 (j.1 : Int)), (20, .int .i64 (zs.length : Int)), (19, .slice (some ⟨b2, 0, none⟩) zs.length cap), (0, .func (.yield l) #[] #[]), (1, .pointer (some ⟨t1, 0, none⟩))])
        (fun j => mpI bm m :: cl b2 3 (i64s zs ++ sp) :: cl t1 216 [.map (some bm)] :: pt l (.loop c) :: (I j.1 ++ F)) (fun j => zs.length - j.1) ⟨0, Nat.zero_le _⟩ (by exact sub_cons rfl (sub_cons rfl (sub_cons rfl (sub_cons rfl (sub_cons rfl sub_nil)))))
        (Gives.trans (M := mpE bm es ck :: cl b2 3 (i64s zs ++ sp) :: cl t1 216 [.map (some bm)] :: pt l (.loop c) :: (I 0 ++ F)) (by exact Gives.cons (Take.next (Take.next Take.here)) (Gives.cons Take.here (Gives.cons (Take.next (Take.next Take.here)) (Gives.cons (Take.next Take.here) (Gives.drop Gives.refl))))) (gives_mpI he hb)) ?_
      rintro ⟨j, hj⟩
      dsimp only
      refine R_seq ?_
      refine R_region ?_
      refine J_cmp rfl rfl rfl rfl rfl ?_
      refine J_nil1 ?_
      refine E_then ?_
      refine R_seq ?_
      refine R_cond rfl (fun hh => ?_) (fun hh => ?_)
      simp only [decide_eq_true_eq, decide_eq_false_iff_not, Bool.and_eq_true, Bool.or_eq_true, Bool.not_eq_true', Bool.not_eq_false', beq_iff_eq, bne_iff_ne, beq_eq_false_iff_ne, bne_eq_false_iff_eq, ne_eq, ge_iff_le, gt_iff_lt, Int.not_le, Int.not_lt, Bool.and_eq_false_iff, Bool.or_eq_false_iff, Decidable.not_not] at hh
      refine R_skip ?_
      refine E_then ?_
      refine R_seq ?_
      refine R_block ?_
      refine R_seq ?_
      refine R_region ?_
      refine J_indexAddr rfl rfl (by omega) (by omega) rfl rfl ?_
      rotate_left
      simp only [decide_eq_true_eq, decide_eq_false_iff_not, Bool.and_eq_true, Bool.or_eq_true, Bool.not_eq_true', Bool.not_eq_false', beq_iff_eq, bne_iff_ne, beq_eq_false_iff_ne, bne_eq_false_iff_eq, ne_eq, ge_iff_le, gt_iff_lt, Int.not_le, Int.not_lt, Bool.and_eq_false_iff, Bool.or_eq_false_iff, Decidable.not_not] at hh
      refine R_exit ?_
      refine E_then_exit ?_
      refine E_then_exit ?_
      refine E_block_hit ?_
      rotate_left
      · have hlt : j < zs.length := by omega
        have e1 : 0 + (j : Int).toNat * 1 = j := by omega
        rw [e1]
        refine J_loadX (v := .int .i64 zs[j]) rfl (by rw [List.getElem?_append_left (by simpa [i64s] using hlt)]; simp [i64s, hlt]) rfl rfl ?_
        refine J_assign rfl rfl rfl ?_
        refine J_nil ?_
        refine E_then ?_
        refine R_seq ?_
        refine R_regionY ?_
        refine JY_pure (Y_move rfl) rfl rfl ?_
        refine JY_pure (Y_move rfl) rfl rfl ?_
        refine JY_pure (by exact Y_load rfl rfl) rfl rfl ?_
        refine JY_pure (Y_move rfl) rfl rfl ?_
        refine JY_pure (by exact Y_lookup1 rfl rfl) rfl rfl ?_
        refine JY_yield (b := l) (i := j) (I := I) (X := X) (F := [mpI bm m, cl b2 3 (i64s zs ++ sp), cl t1 216 [.map (some bm)]] ++ F) rfl rfl hr (htold j hlt) (hps _ (List.mem_of_getElem? (htold j hlt)))
          (Gives.trans (M := pt l (.loop c) :: mpI bm m :: cl b2 3 (i64s zs ++ sp) :: cl t1 216 [.map (some bm)] :: (I j ++ F)) (by exact Gives.last (Take.next (Take.next (Take.next Take.here)))) (gives_one (gives_ins (M := [mpI bm m, cl b2 3 (i64s zs ++ sp), cl t1 216 [.map (some bm)]])))) rfl rfl ?_ ?_
        · refine JY_of ?_
          refine J_un_not rfl rfl rfl ?_
          refine J_nil3 ?_
          refine E_then ?_
          refine R_cond_false rfl ?_
          refine R_skip ?_
          refine E_block_normal ?_
          refine E_then ?_
          refine R_region ?_
          refine J_ari64 rfl rfl rfl (by omega) rfl rfl ?_
          refine J_moveg rfl rfl rfl ?_
          refine J_nil1 ?_
          refine E_thenI fun a w he' hs => ⟨⟨j + 1, by omega⟩, by simp; omega, he'.sub (by exact sub_cons rfl (sub_cons rfl (sub_cons rfl (sub_cons rfl (sub_cons rfl sub_nil))))), ?_⟩
          have hs' : Sat w (pt l (.loop c) :: mpI bm m :: cl b2 3 (i64s zs ++ sp) :: cl t1 216 [.map (some bm)] :: (I (j + 1) ++ F)) := hs.gives (gives_one (gives_outs (M := [mpI bm m, cl b2 3 (i64s zs ++ sp), cl t1 216 [.map (some bm)]])))
          exact hs'.gives (by exact Gives.cons (Take.next Take.here) (Gives.cons (Take.next Take.here) (Gives.last (Take.next Take.here))))
        · refine JY_of ?_
          refine J_un_not rfl rfl rfl ?_
          refine J_nil3 ?_
          refine E_then ?_
          refine R_cond_true rfl ?_
          refine R_ret ?_
          refine E_block_ret ?_
          refine E_then_ret ?_
          refine E_then_ret ?_
          refine E_block_ret ?_
          apply E_ret Tryz.results208
          · exact Res.nil
          · intro w hs
            have hs' : Sat w (pt l (.loop (left c)) :: mpI bm m :: cl b2 3 (i64s zs ++ sp) :: cl t1 216 [.map (some bm)] :: (X ++ F)) := hs.gives (gives_one (gives_outs (M := [mpI bm m, cl b2 3 (i64s zs ++ sp), cl t1 216 [.map (some bm)]])))
            exact .inr (hs'.gives (by exact Gives.cons Take.here (Gives.cons (Take.next (Take.next Take.here)) (Gives.cons Take.here (Gives.drop Gives.refl)))))
      · have ej : j = zs.length := by omega
        subst ej
        apply E_end Tryz.results208
        · exact Res.nil
        · intro w hs
          refine .inl ?_
          rw [htl, ← hzl]
          exact hs.gives (by exact Gives.cons (Take.next (Take.next (Take.next Take.here))) (Gives.cons (Take.next (Take.next Take.here)) (Gives.cons Take.here (Gives.drop Gives.refl))))
  · refine J_extract rfl rfl rfl rfl ?_
    refine J_nil2 ?_
    refine E_then ?_
    refine R_seq ?_
    refine R_cond_true rfl ?_
    refine R_skip ?_
    refine E_then ?_
    refine R_block ?_
    refine R_seq ?_
    refine R_region ?_
    refine J_entry rfl (by with_reducible exact Take.here) (by with_reducible exact Take.here) hb he1 rfl rfl ?_
    have hk := ent_kE he he1
    rw [hk]
    refine J_extract rfl rfl rfl rfl ?_
    refine J_assign rfl rfl rfl ?_
    refine J_nil2 ?_
    refine E_then ?_
    refine R_region ?_
    refine J_move rfl rfl rfl ?_
    refine J_move rfl rfl rfl ?_
    refine J_buildSlice rfl rfl rfl rfl rfl rfl ?_; intro
    have hpl := (hp.snoc he1 he2)
    refine J_append (m := 1) (k := 1) (xs := i64s (p.map kE)) (ys := [.int .i64 (kE e)]) (E := 3) rfl rfl (by with_reducible exact Take.next (Take.next (Take.next Take.here))) (by rintro k ⟨⟩) rfl (by omega) (by omega) (by simp) rfl ?_ rfl rfl rfl ?_
    · have := hp.le hb.1
      simp [i64s]; omega
    intro v' hsv
    refine J_assign rfl rfl rfl ?_
    refine J_nil3 ?_
    refine E_block_normal ?_
    refine E_thenI fun a w he' hs => ⟨(⟨p ++ [e], hpl⟩, ⟨v', hsv⟩), rest_lt he1 he2, he'.sub (by exact sub_cons rfl (sub_cons rfl (sub_cons rfl (sub_cons rfl sub_nil)))), ?_⟩
    have e1 : i64s ((p ++ [e]).map kE) = i64s (p.map kE) ++ [.int .i64 (kE e)] := by simp [i64s]
    have e2 : (p ++ [e]).map (·.born) = p.map (·.born) ++ [e.born] := by simp
    dsimp only
    rw [e1, e2]
    exact hs.gives (by exact Gives.cons Take.here (Gives.cons (Take.next Take.here) (Gives.cons (Take.next Take.here) (Gives.cons (Take.next Take.here) (Gives.cons (Take.next Take.here) (Gives.drop Gives.refl))))))
end Go.Proofs.Sol

/- Shadows: what is laid, seen, taken back. -/
namespace Go.Proofs.Sol
open Go Go.Proofs
set_option maxRecDepth 100000
set_option maxHeartbeats 4000000
set_option linter.unusedVariables false
set_option linter.unusedSimpArgs false
attribute [local irreducible] R J JW E D Fn Y clf mpI own Sat Exit.then Exit.inBlock bodyPost bodyPostM Code.wpIn wpL
abbrev shH (s bk bl : Nat) : HP := cl s 218 [.map (some bk), .map (some bl)]
abbrev shL (s : Nat) (K Lo : List (Int × Bytes)) (p : Nat × Nat) : List HP := [shH s p.1 p.2, mpI p.1 K, mpI p.2 Lo]
/-- A shadow: what stays, what may be taken back. -/
def shd (s : Nat) (K Lo : List (Int × Bytes)) : HP := exi fun p : Nat × Nat => stp (shL s K Lo p)
instance (s : Nat) (K Lo : List (Int × Bytes)) : Up (shd s K Lo) := inferInstanceAs (Up (exi _))
theorem open_shd {w : World} {s : Nat} {K Lo : List (Int × Bytes)} {L : List HP} (h : Sat w (shd s K Lo :: L)) : ∃ p : Nat × Nat, Sat w (shL s K Lo p ++ L) := by
  obtain ⟨p, h⟩ := h.exi
  exact ⟨p, h.open_⟩
theorem shut_shd {w : World} {s bk bl : Nat} {K Lo : List (Int × Bytes)} {L : List HP} (h : Sat w (shH s bk bl :: mpI bk K :: mpI bl Lo :: L)) : Sat w (shd s K Lo :: L) :=
  (Sat.shut (M := shL s K Lo (bk, bl)) h).conv fun _ e => ⟨(bk, bl), e⟩
theorem shadow_New (F : List HP) : Fn Tryz.prog 173 [] F (fun v w => ∃ s, v = .pointer (some ⟨s, 0, none⟩) ∧ Sat w (shd s [] [] :: F)) := by
  refine Fn_enter Tryz.func173 rfl Tryz.ntmps173 rfl ?_
  refine R_seq ?_
  refine R_region ?_
  refine J_assign rfl rfl rfl ?_
  refine J_nil ?_
  refine E_then ?_
  refine R_seq ?_
  refine R_region ?_
  refine J_makeMap rfl rfl ?_; intro
  refine J_makeMap rfl rfl ?_; intro
  refine J_build rfl rfl rfl rfl ?_
  refine J_boxA rfl rfl rfl ?_; intro
  refine J_assign rfl rfl rfl ?_
  refine J_nil3 ?_
  refine E_then ?_
  refine R_ret ?_
  apply E_ret Tryz.results173
  · exact Res.tmp rfl (Res.nil)
  · intro w s
    exact ⟨_, rfl, shut_shd (s.gives (by exact Gives.cons Take.here (Gives.last (Take.next Take.here))))⟩
theorem shadow_made (s bk bl : Nat) (F : List HP) : Fn Tryz.prog 162 [.pointer (some ⟨s, 0, none⟩)] (shH s bk bl :: F) (Pst (.tuple #[]) (shH s bk bl :: F)) := by
  refine Fn_enter Tryz.func162 rfl Tryz.ntmps162 rfl ?_
  refine R_seq ?_
  refine R_seq ?_
  refine R_region ?_
  refine J_move rfl rfl rfl ?_
  refine J_nilCheck rfl rfl rfl ?_
  refine J_fieldAddr0 rfl rfl rfl ?_
  refine J_load rfl rfl rfl rfl ?_
  refine J_map_nil rfl rfl rfl rfl ?_
  refine J_nil3 ?_
  refine E_then ?_
  refine R_cond_false rfl ?_
  refine R_skip ?_
  refine E_then ?_
  refine R_seq ?_
  refine R_region ?_
  refine J_move rfl rfl rfl ?_
  refine J_nilCheck rfl rfl rfl ?_
  refine J_fieldAddr0 rfl rfl rfl ?_
  refine J_load rfl rfl rfl rfl ?_
  refine J_map_nil rfl rfl rfl rfl ?_
  refine J_nil3 ?_
  refine E_then ?_
  refine R_cond_false rfl ?_
  refine R_skip ?_
  apply E_endP Tryz.results162
  · exact Res.nil
  · exact Gives.refl
  rfl
theorem shadow_Put (s : Nat) (K Lo : List (Int × Bytes)) (i : Int) (x : Bytes) (F : List HP) : Fn Tryz.prog 100 [.pointer (some ⟨s, 0, none⟩), .int .i64 i, .string (S x)] (shd s K Lo :: F) (Pst (.tuple #[]) (shd s K (mput Lo i x) :: F)) := by
  refine Fn.open_ (fun w h => open_shd h) ?_
  rintro ⟨bk, bl⟩
  dsimp only [shL, List.cons_append, List.nil_append]
  refine Fn_enter Tryz.func100 rfl Tryz.ntmps100 rfl ?_
  refine R_seq ?_
  refine R_region ?_
  refine J_move rfl rfl rfl ?_
  refine J_ptr_nil rfl rfl rfl rfl ?_
  refine J_nil2 ?_
  refine E_then ?_
  refine R_cond_true rfl ?_
  refine R_seq ?_
  refine R_region ?_
  refine J_move rfl rfl rfl ?_
  refine J_callr rfl (shadow_made s bk bl _) (by exact Gives.refl) rfl rfl ?_
  refine J_nil2 ?_
  refine E_then ?_
  refine R_region ?_
  refine J_move rfl rfl rfl ?_
  refine J_nilCheck rfl rfl rfl ?_
  refine J_fieldAddr0 rfl rfl rfl ?_
  refine J_load rfl rfl rfl rfl ?_
  refine J_move rfl rfl rfl ?_
  refine J_move rfl rfl rfl ?_
  refine J_mapUpdate rfl rfl rfl (by with_reducible exact Take.next (Take.next Take.here)) ?_
  refine J_nil3 ?_
  apply E_end Tryz.results100
  · exact Res.nil
  · intro w s
    exact ⟨rfl, shut_shd (s.gives (by exact Gives.cons (Take.next Take.here) (Gives.last (Take.next Take.here))))⟩
theorem shadow_Back (s : Nat) (K Lo : List (Int × Bytes)) (F : List HP) : Fn Tryz.prog 93 [.pointer (some ⟨s, 0, none⟩)] (shd s K Lo :: F) (Pst (.tuple #[]) (shd s K [] :: F)) := by
  refine Fn.open_ (fun w h => open_shd h) ?_
  rintro ⟨bk, bl⟩
  dsimp only [shL, List.cons_append, List.nil_append]
  refine Fn_enter Tryz.func93 rfl Tryz.ntmps93 rfl ?_
  refine R_seq ?_
  refine R_region ?_
  refine J_move rfl rfl rfl ?_
  refine J_ptr_nil rfl rfl rfl rfl ?_
  refine J_nil2 ?_
  refine E_then ?_
  refine R_cond_true rfl ?_
  refine R_region ?_
  refine J_move rfl rfl rfl ?_
  refine J_makeMap rfl rfl ?_; intro
  refine J_nilCheck rfl rfl rfl ?_
  refine J_fieldAddr0 rfl rfl rfl ?_
  refine J_store rfl rfl rfl rfl ?_
  refine J_nil3 ?_
  apply E_end Tryz.results93
  · exact Res.nil
  · intro w s
    exact ⟨rfl, shut_shd (s.gives (by exact Gives.cons (Take.next Take.here) (Gives.cons (Take.next Take.here) (Gives.cons Take.here (Gives.drop Gives.refl)))))⟩
theorem shadow_Clear (s : Nat) (K Lo : List (Int × Bytes)) (F : List HP) : Fn Tryz.prog 160 [.pointer (some ⟨s, 0, none⟩)] (shd s K Lo :: F) (Pst (.tuple #[]) (shd s [] Lo :: F)) := by
  refine Fn.open_ (fun w h => open_shd h) ?_
  rintro ⟨bk, bl⟩
  dsimp only [shL, List.cons_append, List.nil_append]
  refine Fn_enter Tryz.func160 rfl Tryz.ntmps160 rfl ?_
  refine R_seq ?_
  refine R_region ?_
  refine J_move rfl rfl rfl ?_
  refine J_ptr_nil rfl rfl rfl rfl ?_
  refine J_nil2 ?_
  refine E_then ?_
  refine R_cond_true rfl ?_
  refine R_region ?_
  refine J_move rfl rfl rfl ?_
  refine J_makeMap rfl rfl ?_; intro
  refine J_nilCheck rfl rfl rfl ?_
  refine J_fieldAddr0 rfl rfl rfl ?_
  refine J_store rfl rfl rfl rfl ?_
  refine J_nil3 ?_
  apply E_end Tryz.results160
  · exact Res.nil
  · intro w s
    exact ⟨rfl, shut_shd (s.gives (by exact Gives.cons (Take.next Take.here) (Gives.cons Take.here (Gives.cons (Take.next Take.here) (Gives.drop Gives.refl)))))⟩
theorem shadow_Loose (s : Nat) (K Lo : List (Int × Bytes)) (F : List HP) : Fn Tryz.prog 98 [.pointer (some ⟨s, 0, none⟩)] (shd s K Lo :: F) (Pst (.int .i64 (Lo.length : Int)) (shd s K Lo :: F)) := by
  refine Fn.open_ (fun w h => open_shd h) ?_
  rintro ⟨bk, bl⟩
  dsimp only [shL, List.cons_append, List.nil_append]
  refine Fn_enter Tryz.func98 rfl Tryz.ntmps98 rfl ?_
  refine R_seq ?_
  refine R_region ?_
  refine J_assign rfl rfl rfl ?_
  refine J_nil ?_
  refine E_then ?_
  refine R_seq ?_
  refine R_seq ?_
  refine R_region ?_
  refine J_move rfl rfl rfl ?_
  refine J_ptr_nil rfl rfl rfl rfl ?_
  refine J_nil2 ?_
  refine E_then ?_
  refine R_cond_false rfl ?_
  refine R_skip ?_
  refine E_then ?_
  refine R_seq ?_
  refine R_region ?_
  refine J_move rfl rfl rfl ?_
  refine J_nilCheck rfl rfl rfl ?_
  refine J_fieldAddr0 rfl rfl rfl ?_
  refine J_load rfl rfl rfl rfl ?_
  refine J_len_map rfl rfl rfl ?_
  refine J_assign rfl rfl rfl ?_
  refine J_nil3 ?_
  refine E_then ?_
  refine R_ret ?_
  apply E_ret Tryz.results98
  · exact Res.tmp rfl (Res.nil)
  · intro w s
    exact ⟨rfl, shut_shd (s.gives (by exact Gives.refl))⟩
/-- What is seen at a place. -/
def seen (K Lo : List (Int × Bytes)) (i : Int) : Option Bytes := (mget Lo i).or (mget K i)
theorem shadow_Get (s : Nat) (K Lo : List (Int × Bytes)) (i : Int) (F : List HP) : Fn Tryz.prog 113 [.pointer (some ⟨s, 0, none⟩), .int .i64 i] (shd s K Lo :: F) (Pst (lookR (seen K Lo i)) (shd s K Lo :: F)) := by
  refine Fn.open_ (fun w h => open_shd h) ?_
  rintro ⟨bk, bl⟩
  dsimp only [shL, List.cons_append, List.nil_append]
  refine Fn_enter Tryz.func113 rfl Tryz.ntmps113 rfl ?_
  refine R_seq ?_
  refine R_region ?_
  refine J_assign rfl rfl rfl ?_
  refine J_assign rfl rfl rfl ?_
  refine J_nil ?_
  refine E_then ?_
  refine R_seq ?_
  refine R_seq ?_
  refine R_region ?_
  refine J_move rfl rfl rfl ?_
  refine J_ptr_nil rfl rfl rfl rfl ?_
  refine J_nil2 ?_
  refine E_then ?_
  refine R_cond_false rfl ?_
  refine R_skip ?_
  refine E_then ?_
  refine R_seq ?_
  refine R_seq ?_
  refine R_region ?_
  refine J_move rfl rfl rfl ?_
  refine J_nilCheck rfl rfl rfl ?_
  refine J_fieldAddr0 rfl rfl rfl ?_
  refine J_load rfl rfl rfl rfl ?_
  refine J_move rfl rfl rfl ?_
  refine J_lookup rfl rfl rfl rfl ?_
  refine J_move rfl rfl rfl ?_
  refine J_extract rfl rfl rfl rfl ?_
  refine J_extract rfl rfl rfl rfl ?_
  refine J_assign rfl rfl rfl ?_
  refine J_assign rfl rfl rfl ?_
  refine J_nil3 ?_
  refine E_then ?_
  refine R_seq ?_
  refine R_region ?_
  refine J_move rfl rfl rfl ?_
  refine J_nil1 ?_
  refine E_then ?_
  refine R_cond rfl (fun hh => ?_) (fun hh => ?_)
  refine R_seq ?_
  refine R_region ?_
  refine J_move rfl rfl rfl ?_
  refine J_assign rfl rfl rfl ?_
  refine J_assign rfl rfl rfl ?_
  refine J_nil1 ?_
  refine E_then ?_
  refine R_ret ?_
  refine E_then_ret ?_
  rotate_left
  refine R_skip ?_
  refine E_then ?_
  refine R_seq ?_
  refine R_region ?_
  refine J_move rfl rfl rfl ?_
  refine J_nilCheck rfl rfl rfl ?_
  refine J_fieldAddr0 rfl rfl rfl ?_
  refine J_load rfl rfl rfl rfl ?_
  refine J_move rfl rfl rfl ?_
  refine J_lookup rfl rfl rfl rfl ?_
  refine J_move rfl rfl rfl ?_
  refine J_extract rfl rfl rfl rfl ?_
  refine J_extract rfl rfl rfl rfl ?_
  refine J_assign rfl rfl rfl ?_
  refine J_assign rfl rfl rfl ?_
  refine J_nil3 ?_
  refine E_then ?_
  refine R_seq ?_
  refine R_region ?_
  refine J_move rfl rfl rfl ?_
  refine J_move rfl rfl rfl ?_
  refine J_assign rfl rfl rfl ?_
  refine J_assign rfl rfl rfl ?_
  refine J_nil2 ?_
  refine E_then ?_
  refine R_ret ?_
  rotate_left
  · obtain ⟨t, hm⟩ := Option.isSome_iff_exists.1 hh
    apply E_ret Tryz.results113
    · exact Res.tmp rfl (Res.tmp rfl (Res.nil))
    · intro w s
      exact ⟨by simp [one, seen, hm, lookR], shut_shd (s.gives (by exact Gives.refl))⟩
  · have hm : mget Lo i = none := by simpa using hh
    apply E_ret Tryz.results113
    · exact Res.tmp rfl (Res.tmp rfl (Res.nil))
    · intro w s
      exact ⟨by simp [one, seen, hm, lookR], shut_shd (s.gives (by exact Gives.refl))⟩
/-- A layer's iterator. -/
theorem shadow_each (b : Nat) (F : List HP) : Fn Tryz.prog 163 [.map (some b)] F
    (fun v w => ∃ t, v = .func (.func 208) #[] #[.pointer (some ⟨t, 0, none⟩)] ∧ Sat w (cl t 216 [.map (some b)] :: F)) := by
  refine Fn_enter Tryz.func163 rfl Tryz.ntmps163 rfl ?_
  refine R_seq ?_
  refine R_region ?_
  refine J_box rfl rfl rfl rfl ?_; intro
  refine J_assign rfl rfl rfl ?_
  refine J_nil ?_
  refine E_then ?_
  refine R_seq ?_
  refine R_region ?_
  refine J_makeFunc rfl rfl rfl rfl ?_
  refine J_assign rfl rfl rfl ?_
  refine J_nil1 ?_
  refine E_then ?_
  refine R_ret ?_
  apply E_ret Tryz.results163
  · exact Res.tmp rfl (Res.nil)
  · intro w s
    exact ⟨_, rfl, s⟩
theorem shadow_Fresh (s bk bl : Nat) (F : List HP) : Fn Tryz.prog 101 [.pointer (some ⟨s, 0, none⟩)] (shH s bk bl :: F)
    (fun v w => ∃ t, v = .func (.func 208) #[] #[.pointer (some ⟨t, 0, none⟩)] ∧ Sat w (cl t 216 [.map (some bl)] :: shH s bk bl :: F)) := by
  refine Fn_enter Tryz.func101 rfl Tryz.ntmps101 rfl ?_
  refine R_seq ?_
  refine R_region ?_
  refine J_assign rfl rfl rfl ?_
  refine J_nil ?_
  refine E_then ?_
  refine R_seq ?_
  refine R_seq ?_
  refine R_region ?_
  refine J_move rfl rfl rfl ?_
  refine J_ptr_nil rfl rfl rfl rfl ?_
  refine J_nil2 ?_
  refine E_then ?_
  refine R_cond_false rfl ?_
  refine R_skip ?_
  refine E_then ?_
  refine R_seq ?_
  refine R_region ?_
  refine J_move rfl rfl rfl ?_
  refine J_nilCheck rfl rfl rfl ?_
  refine J_fieldAddr0 rfl rfl rfl ?_
  refine J_load rfl rfl rfl rfl ?_
  refine J_callm rfl (shadow_each bl _) Gives.refl rfl rfl ?_
  rintro v w ⟨t, rfl, s0⟩
  refine JW.of s0 ?_
  refine J_assign rfl rfl rfl ?_
  refine J_nil3 ?_
  refine E_then ?_
  refine R_ret ?_
  apply E_ret Tryz.results101
  · exact Res.tmp rfl (Res.nil)
  · intro w s
    exact ⟨_, rfl, s⟩
theorem shadow_Kept (s bk bl : Nat) (F : List HP) : Fn Tryz.prog 158 [.pointer (some ⟨s, 0, none⟩)] (shH s bk bl :: F)
    (fun v w => ∃ t, v = .func (.func 208) #[] #[.pointer (some ⟨t, 0, none⟩)] ∧ Sat w (cl t 216 [.map (some bk)] :: shH s bk bl :: F)) := by
  refine Fn_enter Tryz.func158 rfl Tryz.ntmps158 rfl ?_
  refine R_seq ?_
  refine R_region ?_
  refine J_assign rfl rfl rfl ?_
  refine J_nil ?_
  refine E_then ?_
  refine R_seq ?_
  refine R_seq ?_
  refine R_region ?_
  refine J_move rfl rfl rfl ?_
  refine J_ptr_nil rfl rfl rfl rfl ?_
  refine J_nil2 ?_
  refine E_then ?_
  refine R_cond_false rfl ?_
  refine R_skip ?_
  refine E_then ?_
  refine R_seq ?_
  refine R_region ?_
  refine J_move rfl rfl rfl ?_
  refine J_nilCheck rfl rfl rfl ?_
  refine J_fieldAddr0 rfl rfl rfl ?_
  refine J_load rfl rfl rfl rfl ?_
  refine J_callm rfl (shadow_each bk _) Gives.refl rfl rfl ?_
  rintro v w ⟨t, rfl, s0⟩
  refine JW.of s0 ?_
  refine J_assign rfl rfl rfl ?_
  refine J_nil3 ?_
  refine E_then ?_
  refine R_ret ?_
  apply E_ret Tryz.results158
  · exact Res.tmp rfl (Res.nil)
  · intro w s
    exact ⟨_, rfl, s⟩
end Go.Proofs.Sol

/- Shadows: all things stay. -/
namespace Go.Proofs.Sol
open Go Go.Proofs
set_option maxRecDepth 100000
set_option maxHeartbeats 4000000
set_option linter.unusedVariables false
set_option linter.unusedSimpArgs false
attribute [local irreducible] R J JW E D Fn Y clf mpI own Sat Exit.then Exit.inBlock bodyPost bodyPostM Code.wpIn wpL
def keepN (K Lo : List (Int × Bytes)) (i : Nat) : List (Int × Bytes) := ((told Lo).take i).foldl (fun K p => mput K p.1 p.2) K
def keep (K Lo : List (Int × Bytes)) : List (Int × Bytes) := (told Lo).foldl (fun K p => mput K p.1 p.2) K
theorem keepN_all (K Lo : List (Int × Bytes)) : keepN K Lo (toldV Lo).length = keep K Lo := by
  unfold keepN keep
  rw [List.take_of_length_le (by simp [toldV])]
theorem toldV_get {m : List (Int × Bytes)} {i : Nat} {vs : List Value} (h : (toldV m)[i]? = some vs) : ∃ p, (told m)[i]? = some p ∧ vs = [.int .i64 p.1, .string (S p.2)] := by
  unfold toldV at h
  rw [List.getElem?_map] at h
  cases hp : (told m)[i]? with
  | none => rw [hp] at h; cases h
  | some p => rw [hp] at h; exact ⟨p, rfl, by simpa using h.symm⟩
theorem keepN_succ {K Lo : List (Int × Bytes)} {i : Nat} {p : Int × Bytes} (h : (told Lo)[i]? = some p) : keepN K Lo (i + 1) = mput (keepN K Lo i) p.1 p.2 := by
  unfold keepN
  obtain ⟨hlt, he⟩ := List.getElem?_eq_some_iff.1 h
  rw [List.take_succ_eq_append_getElem hlt, he]
  simp
theorem toldV_two (m : List (Int × Bytes)) : ∀ vs ∈ toldV m, vs.length = 2 := by
  intro vs hvs
  obtain ⟨p, _, rfl⟩ := List.mem_map.1 hvs
  rfl
theorem gives_shd {s bk bl : Nat} {K Lo : List (Int × Bytes)} {L : List HP} : Gives (shH s bk bl :: mpI bk K :: mpI bl Lo :: L) (shd s K Lo :: L) :=
  ⟨fun h st => stars_mono_hd (fun _ e => ⟨(bk, bl), e⟩) (stars_gather (M := shL s K Lo (bk, bl)) st)⟩
theorem shadow_Keep (s : Nat) (K Lo : List (Int × Bytes)) (hm : Lo.length < 1000000) (F : List HP) : Fn Tryz.prog 104 [.pointer (some ⟨s, 0, none⟩)] (shd s K Lo :: F) (Pst (.tuple #[]) (shd s (keep K Lo) [] :: F)) := by
  refine Fn.open_ (fun w h => open_shd h) ?_
  rintro ⟨bk, bl⟩
  dsimp only [shL, List.cons_append, List.nil_append]
  refine Fn_enterM Tryz.func104 rfl Tryz.ntmps104 rfl ?_
  refine R_seq ?_
  refine R_region ?_
  refine J_box rfl rfl rfl rfl ?_; intro
  refine J_nil ?_
  refine E_then ?_
  refine R_seq ?_
  refine R_seq ?_
  refine R_region ?_
  refine J_load rfl rfl rfl rfl ?_
  refine J_ptr_nil rfl rfl rfl rfl ?_
  refine J_nil2 ?_
  refine E_then ?_
  refine R_cond_false rfl ?_
  refine R_skip ?_
  refine E_then ?_
  refine R_seq ?_
  refine R_region ?_
  refine J_load rfl rfl rfl rfl ?_
  rename_i t1
  refine J_callr rfl (shadow_made s bk bl _) (Gives.cons (Take.next Take.here) Gives.refl) rfl rfl ?_
  refine J_nil2 ?_
  refine E_then ?_
  refine R_seq ?_
  refine R_seq ?_
  refine R_region ?_
  refine J_load rfl rfl rfl rfl ?_
  refine J_nilCheck rfl rfl rfl ?_
  refine J_fieldAddr0 rfl rfl rfl ?_
  refine J_load rfl rfl rfl rfl ?_
  refine J_callm rfl (shadow_each bl _) Gives.refl rfl rfl ?_
  rintro v w ⟨t, rfl, s0⟩
  refine JW.of s0 ?_
  refine J_nil3 ?_
  refine E_then ?_
  refine R_block ?_
  refine R_rangeFunc (f := 208) (ps := [13, 14]) (fun i => [cl t1 151 [.pointer (some ⟨s, 0, none⟩)], shH s bk bl, mpI bk (keepN K Lo i)]) [fun _ => False] (fun vs => [(2, vs.getD 0 undef), (3, vs.getD 1 undef), (1, .pointer (some ⟨t1, 0, none⟩))]) F rfl (each_tells t bl Lo hm)
    (Gives.trans (M := cl t 216 [.map (some bl)] :: mpI bl Lo :: cl t1 151 [.pointer (some ⟨s, 0, none⟩)] :: shH s bk bl :: mpI bk K :: F) (by exact Gives.cons Take.here (Gives.cons (Take.next (Take.next (Take.next Take.here))) (Gives.last (Take.next Take.here)))) ⟨fun _ s => s⟩) (toldV_two Lo) rfl ?_ ?_ ?_ ?_
  · intro l c i vs hi F'
    obtain ⟨p, hp, rfl⟩ := toldV_get hi
    dsimp only [List.cons_append, List.nil_append]
    refine R_seq ?_
    refine R_region ?_
    refine J_assign rfl rfl rfl ?_
    refine J_nil ?_
    refine E_then ?_
    refine R_region ?_
    refine J_assign rfl rfl rfl ?_
    refine J_nil ?_
    exact E_thenI fun a w he hs => ⟨he.sub (by exact sub_cons rfl (sub_cons rfl (sub_cons rfl sub_nil))), hs⟩
  · intro l c i vs hi hc F'
    obtain ⟨p, hp, rfl⟩ := toldV_get hi
    dsimp only [List.cons_append, List.nil_append]
    refine R_block ?_
    refine R_region ?_
    refine J_load rfl rfl rfl rfl ?_
    refine J_nilCheck rfl rfl rfl ?_
    refine J_fieldAddr0 rfl rfl rfl ?_
    refine J_load rfl rfl rfl rfl ?_
    refine J_move rfl rfl rfl ?_
    refine J_move rfl rfl rfl ?_
    refine J_mapUpdate rfl rfl rfl (by with_reducible exact Take.next (Take.next (Take.next Take.here))) ?_
    refine J_nil3 ?_
    refine E_block_normal ?_
    refine E_roundN hc (by with_reducible exact Take.next Take.here) ?_
    rw [keepN_succ hp]
    exact Gives.trans (M := cl t1 151 [.pointer (some ⟨s, 0, none⟩)] :: shH s bk bl :: mpI bk (mput (keepN K Lo i) p.1 p.2) :: F') (by exact Gives.cons (Take.next Take.here) (Gives.last (Take.next Take.here))) ⟨fun _ s => s⟩
  · intro r
    rw [keepN_all]
    dsimp only [List.cons_append, List.nil_append]
    refine E_block_normal ?_
    refine E_then ?_
    refine R_region ?_
    refine J_load rfl rfl rfl rfl ?_
    refine J_callr rfl (shadow_Back s (keep K Lo) Lo (pt r (.deferred (some [])) :: F)) (Gives.trans (M := shH s bk bl :: mpI bk (keep K Lo) :: mpI bl Lo :: pt r (.deferred (some [])) :: F) (by exact Gives.cons (Take.next (Take.next (Take.next (Take.next Take.here)))) (Gives.cons (Take.next (Take.next (Take.next (Take.next Take.here)))) (Gives.cons (Take.next (Take.next Take.here)) (Gives.cons Take.here (Gives.drop (Gives.drop Gives.refl)))))) gives_shd) rfl rfl ?_
    refine J_nil2 ?_
    refine E_endM (R := shd s (keep K Lo) [] :: F) Tryz.results104 (by with_reducible exact Take.next Take.here) (by exact Res.nil) ?_
    intro w s
    exact ⟨rfl, s.drop⟩
  · intro r
    exact E_no
end Go.Proofs.Sol
