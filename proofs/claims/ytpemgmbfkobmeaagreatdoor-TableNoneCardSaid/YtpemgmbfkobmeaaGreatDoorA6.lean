/- Records of a log, as bytes. -/
import Derived.Test.YtpemgmbfkobmeaaGreatDoorA4
import Derived.Test.YtpemgmbfkobmeaaGreatDoorA5
import Derived.Test.YtpemgmbfkobmeaaGreatDoorA2
namespace Go.Proofs.Sol
open Go Go.Proofs
set_option maxRecDepth 100000
set_option maxHeartbeats 4000000
set_option linter.unusedVariables false
set_option linter.unusedSimpArgs false
attribute [local irreducible] R J JW E D Fn Y clf mpI own Sat Exit.then Exit.inBlock bodyPost bodyPostM Code.wpIn wpL
def recTp (q by_ : Int) (n : Nat) (l : List (Int × Bytes)) (j : Nat) : Bytes := recTold q by_ n (l.take j)
theorem recTp_succ {q by_ : Int} {n : Nat} {l : List (Int × Bytes)} {j : Nat} (h : j < l.length) : recTp q by_ n l (j + 1) = putF (recTp q by_ n l j) l[j].1 2 := by
  unfold recTp recTold
  rw [List.take_succ_eq_append_getElem h, List.foldl_append]; rfl
theorem recAll_succ {by_ : Int} {l : List (Int × Bytes)} {j : Nat} (h : j < l.length) : recAll by_ (l.take (j + 1)) = recAll by_ (l.take j) ++ turnB l[j].2 by_ := by
  unfold recAll
  rw [List.take_succ_eq_append_getElem h, List.flatMap_append]; simp
theorem logrec_Put (q : Int) (b2 cap : Nat) (l : List (Int × Bytes)) (sp : List Value) (hcap : l.length ≤ cap) (h : RecOk l) (hne : l ≠ []) (hq : 0 ≤ q ∧ q < 281474976710656) (F : List HP) :
    Fn Tryz.prog 102 [.int .i64 q, .slice (some ⟨b2, 0, none⟩) l.length cap] (cl b2 164 (secs l ++ sp) :: F)
      (fun v w => v = .tuple #[.string (S (recB q (turnOf l) l)), .int .i64 0] ∧ turnOf l ≤ 16 ∧ Sat w (cl b2 164 (secs l ++ sp) :: F)) := by
  have hm := h.many
  refine Fn_enter Tryz.func102 rfl Tryz.ntmps102 rfl ?_
  refine R_seq ?_
  refine R_region ?_
  refine J_assign rfl rfl rfl ?_
  refine J_assign rfl rfl rfl ?_
  refine J_nil ?_
  refine E_then ?_
  refine R_seq ?_
  refine R_seq ?_
  refine R_region ?_
  refine J_move rfl rfl rfl ?_
  refine J_cmp rfl rfl rfl rfl rfl ?_
  refine J_move rfl rfl rfl ?_
  refine J_guard_split rfl rfl (fun hh => ?_) (fun hh => ?_)
  simp only [decide_eq_true_eq, decide_eq_false_iff_not, Bool.and_eq_true, Bool.or_eq_true, Bool.not_eq_true', Bool.not_eq_false', beq_iff_eq, bne_iff_ne, beq_eq_false_iff_ne, bne_eq_false_iff_eq, ne_eq, ge_iff_le, gt_iff_lt, Int.not_le, Int.not_lt, Bool.and_eq_false_iff, Bool.or_eq_false_iff, Decidable.not_not] at hh
  exfalso; omega
  simp only [decide_eq_true_eq, decide_eq_false_iff_not, Bool.and_eq_true, Bool.or_eq_true, Bool.not_eq_true', Bool.not_eq_false', beq_iff_eq, bne_iff_ne, beq_eq_false_iff_ne, bne_eq_false_iff_eq, ne_eq, ge_iff_le, gt_iff_lt, Int.not_le, Int.not_lt, Bool.and_eq_false_iff, Bool.or_eq_false_iff, Decidable.not_not] at hh
  refine J_guard rfl rfl rfl ?_
  refine J_move rfl rfl rfl ?_
  refine J_guard rfl rfl rfl ?_
  refine J_cmp rfl rfl rfl rfl rfl ?_
  refine J_pick_false rfl rfl rfl rfl ?_
  refine J_nil3 ?_
  refine E_then ?_
  refine R_cond rfl (fun hh => ?_) (fun hh => ?_)
  simp only [decide_eq_true_eq, decide_eq_false_iff_not, Bool.and_eq_true, Bool.or_eq_true, Bool.not_eq_true', Bool.not_eq_false', beq_iff_eq, bne_iff_ne, beq_eq_false_iff_ne, bne_eq_false_iff_eq, ne_eq, ge_iff_le, gt_iff_lt, Int.not_le, Int.not_lt, Bool.and_eq_false_iff, Bool.or_eq_false_iff, Decidable.not_not] at hh
  exfalso; omega
  simp only [decide_eq_true_eq, decide_eq_false_iff_not, Bool.and_eq_true, Bool.or_eq_true, Bool.not_eq_true', Bool.not_eq_false', beq_iff_eq, bne_iff_ne, beq_eq_false_iff_ne, bne_eq_false_iff_eq, ne_eq, ge_iff_le, gt_iff_lt, Int.not_le, Int.not_lt, Bool.and_eq_false_iff, Bool.or_eq_false_iff, Decidable.not_not] at hh
  refine R_skip ?_
  refine E_then ?_
  refine R_seq ?_
  refine R_seq ?_
  refine R_region ?_
  refine J_move rfl rfl rfl ?_
  refine J_callr rfl (logrec_Check b2 cap l sp hcap h hne _) (by exact Gives.refl) rfl rfl ?_
  refine J_assign rfl rfl rfl ?_
  refine J_nil2 ?_
  refine E_then ?_
  refine R_seq ?_
  refine R_region ?_
  refine J_move rfl rfl rfl ?_
  refine J_cmp rfl rfl rfl rfl rfl ?_
  refine J_nil2 ?_
  refine E_then ?_
  refine R_cond_false rfl ?_
  refine R_skip ?_
  refine E_then ?_
  refine R_seq ?_
  refine R_region ?_
  refine J_move rfl rfl rfl ?_
  refine J_callm rfl (logrec_turn b2 cap l sp h _) Gives.refl rfl rfl ?_
  rintro v w ⟨rfl, ht, s0⟩
  refine JW.of s0 ?_
  generalize hby : turnOf l = y at ht ⊢
  refine J_assign rfl rfl rfl ?_
  refine J_nil2 ?_
  refine E_then ?_
  refine R_seq ?_
  refine R_region ?_
  refine J_move rfl rfl rfl ?_
  refine J_callr rfl (field_Put [82] q 6 (by simp) (by omega) _) (by exact Gives.refl) rfl rfl ?_
  have l1 := putF_length [82] q 6
  simp at l1
  refine J_move rfl rfl rfl ?_
  refine J_len_slice rfl rfl rfl ?_
  refine J_callr rfl (field_Put _ (l.length : Int) 1 (by omega) (by omega) _) (by exact Gives.refl) rfl rfl ?_
  have l2 := putF_length (putF [82] q 6) (l.length : Int) 1
  refine J_move rfl rfl rfl ?_
  refine J_callr rfl (field_Put _ (y : Int) 1 (by omega) (by omega) _) (by exact Gives.refl) rfl rfl ?_
  refine J_assign rfl rfl rfl ?_
  refine J_nil3 ?_
  refine E_then ?_
  refine R_seq ?_
  refine R_region ?_
  refine J_alloc rfl rfl ?_; intro
  refine J_nil ?_
  refine E_then ?_
  refine R_seq ?_
  refine R_seq ?_
  refine R_region ?_
  refine J_move rfl rfl rfl ?_
  refine J_len_slice rfl rfl rfl ?_
  refine J_move rfl rfl rfl ?_
  refine J_nil3 ?_
  refine E_then ?_
  refine R_block ?_
  rename_i b
  refine R.open_ (α := Unit) (M := fun _ => bldr b [] :: cl b2 164 (secs l ++ sp) :: F) (fun w s => ⟨(), new_bldr s⟩) ?_
  rintro ⟨⟩
  skip
  refine R_loop (X := {j : Nat // j ≤ l.length}) (fun j => [(34, .int .i64 (j.1 : Int)), (33, .int .i64 (l.length : Int)), (32, .slice (some ⟨b2, 0, none⟩) l.length cap), (9, .pointer (some ⟨b, 0, none⟩)), (7, .int .i64 (y : Int)), (8, .string (S (recTp q y l.length l j.1)))])
    (fun j => bldr b (recAll y (l.take j.1)) :: cl b2 164 (secs l ++ sp) :: F) (fun j => l.length - j.1) ⟨0, by omega⟩ (by exact sub_cons rfl (sub_cons rfl (sub_cons rfl (sub_cons rfl (sub_cons rfl (sub_cons rfl sub_nil)))))) Gives.refl ?_
  rintro ⟨j, hj⟩
  dsimp only
  have lT : (recTp q y l.length l j).length = 9 + 2 * (l.take j).length := recTold_length hq (by omega) (by omega) (fun p hp => h.at_ p (List.mem_of_mem_take hp))
  have lA : (recAll y (l.take j)).length = 64 * (l.take j).length := recAll_length _ fun p hp => h.data p (List.mem_of_mem_take hp)
  have lj : (l.take j).length ≤ 16 := by simp; omega
  refine R_seq ?_
  refine R_region ?_
  refine J_cmp rfl rfl rfl rfl rfl ?_
  refine J_nil1 ?_
  refine E_then ?_
  refine R_seq ?_
  refine R_cond rfl (fun hh => ?_) (fun hh => ?_)
  simp only [decide_eq_true_eq, decide_eq_false_iff_not, Bool.and_eq_true, Bool.or_eq_true, Bool.not_eq_true', Bool.not_eq_false', beq_iff_eq, bne_iff_ne, beq_eq_false_iff_ne, bne_eq_false_iff_eq, ne_eq, ge_iff_le, gt_iff_lt, Int.not_le, Int.not_lt, Bool.and_eq_false_iff, Bool.or_eq_false_iff, Decidable.not_not] at hh
  refine R_skip ?_
  refine E_then ?_
  refine R_seq ?_
  refine R_block ?_
  refine R_seq ?_
  refine R_region ?_
  refine J_indexAddr rfl rfl (by omega) (by omega) rfl rfl ?_
  rotate_left
  simp only [decide_eq_true_eq, decide_eq_false_iff_not, Bool.and_eq_true, Bool.or_eq_true, Bool.not_eq_true', Bool.not_eq_false', beq_iff_eq, bne_iff_ne, beq_eq_false_iff_ne, bne_eq_false_iff_eq, ne_eq, ge_iff_le, gt_iff_lt, Int.not_le, Int.not_lt, Bool.and_eq_false_iff, Bool.or_eq_false_iff, Decidable.not_not] at hh
  refine R_exit ?_
  refine E_then_exit ?_
  refine E_then_exit ?_
  refine E_block_hit ?_
  refine E_then ?_
  refine R_seq ?_
  refine R_region ?_
  refine J_move rfl rfl rfl ?_
  refine J_move rfl rfl rfl ?_
  rotate_left
  · have hlt : j < l.length := by omega
    have e1 : 0 + (j : Int).toNat * 2 = j * 2 := by omega
    rw [e1]
    refine J_loadAX (us := [.int .i64 l[j].1, .string (S l[j].2)]) rfl (by simp [secs_length]; omega) (by
      have := secs_drop l j hlt
      rw [List.drop_append_of_le_length (by simp [secs_length]; omega), List.take_append_of_le_length (by simp [secs_length]; omega)]
      exact this) rfl rfl ?_
    have ha := h.at_ l[j] (List.getElem_mem hlt)
    have hd := h.data l[j] (List.getElem_mem hlt)
    have et := recTp_succ (q := q) (by_ := y) (n := l.length) hlt
    have er := recAll_succ (by_ := y) hlt
    generalize hx : l[j] = x at ha hd et er ⊢
    refine J_alloc rfl rfl ?_; intro
    refine J_storeA rfl rfl rfl rfl rfl rfl ?_
    refine J_nil2 ?_
    refine E_then ?_
    refine R_seq ?_
    refine R_region ?_
    refine J_move rfl rfl rfl ?_
    refine J_fieldAddr0 rfl rfl rfl ?_
    refine J_load rfl rfl rfl rfl ?_
    refine J_callr rfl (field_Put (recTp q y l.length l j) x.1 2 (by omega) (by omega) _) (by exact Gives.refl) rfl rfl ?_
    refine J_assign rfl rfl rfl ?_
    refine J_nil3 ?_
    refine E_then ?_
    refine R_region ?_
    refine J_fieldAddr0 rfl rfl rfl ?_
    refine J_load rfl rfl rfl rfl ?_
    refine J_move rfl rfl rfl ?_
    refine J_callr rfl (logrec_turned x.2 hd y (by omega) _) (by exact Gives.refl) rfl rfl ?_
    have lt := turnB_length (by_ := y) hd
    skip
    refine J_callr rfl (Builder_WriteString b (recAll y (l.take j)) (turnB x.2 y) (by omega) _) (by exact Gives.last (Take.next Take.here)) rfl rfl ?_
    refine J_nil3 ?_
    refine E_block_normal ?_
    refine E_then ?_
    refine R_region ?_
    refine J_ari64 rfl rfl rfl (by omega) rfl rfl ?_
    refine J_moveg rfl rfl rfl ?_
    refine J_nil1 ?_
    rw [← et, ← er]
    exact E_thenI fun a w he hs => ⟨⟨j + 1, by omega⟩, by simp; omega, he.sub (by exact sub_cons rfl (sub_cons rfl (sub_cons rfl (sub_cons rfl (sub_cons rfl (sub_cons rfl sub_nil)))))), hs.gives (by exact Gives.cons Take.here (Gives.cons (Take.next Take.here) (Gives.drop Gives.refl)))⟩
  · have ej : j = l.length := by omega
    subst ej
    have e2 : recTp q y l.length l l.length = recTold q y l.length l := by unfold recTp; rw [List.take_length]
    rw [List.take_length] at lA lT ⊢
    rw [e2] at lT ⊢
    generalize hT : recTold q y l.length l = T at lT ⊢
    generalize hA : recAll y l = A at lA ⊢
    refine J.open_ (α := Unit) (M := fun _ => bldz b A :: cl b2 164 (secs l ++ sp) :: F) (fun w s => ⟨(), bldz_of s⟩) ?_
    rintro ⟨⟩
    skip
    refine J_callr rfl (Builder_StringZ b A (by omega) _) (by exact Gives.refl) rfl rfl ?_
    skip
    refine J_callr rfl (logrec_tail T A (by omega) _) (by exact Gives.refl) rfl rfl ?_
    have lt := tail_length (T ++ A)
    refine J_str_add rfl rfl (by omega) rfl rfl ?_
    refine J_callr rfl (region_Pad (T ++ tail (T ++ A)) (by simp; omega) _) (by exact Gives.refl) rfl rfl ?_
    have lp : (pad (T ++ tail (T ++ A))).length = 64 := pad_len (by simp; omega)
    skip
    refine J_callr rfl (Builder_StringZ b A (by omega) _) (by exact Gives.refl) rfl rfl ?_
    refine J_str_add rfl rfl (by omega) rfl rfl ?_
    refine J_assign rfl rfl rfl ?_
    refine J_assign rfl rfl rfl ?_
    refine J_nil3 ?_
    refine E_then ?_
    refine R_ret ?_
    apply E_ret Tryz.results102
    · exact Res.tmp rfl (Res.tmp rfl (Res.nil))
    · intro w s
      refine ⟨?_, ht, s.gives (by exact Gives.cons (Take.next Take.here) (Gives.drop Gives.refl))⟩
      simp only [one, recB, hT, hA]
end Go.Proofs.Sol

/- A log over a disk: what is staged, committed. -/
namespace Go.Proofs.Sol
open Go Go.Proofs
set_option maxRecDepth 100000
set_option maxHeartbeats 4000000
set_option linter.unusedVariables false
set_option linter.unusedSimpArgs false
attribute [local irreducible] R J JW E D Fn Y clf mpI own Sat Exit.then Exit.inBlock bodyPost bodyPostM Code.wpIn wpL
theorem rec_ok {W : Wl} (ok : WlOk W) : RecOk (told W.Lo) := by
  have hn := ok.n
  refine ⟨by rw [told_length]; exact ok.lo, fun p hp => ?_, fun p hp => (ok.loH p (told_mem hp)).2, told_nodup ok.loN⟩
  have h := (ok.loH p (told_mem hp)).1
  simp only [Wl.home, homeB, Bool.and_eq_true, decide_eq_true_eq] at h
  omega
/-- A log, behind a transaction of n - 1 sectors. -/
def Wl.comm (W : Wl) (n : Nat) : Wl := { W with at_ := (W.at_ + n) % (W.many - 2), seq := W.seq + 1, used := W.used + n, com := true, act := false, K := keep W.K W.Lo, Lo := [], V := putV W.V (W.fr + 2) (W.many - 2) W.at_ (recB W.seq (turnOf (told W.Lo)) (told W.Lo)) n, k := W.k + n + 1 }
/-- A list of sectors, under way. -/
def lst (c : Nat) (xs : List Value) : HP := exi fun v : Value => stp [cl c 147 [v], own v 164 2 xs]
theorem open_lst {w : World} {c : Nat} {xs : List Value} {L : List HP} (h : Sat w (lst c xs :: L)) : ∃ v, Sat w (cl c 147 [v] :: own v 164 2 xs :: L) := by
  obtain ⟨v, h⟩ := h.exi
  exact ⟨v, h.open_⟩
theorem gives_lst {c : Nat} {v : Value} {xs : List Value} {L : List HP} : Gives (cl c 147 [v] :: own v 164 2 xs :: L) (lst c xs :: L) :=
  ⟨fun h st => stars_mono_hd (fun _ e => ⟨v, e⟩) (stars_gather (M := [cl c 147 [v], own v 164 2 xs]) st)⟩
theorem wal_Commit (b : Nat) (W : Wl) (ok : WlOk W) (ha : W.act = true) (hne : W.Lo ≠ []) (n : Nat) (hn : n = W.Lo.length + 1) (hr : W.used + n ≤ W.many - 2) (hk : W.k < 10000000) (F : List HP) :
    Fn Tryz.prog 26 [.pointer (some ⟨b, 0, none⟩)] (wal b W :: F) (Pst (.int .i64 0) (wal b (W.comm n) :: F)) := by
  have hfr := ok.fr
  have hnn := ok.n
  have hm := ok.many
  have hlo := ok.lo
  have hat := ok.at_
  have hus := ok.used
  have hsq := ok.seq
  have hrec := rec_ok ok
  have htl := told_length W.Lo
  have htne : told W.Lo ≠ [] := by intro h; rw [h] at htl; simp at htl; exact hne (List.eq_nil_of_length_eq_zero htl.symm)
  have htv : (toldV W.Lo).length = W.Lo.length := by simp [toldV, told_length]
  refine Fn.open_ (fun w h => open_wal h) ?_
  rintro p
  dsimp only [walL, List.cons_append, List.nil_append]
  refine Fn.open_ (M := fun x => shL p.2.2 W.K W.Lo x ++ (walH b W p :: reg p.1 W.d W.fr 2 :: reg p.2.1 W.d (W.fr + 2) (W.many - 2) :: dvk W.d W.V W.k :: F)) (fun w h => open_shd (h.gives (by exact Gives.last (Take.next (Take.next (Take.next Take.here)))))) ?_
  rintro ⟨bk, bl⟩
  dsimp only [shL, List.cons_append, List.nil_append]
  refine Fn_enterM Tryz.func26 rfl Tryz.ntmps26 rfl ?_
  refine R_seq ?_
  refine R_region ?_
  refine J_assign rfl rfl rfl ?_
  refine J_nil ?_
  refine E_then ?_
  refine R_seq ?_
  refine R_seq ?_
  refine R_region ?_
  refine J_move rfl rfl rfl ?_
  refine J_callr rfl (wal_ActiveH b W p _) (by exact Gives.last (Take.next (Take.next (Take.next Take.here)))) rfl rfl ?_
  rw [ha]
  refine J_un_not rfl rfl rfl ?_
  refine J_nil3 ?_
  refine E_then ?_
  refine R_cond_false rfl ?_
  refine R_skip ?_
  refine E_then ?_
  refine R_seq ?_
  refine R_region ?_
  refine J_alloc rfl rfl ?_; intro
  refine J_nil ?_
  refine E_then ?_
  refine R_seq ?_
  refine R_seq ?_
  refine R_region ?_
  refine J_move rfl rfl rfl ?_
  refine J_nilCheck rfl rfl rfl ?_
  refine J_fieldAddr0 rfl rfl rfl ?_
  refine J_load rfl rfl rfl rfl ?_
  rename_i c3
  refine J_callm rfl (shadow_Fresh p.2.2 bk bl _) (by exact Gives.last (Take.next (Take.next Take.here))) rfl rfl ?_
  rintro v w ⟨t, rfl, s0⟩
  refine JW.of s0 ?_
  refine J_nil3 ?_
  refine E_then ?_
  refine R_block ?_
  refine R_rangeFunc (f := 208) (ps := [18, 19]) (fun j => [lst c3 (secs ((told W.Lo).take j))]) [fun _ => False] (fun vs => [(4, vs.getD 0 undef), (5, vs.getD 1 undef), (3, .pointer (some ⟨c3, 0, none⟩))])
    (shH p.2.2 bk bl :: mpI bk W.K :: walH b W p :: reg p.1 W.d W.fr 2 :: reg p.2.1 W.d (W.fr + 2) (W.many - 2) :: dvk W.d W.V W.k :: F) rfl (each_tells t bl W.Lo (by omega))
    (Gives.trans (M := cl c3 147 [.slice none 0 0] :: own (.slice none 0 0) 164 2 [] :: cl t 216 [.map (some bl)] :: mpI bl W.Lo :: shH p.2.2 bk bl :: mpI bk W.K :: walH b W p :: reg p.1 W.d W.fr 2 :: reg p.2.1 W.d (W.fr + 2) (W.many - 2) :: dvk W.d W.V W.k :: F)
      (Gives.cons (by with_reducible exact Take.next (Take.next Take.here)) (Gives.own_nil (by exact Gives.cons Take.here (Gives.cons (Take.next (Take.next (Take.next Take.here))) (Gives.cons Take.here (Gives.last (Take.next Take.here))))))) (gives_lst.trans (Gives.trans (M := cl t 216 [.map (some bl)] :: mpI bl W.Lo :: lst c3 [] :: shH p.2.2 bk bl :: mpI bk W.K :: walH b W p :: reg p.1 W.d W.fr 2 :: reg p.2.1 W.d (W.fr + 2) (W.many - 2) :: dvk W.d W.V W.k :: F) (by exact Gives.cons (Take.next Take.here) (Gives.last (Take.next Take.here))) ⟨fun _ s => s⟩))) (toldV_two W.Lo) rfl ?_ ?_ ?_ ?_
  · intro l c j vs hi F'
    obtain ⟨x, hx, rfl⟩ := toldV_get hi
    dsimp only [List.cons_append, List.nil_append]
    refine R_seq ?_
    refine R_region ?_
    refine J_assign rfl rfl rfl ?_
    refine J_nil ?_
    refine E_then ?_
    refine R_region ?_
    refine J_assign rfl rfl rfl ?_
    refine J_nil ?_
    exact E_thenI fun a w he hs => ⟨he.sub (by exact sub_cons rfl (sub_cons rfl (sub_cons rfl sub_nil))), hs⟩
  · intro l c j vs hi hc F'
    obtain ⟨x, hx, rfl⟩ := toldV_get hi
    obtain ⟨hxl, hxe⟩ := List.getElem?_eq_some_iff.1 hx
    dsimp only [List.cons_append, List.nil_append]
    refine R.open_ (M := fun v => cl c3 147 [v] :: own v 164 2 (secs ((told W.Lo).take j)) :: pt l (.loop (busy c)) :: F') (fun w s => open_lst s.swap) ?_
    intro v
    refine R.know (fun w s => s.swap.own_single) fun hv1 => ?_
    refine R_block ?_
    refine R_region ?_
    refine J_load rfl rfl rfl rfl ?_
    refine J_move rfl rfl rfl ?_
    refine J_move rfl rfl rfl ?_
    refine J_build rfl rfl rfl rfl ?_
    refine J_buildSlice rfl rfl rfl rfl rfl rfl ?_; intro
    refine J_append (m := 1) (k := 2) (xs := secs ((told W.Lo).take j)) (ys := [.int .i64 x.1, .string (S x.2)]) (E := 164) rfl rfl (by with_reducible exact Take.next (Take.next Take.here)) (by rintro k ⟨⟩) rfl (by omega) (by omega) (by simp) rfl (by rw [secs_length]; simp; omega) rfl rfl rfl ?_
    intro v' hsv
    refine J_store rfl rfl (by assumption) rfl ?_
    refine J_nil3 ?_
    refine E_block_normal ?_
    refine E_roundN hc (by with_reducible exact Take.next (Take.next (Take.next Take.here))) ?_
    have e : secs ((told W.Lo).take (j + 1)) = secs ((told W.Lo).take j) ++ [.int .i64 x.1, .string (S x.2)] := by
      rw [List.take_succ_eq_append_getElem hxl, hxe]
      exact secs_snoc _ _ _
    rw [e]
    exact Gives.trans (M := cl c3 147 [v'] :: own v' 164 2 (secs ((told W.Lo).take j) ++ [.int .i64 x.1, .string (S x.2)]) :: F') (by exact Gives.cons (Take.next (Take.next Take.here)) (Gives.cons Take.here (Gives.drop Gives.refl))) gives_lst
  · intro r
    rw [htv, ← htl, List.take_length]
    dsimp only [List.cons_append, List.nil_append]
    refine E.open_ (M := fun v => cl c3 147 [v] :: own v 164 2 (secs (told W.Lo)) :: pt r (.deferred (some [])) :: cl t 216 [.map (some bl)] :: mpI bl W.Lo :: shH p.2.2 bk bl :: mpI bk W.K :: walH b W p :: reg p.1 W.d W.fr 2 :: reg p.2.1 W.d (W.fr + 2) (W.many - 2) :: dvk W.d W.V W.k :: F) (fun w s => open_lst (s.gives (by exact Gives.last (Take.next (Take.next (Take.next Take.here)))))) ?_
    intro v
    refine E_block_normal ?_
    refine E_then ?_
    refine R_seq ?_
    refine R_seq ?_
    refine R_region ?_
    refine J_load rfl rfl rfl rfl ?_
    have hl0 : 0 < (told W.Lo).length := List.length_pos_iff.2 htne
    refine J_openOwn (by with_reducible exact Take.next Take.here) (fun hv0 hz0 => absurd hz0 (by intro h; have := congrArg List.length h; rw [secs_length] at this; simp at this; omega)) (fun b2 len cap sp hv0 hz1 hz2 => ?_)
    rw [secs_length] at hz1 hz2
    have hlen : len = (told W.Lo).length := by omega
    subst hlen
    subst hv0
    have hcap : (told W.Lo).length ≤ cap := by omega
    generalize hl : told W.Lo = l at *
    have hroom : W.room = W.many - 2 - W.used := rfl
    refine J_len_slice rfl rfl rfl ?_
    refine J_ari64 rfl rfl rfl (by omega) rfl rfl ?_
    refine J_assign rfl rfl rfl ?_
    refine J_nil3 ?_
    refine E_then ?_
    refine R_seq ?_
    refine R_region ?_
    refine J_load rfl rfl rfl rfl ?_
    refine J_len_slice rfl rfl rfl ?_
    refine J_cmp rfl rfl rfl rfl rfl ?_
    refine J_nil3 ?_
    refine E_then ?_
    refine R_cond rfl (fun hh => ?_) (fun hh => ?_)
    simp only [decide_eq_true_eq, decide_eq_false_iff_not, Bool.and_eq_true, Bool.or_eq_true, Bool.not_eq_true', Bool.not_eq_false', beq_iff_eq, bne_iff_ne, beq_eq_false_iff_ne, bne_eq_false_iff_eq, ne_eq, ge_iff_le, gt_iff_lt, Int.not_le, Int.not_lt, Bool.and_eq_false_iff, Bool.or_eq_false_iff, Decidable.not_not] at hh
    refine R_seq ?_
    refine R_seq ?_
    refine R_region ?_
    refine J_move rfl rfl rfl ?_
    refine J_move rfl rfl rfl ?_
    rotate_left
    simp only [decide_eq_true_eq, decide_eq_false_iff_not, Bool.and_eq_true, Bool.or_eq_true, Bool.not_eq_true', Bool.not_eq_false', beq_iff_eq, bne_iff_ne, beq_eq_false_iff_ne, bne_eq_false_iff_eq, ne_eq, ge_iff_le, gt_iff_lt, Int.not_le, Int.not_lt, Bool.and_eq_false_iff, Bool.or_eq_false_iff, Decidable.not_not] at hh
    exfalso; omega
    refine J_callr rfl (wal_RoomH b W p hm (by omega) _) (by exact Gives.cons (Take.next (Take.next (Take.next (Take.next (Take.next (Take.next (Take.next Take.here))))))) (Gives.last (Take.next (Take.next (Take.next (Take.next (Take.next (Take.next (Take.next (Take.next Take.here)))))))))) rfl rfl ?_
    rw [hroom]
    refine J_cmp rfl rfl rfl rfl rfl ?_
    refine J_nil3 ?_
    refine E_then ?_
    refine R_cond rfl (fun hh => ?_) (fun hh => ?_)
    simp only [decide_eq_true_eq, decide_eq_false_iff_not, Bool.and_eq_true, Bool.or_eq_true, Bool.not_eq_true', Bool.not_eq_false', beq_iff_eq, bne_iff_ne, beq_eq_false_iff_ne, bne_eq_false_iff_eq, ne_eq, ge_iff_le, gt_iff_lt, Int.not_le, Int.not_lt, Bool.and_eq_false_iff, Bool.or_eq_false_iff, Decidable.not_not] at hh
    exfalso; omega
    simp only [decide_eq_true_eq, decide_eq_false_iff_not, Bool.and_eq_true, Bool.or_eq_true, Bool.not_eq_true', Bool.not_eq_false', beq_iff_eq, bne_iff_ne, beq_eq_false_iff_ne, bne_eq_false_iff_eq, ne_eq, ge_iff_le, gt_iff_lt, Int.not_le, Int.not_lt, Bool.and_eq_false_iff, Bool.or_eq_false_iff, Decidable.not_not] at hh
    refine R_skip ?_
    refine E_then ?_
    refine R_seq ?_
    refine R_np ?_
    refine R_draw ([walH b W p, cl c3 147 [.slice (some ⟨b2, 0, none⟩) l.length cap]]) [5, 9, 10] (by kernel_rfl) ?_
    (refine D_lookP (i := 0) rfl (by kernel_rfl) (by exact NP_noP) (by exact Y_move rfl) rfl rfl ?_)
    (refine D_lookP (i := 1) rfl (by kernel_rfl) (by exact NP_noP) (by exact Y_nilCheck rfl) rfl rfl ?_)
    (refine D_lookP (i := 2) rfl (by kernel_rfl) (by exact NP_noP) (by exact Y_fieldAddr0 rfl) rfl rfl ?_)
    (refine D_look (i := 3) rfl (by kernel_rfl) (by exact NP_noP) (by exact Gives.cons Take.here (Gives.cons (Take.next (Take.next Take.here)) Gives.nil)) (by exact Y_load rfl rfl) rfl rfl ?_)
    (refine D_look (i := 4) rfl (by kernel_rfl) (by exact NP_noP) (by exact Gives.cons Take.here (Gives.cons (Take.next (Take.next Take.here)) Gives.nil)) (by exact Y_load rfl rfl) rfl rfl ?_)
    refine D_try1 (i := 5) (by kernel_rfl) rfl ?_
    refine J_callm rfl (logrec_Put W.seq b2 cap l sp hcap hrec htne (by omega) _) (by exact Gives.last (Take.next (Take.next Take.here))) rfl rfl ?_
    rintro v w ⟨rfl, ht, s0⟩
    refine JW.of s0 ?_
    refine D_last (by kernel_rfl) ?_
    (refine D_lookP (i := 6) rfl (by kernel_rfl) (by exact NP_noP) (by exact Y_move rfl) rfl rfl ?_)
    (refine D_lookP (i := 7) rfl (by kernel_rfl) (by exact NP_noP) (by exact Y_extract rfl rfl) rfl rfl ?_)
    (refine D_lookP (i := 8) rfl (by kernel_rfl) (by exact NP_noP) (by exact Y_extract rfl rfl) rfl rfl ?_)
    refine D_try1 (i := 9) (by kernel_rfl) rfl ?_
    refine J_assign rfl rfl rfl ?_
    refine D_last (by kernel_rfl) ?_
    refine D_try1 (i := 10) (by kernel_rfl) rfl ?_
    refine J_assign rfl rfl rfl ?_
    refine D_last (by kernel_rfl) ?_
    (first | refine D_end1 (by kernel_rfl) ?_ | refine D_end (by kernel_rfl) ?_)
    have hrl := recB_length (q := W.seq) (by_ := (turnOf l : Int)) (by omega) (by omega) hrec
    generalize hrb : recB W.seq (turnOf l) l = rb at *
    refine E_noP ?_
    refine E_then ?_
    refine R_seq ?_
    refine R_seq ?_
    refine R_region ?_
    refine J_move rfl rfl rfl ?_
    refine J_cmp rfl rfl rfl rfl rfl ?_
    refine J_nil2 ?_
    refine E_then ?_
    refine R_cond_false rfl ?_
    refine R_skip ?_
    refine E_then ?_
    refine R_seq ?_
    refine R_seq ?_
    refine R_np ?_
    refine R_draw ([walH b W p]) [9, 10] (by kernel_rfl) ?_
    (refine D_lookP (i := 0) rfl (by kernel_rfl) (by exact NP_noP) (by exact Y_move rfl) rfl rfl ?_)
    (refine D_lookP (i := 1) rfl (by kernel_rfl) (by exact NP_noP) (by exact Y_nilCheck rfl) rfl rfl ?_)
    (refine D_lookP (i := 2) rfl (by kernel_rfl) (by exact NP_noP) (by exact Y_fieldAddr0 rfl) rfl rfl ?_)
    (refine D_look (i := 3) rfl (by kernel_rfl) (by exact NP_noP) (by exact Gives.cons (Take.next Take.here) Gives.nil) (by exact Y_load rfl rfl) rfl rfl ?_)
    (refine D_lookP (i := 4) rfl (by kernel_rfl) (by exact NP_noP) (by exact Y_move rfl) rfl rfl ?_)
    (refine D_lookP (i := 5) rfl (by kernel_rfl) (by exact NP_noP) (by exact Y_nilCheck rfl) rfl rfl ?_)
    (refine D_lookP (i := 6) rfl (by kernel_rfl) (by exact NP_noP) (by exact Y_fieldAddr0 rfl) rfl rfl ?_)
    (refine D_look (i := 7) rfl (by kernel_rfl) (by exact NP_noP) (by exact Gives.cons (Take.next Take.here) Gives.nil) (by exact Y_load rfl rfl) rfl rfl ?_)
    (refine D_lookP (i := 8) rfl (by kernel_rfl) (by exact NP_noP) (by exact Y_move rfl) rfl rfl ?_)
    refine D_try1 (i := 9) (by kernel_rfl) rfl ?_
    refine J_callr rfl (logscan_Put p.2.1 W.d W.V W.k (W.fr + 2) (W.many - 2) W.at_ rb n (by omega) (by omega) hat (by omega) hnn (by omega) _) (by exact Gives.cons (Take.next (Take.next (Take.next (Take.next (Take.next (Take.next (Take.next (Take.next (Take.next (Take.next Take.here)))))))))) (Gives.last (Take.next (Take.next Take.here)))) rfl rfl ?_
    refine D_last (by kernel_rfl) ?_
    refine D_try1 (i := 10) (by kernel_rfl) rfl ?_
    refine J_assign rfl rfl rfl ?_
    refine D_last (by kernel_rfl) ?_
    (first | refine D_end1 (by kernel_rfl) ?_ | refine D_end (by kernel_rfl) ?_)
    refine E_noP ?_
    refine E_then ?_
    refine R_seq ?_
    refine R_region ?_
    refine J_move rfl rfl rfl ?_
    refine J_cmp rfl rfl rfl rfl rfl ?_
    refine J_nil2 ?_
    refine E_then ?_
    refine R_cond_false rfl ?_
    refine R_skip ?_
    refine E_then ?_
    refine R_seq ?_
    refine R_np ?_
    refine R_draw ([walH b W p]) [28, 31, 34] (by kernel_rfl) ?_
    (refine D_lookP (i := 0) rfl (by kernel_rfl) (by exact NP_noP) (by exact Y_move rfl) rfl rfl ?_)
    (refine D_lookP (i := 1) rfl (by kernel_rfl) (by exact NP_noP) (by exact Y_move rfl) rfl rfl ?_)
    (refine D_lookP (i := 2) rfl (by kernel_rfl) (by exact NP_noP) (by exact Y_move rfl) rfl rfl ?_)
    (refine D_lookP (i := 3) rfl (by kernel_rfl) (by exact NP_noP) (by exact Y_move rfl) rfl rfl ?_)
    (refine D_lookP (i := 4) rfl (by kernel_rfl) (by exact NP_noP) (by exact Y_nilCheck rfl) rfl rfl ?_)
    (refine D_lookP (i := 5) rfl (by kernel_rfl) (by exact NP_noP) (by exact Y_fieldAddr0 rfl) rfl rfl ?_)
    (refine D_look (i := 6) rfl (by kernel_rfl) (by exact NP_noP) (by exact Gives.cons (Take.next (Take.next (Take.next Take.here))) Gives.nil) (by exact Y_load rfl rfl) rfl rfl ?_)
    (refine D_lookP (i := 7) rfl (by kernel_rfl) (by exact NP_noP) (by exact Y_move rfl) rfl rfl ?_)
    (refine D_lookP (i := 8) rfl (by kernel_rfl) (by exact NP_noP) (by exact Y_ari64 rfl rfl rfl (by omega)) rfl rfl ?_)
    (refine D_lookP (i := 9) rfl (by kernel_rfl) (by exact NP_noP) (by exact Y_move rfl) rfl rfl ?_)
    (refine D_lookP (i := 10) rfl (by kernel_rfl) (by exact NP_noP) (by exact Y_nilCheck rfl) rfl rfl ?_)
    (refine D_lookP (i := 11) rfl (by kernel_rfl) (by exact NP_noP) (by exact Y_fieldAddr0 rfl) rfl rfl ?_)
    (refine D_look (i := 12) rfl (by kernel_rfl) (by exact NP_noP) (by exact Gives.cons (Take.next (Take.next (Take.next Take.here))) Gives.nil) (by exact Y_load rfl rfl) rfl rfl ?_)
    (refine D_lookP (i := 15) rfl (by kernel_rfl) (by exact NP_noP) (by exact Y_move rfl) rfl rfl ?_)
    (refine D_lookP (i := 16) rfl (by kernel_rfl) (by exact NP_noP) (by exact Y_nilCheck rfl) rfl rfl ?_)
    (refine D_lookP (i := 17) rfl (by kernel_rfl) (by exact NP_noP) (by exact Y_fieldAddr0 rfl) rfl rfl ?_)
    (refine D_look (i := 18) rfl (by kernel_rfl) (by exact NP_noP) (by exact Gives.cons (Take.next (Take.next (Take.next Take.here))) Gives.nil) (by exact Y_load rfl rfl) rfl rfl ?_)
    (refine D_lookP (i := 19) rfl (by kernel_rfl) (by exact NP_noP) (by exact Y_ari64 rfl rfl rfl (by omega)) rfl rfl ?_)
    (refine D_lookP (i := 20) rfl (by kernel_rfl) (by exact NP_noP) (by exact Y_move rfl) rfl rfl ?_)
    (refine D_lookP (i := 21) rfl (by kernel_rfl) (by exact NP_noP) (by exact Y_nilCheck rfl) rfl rfl ?_)
    (refine D_lookP (i := 22) rfl (by kernel_rfl) (by exact NP_noP) (by exact Y_fieldAddr0 rfl) rfl rfl ?_)
    (refine D_look (i := 23) rfl (by kernel_rfl) (by exact NP_noP) (by exact Gives.cons (Take.next (Take.next (Take.next Take.here))) Gives.nil) (by exact Y_load rfl rfl) rfl rfl ?_)
    (refine D_lookP (i := 24) rfl (by kernel_rfl) (by exact NP_noP) (by exact Y_move rfl) rfl rfl ?_)
    (refine D_lookP (i := 25) rfl (by kernel_rfl) (by exact NP_noP) (by exact Y_ari64 rfl rfl rfl (by omega)) rfl rfl ?_)
    refine D_try1 (i := 13) (by kernel_rfl) rfl ?_
    refine J_callr rfl (region_Many p.2.1 W.d (W.fr + 2) (W.many - 2) _) (by exact Gives.last (Take.next Take.here)) rfl rfl ?_
    refine D_next (by exact Gives.cons (Take.next (Take.next (Take.next Take.here))) Gives.nil) ?_
    (refine D_lookP (i := 14) rfl (by kernel_rfl) (by exact NP_noP) (by exact Y_rem rfl rfl (by omega) (by omega)) rfl rfl ?_)
    (refine D_lookP (i := 26) rfl (by kernel_rfl) (by exact NP_noP) (by exact Y_nilCheck rfl) rfl rfl ?_)
    (refine D_lookP (i := 27) rfl (by kernel_rfl) (by exact NP_noP) (by exact Y_fieldAddr0 rfl) rfl rfl ?_)
    refine D_try1 (i := 28) (by kernel_rfl) rfl ?_
    refine J_store rfl rfl rfl rfl ?_
    refine D_last (by kernel_rfl) ?_
    (refine D_lookP (i := 29) rfl (by kernel_rfl) (by exact NP_noP) (by exact Y_nilCheck rfl) rfl rfl ?_)
    (refine D_lookP (i := 30) rfl (by kernel_rfl) (by exact NP_noP) (by exact Y_fieldAddr0 rfl) rfl rfl ?_)
    refine D_try1 (i := 31) (by kernel_rfl) rfl ?_
    refine J_store rfl rfl rfl rfl ?_
    refine D_last (by kernel_rfl) ?_
    (refine D_lookP (i := 32) rfl (by kernel_rfl) (by exact NP_noP) (by exact Y_nilCheck rfl) rfl rfl ?_)
    (refine D_lookP (i := 33) rfl (by kernel_rfl) (by exact NP_noP) (by exact Y_fieldAddr0 rfl) rfl rfl ?_)
    refine D_try1 (i := 34) (by kernel_rfl) rfl ?_
    refine J_store rfl rfl rfl rfl ?_
    refine D_last (by kernel_rfl) ?_
    (first | refine D_end1 (by kernel_rfl) ?_ | refine D_end (by kernel_rfl) ?_)
    refine E_noP ?_
    refine E_then ?_
    refine R_region ?_
    refine J_move rfl rfl rfl ?_
    refine J_nilCheck rfl rfl rfl ?_
    refine J_fieldAddr0 rfl rfl rfl ?_
    refine J_store rfl rfl rfl rfl ?_
    refine J_nil3 ?_
    refine E_then ?_
    refine R_seq ?_
    refine R_region ?_
    refine J_move rfl rfl rfl ?_
    refine J_nilCheck rfl rfl rfl ?_
    refine J_fieldAddr0 rfl rfl rfl ?_
    refine J_load rfl rfl rfl rfl ?_
    refine J.open_ (α := Unit) (M := fun _ => shd p.2.2 W.K W.Lo :: pt r (.deferred (some [])) :: cl b 153 [.pointer (some ⟨W.d, 0, none⟩), .pointer (some ⟨p.1, 0, none⟩), .pointer (some ⟨p.2.1, 0, none⟩), .int .i64 W.fr, .int .i64 W.many, .int .i64 W.gen, .int .i64 ((W.at_ + ((l.length : Int) + 1)) % (W.many - 2)), .int .i64 (W.seq + 1), .int .i64 (W.used + ((l.length : Int) + 1)), .bool W.act, .bool true, .pointer (some ⟨p.2.2, 0, none⟩)] :: reg p.1 W.d W.fr 2 :: reg p.2.1 W.d (W.fr + 2) (W.many - 2) :: dvk W.d (putV W.V (W.fr + 2) (W.many - 2) W.at_ rb n) (W.k + n + 1) :: F) (fun w s => ⟨(), (s.gives (M := shH p.2.2 bk bl :: mpI bk W.K :: mpI bl W.Lo :: pt r (.deferred (some [])) :: cl b 153 [.pointer (some ⟨W.d, 0, none⟩), .pointer (some ⟨p.1, 0, none⟩), .pointer (some ⟨p.2.1, 0, none⟩), .int .i64 W.fr, .int .i64 W.many, .int .i64 W.gen, .int .i64 ((W.at_ + ((l.length : Int) + 1)) % (W.many - 2)), .int .i64 (W.seq + 1), .int .i64 (W.used + ((l.length : Int) + 1)), .bool W.act, .bool true, .pointer (some ⟨p.2.2, 0, none⟩)] :: reg p.1 W.d W.fr 2 :: reg p.2.1 W.d (W.fr + 2) (W.many - 2) :: dvk W.d (putV W.V (W.fr + 2) (W.many - 2) W.at_ rb n) (W.k + n + 1) :: F) (by exact Gives.cons (Take.next (Take.next (Take.next (Take.next (Take.next (Take.next (Take.next (Take.next Take.here)))))))) (Gives.cons (Take.next (Take.next (Take.next (Take.next (Take.next (Take.next (Take.next (Take.next Take.here)))))))) (Gives.cons (Take.next (Take.next (Take.next (Take.next (Take.next (Take.next (Take.next Take.here))))))) (Gives.cons (Take.next (Take.next (Take.next (Take.next (Take.next Take.here))))) (Gives.cons (Take.next (Take.next (Take.next Take.here))) (Gives.cons (Take.next (Take.next (Take.next (Take.next (Take.next Take.here))))) (Gives.cons Take.here (Gives.cons Take.here (Gives.drop (Gives.drop (Gives.drop Gives.refl)))))))))))).gives gives_shd⟩) ?_
    rintro ⟨⟩
    refine J_callr rfl (shadow_Keep p.2.2 W.K W.Lo (by omega) _) (by exact Gives.refl) rfl rfl ?_
    refine J_nil3 ?_
    refine E_then ?_
    refine R_seq ?_
    refine R_region ?_
    refine J_move rfl rfl rfl ?_
    refine J_nilCheck rfl rfl rfl ?_
    refine J_fieldAddr0 rfl rfl rfl ?_
    refine J_store rfl rfl rfl rfl ?_
    refine J_nil3 ?_
    refine E_then ?_
    refine R_seq ?_
    refine R_region ?_
    refine J_assign rfl rfl rfl ?_
    refine J_nil ?_
    refine E_then ?_
    refine R_ret ?_
    refine E.gives (M := pt r (.deferred (some [])) :: cl b 153 [.pointer (some ⟨W.d, 0, none⟩), .pointer (some ⟨p.1, 0, none⟩), .pointer (some ⟨p.2.1, 0, none⟩), .int .i64 W.fr, .int .i64 W.many, .int .i64 W.gen, .int .i64 ((W.at_ + ((l.length : Int) + 1)) % (W.many - 2)), .int .i64 (W.seq + 1), .int .i64 (W.used + ((l.length : Int) + 1)), .bool false, .bool true, .pointer (some ⟨p.2.2, 0, none⟩)] :: reg p.1 W.d W.fr 2 :: reg p.2.1 W.d (W.fr + 2) (W.many - 2) :: shd p.2.2 (keep W.K W.Lo) [] :: dvk W.d (putV W.V (W.fr + 2) (W.many - 2) W.at_ rb n) (W.k + n + 1) :: F) (by exact Gives.cons (Take.next Take.here) (Gives.cons (Take.next Take.here) (Gives.cons (Take.next Take.here) (Gives.last (Take.next Take.here))))) ?_
    refine E_retM (R := cl b 153 [.pointer (some ⟨W.d, 0, none⟩), .pointer (some ⟨p.1, 0, none⟩), .pointer (some ⟨p.2.1, 0, none⟩), .int .i64 W.fr, .int .i64 W.many, .int .i64 W.gen, .int .i64 ((W.at_ + ((l.length : Int) + 1)) % (W.many - 2)), .int .i64 (W.seq + 1), .int .i64 (W.used + ((l.length : Int) + 1)), .bool false, .bool true, .pointer (some ⟨p.2.2, 0, none⟩)] :: reg p.1 W.d W.fr 2 :: reg p.2.1 W.d (W.fr + 2) (W.many - 2) :: shd p.2.2 (keep W.K W.Lo) [] :: dvk W.d (putV W.V (W.fr + 2) (W.many - 2) W.at_ rb n) (W.k + n + 1) :: F) Tryz.results26 Take.here (by exact Res.tmp rfl (Res.nil)) ?_
    intro w s
    refine ⟨rfl, shut_wal (p := p) ?_⟩
    have hn' : (n : Int) = (l.length : Int) + 1 := by omega
    unfold Wl.comm
    rw [hl, hrb, hn']
    exact s.drop
  · intro r
    exact E_no
end Go.Proofs.Sol

/- A volume's disk, with a log without records, in a transaction. -/
namespace Go.Proofs.Sol
open Go Go.Proofs
set_option maxRecDepth 100000
set_option maxHeartbeats 4000000
set_option linter.unusedVariables false
set_option linter.unusedSimpArgs false
attribute [local irreducible] R J JW E D Fn Y clf mpI own Sat Exit.then Exit.inBlock bodyPost bodyPostM Code.wpIn wpL
theorem zf_zero (n : Nat) (a : Int) (j : Nat) : zf (List.replicate n zs64) a j = List.replicate n zs64 := by
  induction j with
  | zero => rfl
  | succ j ih => simp only [zf, ih, List.set_replicate_self]
abbrev fV (n : Nat) (fr : Int) : List Bytes := (List.replicate n zs64).set (fr + 1).toNat (headB 1 1 0)
theorem fmtV_zero (n : Nat) (fr many : Int) : fmtV (List.replicate n zs64) fr many = fV n fr := by
  unfold fmtV
  rw [zf_zero, zf_zero]
theorem fV_get {n : Nat} {fr : Int} (h0 : 0 ≤ fr) (h : fr + 1 < n) (i : Int) (hi : 0 ≤ i ∧ i < n) : (fV n fr).getD i.toNat [] = if i = fr + 1 then headB 1 1 0 else zs64 := by
  rw [List.getD_eq_getElem?_getD, List.getElem?_set]
  by_cases e : i = fr + 1
  · subst e
    rw [if_pos rfl, if_pos (by simp; omega), if_pos rfl]; rfl
  · rw [if_neg (by omega), if_neg e, List.getElem?_replicate, if_pos (by omega)]; rfl
theorem fV_cat {n : Nat} {fr : Int} (h0 : 0 ≤ fr) (h : fr + 1 < n) : cat (fV n fr) fr 2 = zs64 ++ headB 1 1 0 := by
  have hl : (fV n fr).length = n := by simp
  have h1 := cat_succ (V := fV n fr) (a := fr) (n := 0) h0 (by omega)
  have h2 := cat_succ (V := fV n fr) (a := fr) (n := 1) h0 (by omega)
  have e0 : fr + ((0 : Nat) : Int) = fr := by omega
  have e1 : fr + ((1 : Nat) : Int) = fr + 1 := by omega
  rw [e0, fV_get h0 h fr (by omega), if_neg (by omega)] at h1
  rw [e1, fV_get h0 h (fr + 1) (by omega), if_pos rfl, h1] at h2
  rw [h2]
  have : cat (fV n fr) fr 0 = [] := by simp [cat]
  rw [this]; rfl
theorem fV_newer {n : Nat} {fr : Int} (h0 : 0 ≤ fr) (h : fr + 1 < n) : newer ((cat (fV n fr) fr 2).take 64) ((cat (fV n fr) fr 2).drop 64) = ((1, 1, 0), 0) := by
  rw [fV_cat h0 h]
  have e1 : (zs64 ++ headB 1 1 0).take 64 = zs64 := take_app rfl
  have e2 : (zs64 ++ headB 1 1 0).drop 64 = headB 1 1 0 := drop_app rfl
  rw [e1, e2]
  have z : headGet zs64 = ((0, 0, 0), 4) := headGet_zero
  unfold newer
  rw [z, headGet_put (by decide)]
  rfl
theorem fV_ring {n : Nat} {fr many : Int} (h0 : 0 ≤ fr) (hm : 24 ≤ many) (h : fr + many ≤ n) : ring (fV n fr) (fr + 2) (many - 2) 0 1 = zs64 := by
  simp only [ring, List.nil_append]
  have e : (0 + ((0 : Nat) : Int)) % (many - 2) = 0 := by simp
  rw [e, fV_get h0 (by omega) _ (by omega), if_neg (by omega)]
/-- The log of a volume's new disk. -/
def bW (d : Nat) (n : Nat) (fr many : Int) : Wl := ⟨d, fr, many, 2, 0, 1 + many, 0, true, false, [], [], (fV n fr).set fr.toNat (headB 2 (1 + many) 0), many.toNat + 2 + 3 + 4⟩
theorem setV_nil (V : List Bytes) : setV V [] = V := by simp [setV, homeV, told, srt]
theorem bW_eq (d n : Nat) (fr many : Int) : ({ Wl.anew d fr many (fV n fr) (many.toNat + 2) (1, 1, 0) with act := true } : Wl) = bW d n fr many := by
  have e : fr + 2 % 2 = fr := by omega
  simp only [Wl.anew, Wl.settled, bW, setV_nil]
  have t0 : (told []).length = 0 := by simp [told, srt]
  rw [t0]
  simp
theorem bW_ok (d n : Nat) (fr many : Int) (hn : n ≤ 1000) (hm : 24 ≤ many ∧ many ≤ 200) (hf : 0 ≤ fr ∧ fr + many ≤ n) : WlOk (bW d n fr many) := by
  have hl : (bW d n fr many).V.length = n := by simp [bW]
  refine ⟨?_, ?_, hm, ?_, ?_, ?_, ?_, ?_, ?_, ?_, ?_, ?_⟩
  · rw [hl]; exact hf
  · rw [hl]; exact hn
  all_goals (dsimp only [bW]; first | omega | simp)
end Go.Proofs.Sol

/- Sectors that follow one another, read; extents. -/
namespace Go.Proofs.Sol
open Go Go.Proofs
set_option maxRecDepth 100000
set_option maxHeartbeats 4000000
set_option linter.unusedVariables false
set_option linter.unusedSimpArgs false
attribute [local irreducible] R J JW E D Fn Y clf mpI own Sat Exit.then Exit.inBlock bodyPost bodyPostM Code.wpIn wpL
theorem ld_snoc (W : Wl) : ∀ (j : Nat) (a : Int), W.ldE a (j + 1) = (if W.ldE a j = 0 then W.rdE (a + j) else W.ldE a j) ∧ W.ld a (j + 1) = W.ld a j ++ W.rd (a + j) := by
  intro j
  induction j with
  | zero =>
    intro a
    have e : a + ((0 : Nat) : Int) = a := by omega
    simp only [Wl.ldE, Wl.ld, e, if_true, List.append_nil, List.nil_append]
    refine ⟨?_, trivial⟩
    by_cases h : W.rdE a = 0
    · rw [if_pos h, h]
    · rw [if_neg h]
  | succ j ih =>
    intro a
    have e : a + 1 + (j : Int) = a + ((j + 1 : Nat) : Int) := by omega
    have h1 := ih (a + 1)
    rw [e] at h1
    constructor
    · show (if W.rdE a = 0 then W.ldE (a + 1) (j + 1) else W.rdE a) = if (if W.rdE a = 0 then W.ldE (a + 1) j else W.rdE a) = 0 then W.rdE (a + ((j + 1 : Nat) : Int)) else (if W.rdE a = 0 then W.ldE (a + 1) j else W.rdE a)
      rw [h1.1]
      by_cases h : W.rdE a = 0
      · simp only [if_pos h]
      · simp only [if_neg h]
    · show W.rd a ++ W.ld (a + 1) (j + 1) = W.rd a ++ W.ld (a + 1) j ++ W.rd (a + ((j + 1 : Nat) : Int))
      rw [h1.2, List.append_assoc]
theorem rd_known {W : Wl} (ok : WlOk W) (hV : ∀ s ∈ W.V, s.length = 64) {i : Int} (h : W.rdE i = 0) : (0 ≤ i ∧ i < 1000) ∧ (W.rd i).length = 64 := by
  have hn := ok.n
  unfold Wl.rdE Wl.rd at *
  cases hs : seen W.K W.Lo i with
  | some s =>
    have hm : (i, s) ∈ W.Lo ∨ (i, s) ∈ W.K := by
      unfold seen at hs
      cases h1 : mget W.Lo i with
      | some t => rw [h1] at hs; simp at hs; subst hs; exact .inl (mget_mem h1)
      | none => rw [h1] at hs; simp at hs; exact .inr (mget_mem hs)
    rcases hm with hm | hm
    · exact ⟨home_lt ok (ok.loH _ hm).1, (ok.loH _ hm).2⟩
    · exact ⟨home_lt ok (ok.kH _ hm).1, (ok.kH _ hm).2⟩
  | none =>
    rw [hs] at h
    dsimp only at h ⊢
    unfold Sol.rdE at h
    split at h
    · rename_i hi
      unfold rdV
      rw [if_pos hi, List.getD_eq_getElem?_getD, List.getElem?_eq_getElem (by omega)]
      exact ⟨by omega, hV _ (List.getElem_mem _)⟩
    · cases h
theorem ld_length {W : Wl} (ok : WlOk W) (hV : ∀ s ∈ W.V, s.length = 64) : ∀ (j : Nat) (a : Int), W.ldE a j = 0 → (W.ld a j).length = 64 * j := by
  intro j
  induction j with
  | zero => intro a _; rfl
  | succ j ih =>
    intro a h
    unfold Wl.ldE at h
    split at h
    · rename_i h1
      unfold Wl.ld
      rw [List.length_append, ih _ h, (rd_known ok hV h1).2]; omega
    · rename_i h1; exact absurd h h1
theorem wal_le {w : World} {b : Nat} {W : Wl} {k : Nat} {L : List HP} (hk : W.k ≤ k) (h : Sat w (wal b W :: L)) : Sat w (wal b { W with k := k } :: L) := by
  obtain ⟨p, s⟩ := open_wal h
  dsimp only [walL, List.cons_append, List.nil_append] at s
  have s2 : Sat w (dvk W.d W.V W.k :: walH b W p :: reg p.1 W.d W.fr 2 :: reg p.2.1 W.d (W.fr + 2) (W.many - 2) :: shd p.2.2 W.K W.Lo :: L) := s.gives (by exact Gives.last (Take.next (Take.next (Take.next (Take.next Take.here)))))
  have s3 := dvk_le hk s2
  have s4 : Sat w (walH b W p :: reg p.1 W.d W.fr 2 :: reg p.2.1 W.d (W.fr + 2) (W.many - 2) :: shd p.2.2 W.K W.Lo :: dvk W.d W.V k :: L) := s3.gives (by exact Gives.cons (Take.next Take.here) (Gives.cons (Take.next Take.here) (Gives.cons (Take.next Take.here) (Gives.last (Take.next Take.here)))))
  exact shut_wal (p := p) s4
theorem wal_V {w : World} {b : Nat} {W : Wl} {L : List HP} (h : Sat w (wal b W :: L)) : ∀ s ∈ W.V, s.length = 64 := by
  obtain ⟨p, s⟩ := open_wal h
  dsimp only [walL, List.cons_append, List.nil_append] at s
  exact (dvk_know s.drop.drop.drop.drop).2
theorem extent_Load (b : Nat) (W : Wl) (ok : WlOk W) (a : Int) (ha : -9223372036854775808 ≤ a ∧ a < 9223372036854775808) (n : Nat) (hn : n ≤ 16) (hk : W.k < 10000000) (F : List HP) :
    Fn Tryz.prog 38 [.pointer (some ⟨b, 0, none⟩), .int .i64 a, .int .i64 (n : Int)] (wal b W :: F) (Pst (.tuple #[.string (S (if W.ldE a n = 0 then W.ld a n else [])), .int .i64 (W.ldE a n)]) (wal b { W with k := W.k + n } :: F)) := by
  refine Fn.know (fun w h => wal_V h) fun hV => ?_
  refine Fn_enter Tryz.func38 rfl Tryz.ntmps38 rfl ?_
  refine R_seq ?_
  refine R_region ?_
  refine J_assign rfl rfl rfl ?_
  refine J_assign rfl rfl rfl ?_
  refine J_nil ?_
  refine E_then ?_
  refine R_seq ?_
  refine R_seq ?_
  refine R_region ?_
  refine J_move rfl rfl rfl ?_
  refine J_cmp rfl rfl rfl rfl rfl ?_
  refine J_move rfl rfl rfl ?_
  refine J_guard rfl rfl rfl ?_
  refine J_move rfl rfl rfl ?_
  refine J_guard rfl rfl rfl ?_
  refine J_cmp rfl rfl rfl rfl rfl ?_
  refine J_pick_false rfl rfl rfl rfl ?_
  refine J_nil3 ?_
  refine E_then ?_
  refine R_cond rfl (fun hh => ?_) (fun hh => ?_)
  simp only [decide_eq_true_eq, decide_eq_false_iff_not, Bool.and_eq_true, Bool.or_eq_true, Bool.not_eq_true', Bool.not_eq_false', beq_iff_eq, bne_iff_ne, beq_eq_false_iff_ne, bne_eq_false_iff_eq, ne_eq, ge_iff_le, gt_iff_lt, Int.not_le, Int.not_lt, Bool.and_eq_false_iff, Bool.or_eq_false_iff, Decidable.not_not] at hh
  exfalso; omega
  simp only [decide_eq_true_eq, decide_eq_false_iff_not, Bool.and_eq_true, Bool.or_eq_true, Bool.not_eq_true', Bool.not_eq_false', beq_iff_eq, bne_iff_ne, beq_eq_false_iff_ne, bne_eq_false_iff_eq, ne_eq, ge_iff_le, gt_iff_lt, Int.not_le, Int.not_lt, Bool.and_eq_false_iff, Bool.or_eq_false_iff, Decidable.not_not] at hh
  refine R_skip ?_
  refine E_then ?_
  refine R_seq ?_
  refine R_region ?_
  refine J_alloc rfl rfl ?_; intro
  refine J_nil ?_
  refine E_then ?_
  refine R_seq ?_
  refine R_seq ?_
  refine R_region ?_
  refine J_move rfl rfl rfl ?_
  refine J_move rfl rfl rfl ?_
  refine J_nil2 ?_
  refine E_then ?_
  refine R_block ?_
  rename_i bb
  refine R.open_ (α := Unit) (M := fun _ => bldr bb [] :: wal b { W with k := W.k + 0 } :: F) (fun w s => ⟨(), new_bldr s⟩) ?_
  rintro ⟨⟩
  skip
  refine R_loop (X := {j : Nat // j ≤ n ∧ W.ldE a j = 0}) (fun j => [(19, .int .i64 (j.1 : Int)), (18, .int .i64 (n : Int)), (0, .pointer (some ⟨b, 0, none⟩)), (1, .int .i64 a), (8, .pointer (some ⟨bb, 0, none⟩))])
    (fun j => bldr bb (W.ld a j.1) :: wal b { W with k := W.k + j.1 } :: F) (fun j => n - j.1) ⟨0, by omega, rfl⟩ (by exact sub_cons rfl (sub_cons rfl (sub_cons rfl (sub_cons rfl (sub_cons rfl sub_nil))))) Gives.refl ?_
  rintro ⟨j, hj, h0⟩
  dsimp only
  have hll := ld_length ok hV j a h0
  refine R_seq ?_
  refine R_region ?_
  refine J_cmp rfl rfl rfl rfl rfl ?_
  refine J_nil1 ?_
  refine E_then ?_
  refine R_seq ?_
  refine R_cond rfl (fun hh => ?_) (fun hh => ?_)
  simp only [decide_eq_true_eq, decide_eq_false_iff_not, Bool.and_eq_true, Bool.or_eq_true, Bool.not_eq_true', Bool.not_eq_false', beq_iff_eq, bne_iff_ne, beq_eq_false_iff_ne, bne_eq_false_iff_eq, ne_eq, ge_iff_le, gt_iff_lt, Int.not_le, Int.not_lt, Bool.and_eq_false_iff, Bool.or_eq_false_iff, Decidable.not_not] at hh
  refine R_skip ?_
  refine E_then ?_
  refine R_seq ?_
  refine R_block ?_
  refine R_seq ?_
  refine R_region ?_
  refine J_move rfl rfl rfl ?_
  refine J_assign rfl rfl rfl ?_
  refine J_nil1 ?_
  refine E_then ?_
  refine R_seq ?_
  refine R_region ?_
  refine J_move rfl rfl rfl ?_
  refine J_move rfl rfl rfl ?_
  refine J_move rfl rfl rfl ?_
  rotate_left
  simp only [decide_eq_true_eq, decide_eq_false_iff_not, Bool.and_eq_true, Bool.or_eq_true, Bool.not_eq_true', Bool.not_eq_false', beq_iff_eq, bne_iff_ne, beq_eq_false_iff_ne, bne_eq_false_iff_eq, ne_eq, ge_iff_le, gt_iff_lt, Int.not_le, Int.not_lt, Bool.and_eq_false_iff, Bool.or_eq_false_iff, Decidable.not_not] at hh
  refine R_exit ?_
  refine E_then_exit ?_
  refine E_then_exit ?_
  refine E_block_hit ?_
  refine E_then ?_
  refine R_seq ?_
  refine R_region ?_
  rotate_left
  · have hlt : j < n := by omega
    have hsn := ld_snoc W j a
    rw [if_pos h0] at hsn
    have hb : -9223372036854775808 ≤ a + j ∧ a + j < 9223372036854775808 := by
      rcases Nat.eq_zero_or_pos j with hz | hz
      · subst hz; omega
      · obtain ⟨i, rfl⟩ : ∃ i, j = i + 1 := ⟨j - 1, by omega⟩
        have h1 := (ld_snoc W i a).1
        rw [h0] at h1
        have h2 : W.rdE (a + i) = 0 := by
          by_cases h3 : W.ldE a i = 0
          · rw [if_pos h3] at h1; exact h1.symm
          · rw [if_neg h3] at h1; exact absurd h1.symm h3
        have := (rd_known ok hV h2).1
        omega
    refine J_ari64 rfl rfl rfl (by omega) rfl rfl ?_
    refine J_callr rfl (wal_Read b { W with k := W.k + j } (a + j) (by dsimp only; omega) _) (by exact Gives.last (Take.next Take.here)) rfl rfl ?_
    have hr1 : ({ W with k := W.k + j } : Wl).rd (a + j) = W.rd (a + j) := rfl
    have hr2 : ({ W with k := W.k + j } : Wl).rdE (a + j) = W.rdE (a + j) := rfl
    rw [hr1, hr2]
    by_cases hz : W.rdE (a + j) = 0
    · have hl := (rd_known ok hV hz).2
      rw [hz] at hsn
      rw [hz]
      refine J_move rfl rfl rfl ?_
      refine J_extract rfl rfl rfl rfl ?_
      refine J_extract rfl rfl rfl rfl ?_
      refine J_assign rfl rfl rfl ?_
      refine J_assign rfl rfl rfl ?_
      refine J_nil3 ?_
      refine E_then ?_
      refine R_seq ?_
      refine R_seq ?_
      refine R_region ?_
      refine J_move rfl rfl rfl ?_
      refine J_cmp rfl rfl rfl rfl rfl ?_
      refine J_nil2 ?_
      refine E_then ?_
      refine R_cond_false rfl ?_
      refine R_skip ?_
      refine E_then ?_
      refine R_region ?_
      refine J_move rfl rfl rfl ?_
      refine J_callr rfl (Builder_WriteString bb (W.ld a j) (W.rd (a + j)) (by omega) _) (by exact Gives.last (Take.next Take.here)) rfl rfl ?_
      refine J_nil2 ?_
      refine E_block_normal ?_
      refine E_then ?_
      refine R_region ?_
      refine J_ari64 rfl rfl rfl (by omega) rfl rfl ?_
      refine J_moveg rfl rfl rfl ?_
      refine J_nil1 ?_
      rw [← hsn.2]
      exact E_thenI fun a' w he hs => ⟨⟨j + 1, by omega, hsn.1⟩, by simp; omega, he.sub (by exact sub_cons rfl (sub_cons rfl (sub_cons rfl (sub_cons rfl (sub_cons rfl sub_nil))))), hs⟩
    · have hE : W.ldE a n = W.rdE (a + j) := by
        have key : ∀ i, j + 1 ≤ i → W.ldE a i = W.rdE (a + j) := by
          intro i hi
          induction i with
          | zero => omega
          | succ i ih =>
            rcases Nat.lt_or_ge j i with h | h
            · have h1 := ih (by omega)
              rw [(ld_snoc W i a).1, if_neg (by rw [h1]; exact hz), h1]
            · have : i = j := by omega
              subst this; exact hsn.1
        exact key n (by omega)
      rw [hE, if_neg hz]
      refine J_move rfl rfl rfl ?_
      refine J_extract rfl rfl rfl rfl ?_
      refine J_extract rfl rfl rfl rfl ?_
      refine J_assign rfl rfl rfl ?_
      refine J_assign rfl rfl rfl ?_
      refine J_nil3 ?_
      refine E_then ?_
      refine R_seq ?_
      refine R_seq ?_
      refine R_region ?_
      refine J_move rfl rfl rfl ?_
      refine J_cmp rfl rfl rfl rfl rfl ?_
      refine J_nil2 ?_
      refine E_then ?_
      refine R_cond rfl (fun hh => ?_) (fun hh => ?_)
      simp only [decide_eq_true_eq, decide_eq_false_iff_not, Bool.and_eq_true, Bool.or_eq_true, Bool.not_eq_true', Bool.not_eq_false', beq_iff_eq, bne_iff_ne, beq_eq_false_iff_ne, bne_eq_false_iff_eq, ne_eq, ge_iff_le, gt_iff_lt, Int.not_le, Int.not_lt, Bool.and_eq_false_iff, Bool.or_eq_false_iff, Decidable.not_not] at hh
      refine R_seq ?_
      refine R_region ?_
      refine J_move rfl rfl rfl ?_
      refine J_assign rfl rfl rfl ?_
      refine J_assign rfl rfl rfl ?_
      refine J_nil1 ?_
      refine E_then ?_
      refine R_ret ?_
      refine E_then_ret ?_
      refine E_block_ret ?_
      refine E_then_ret ?_
      refine E_then_ret ?_
      refine E_block_ret ?_
      refine E_then_ret ?_
      rotate_left
      simp only [decide_eq_true_eq, decide_eq_false_iff_not, Bool.and_eq_true, Bool.or_eq_true, Bool.not_eq_true', Bool.not_eq_false', beq_iff_eq, bne_iff_ne, beq_eq_false_iff_ne, bne_eq_false_iff_eq, ne_eq, ge_iff_le, gt_iff_lt, Int.not_le, Int.not_lt, Bool.and_eq_false_iff, Bool.or_eq_false_iff, Decidable.not_not] at hh
      exfalso; omega
      apply E_ret Tryz.results38
      · exact Res.tmp rfl (Res.tmp rfl (Res.nil))
      · intro w s
        refine ⟨rfl, ?_⟩
        have s2 : Sat w (wal b { W with k := W.k + j + 1 } :: F) := s.gives (by exact Gives.cons Take.here (Gives.drop Gives.refl))
        exact wal_le (W := { W with k := W.k + j + 1 }) (k := W.k + n) (by dsimp only; omega) s2
  · have ej : j = n := by omega
    subst ej
    rw [h0]
    simp only [if_true]
    refine J_callr rfl (Builder_String bb (W.ld a j) (by omega) _) (by exact Gives.refl) rfl rfl ?_
    refine J_assign rfl rfl rfl ?_
    refine J_assign rfl rfl rfl ?_
    refine J_nil1 ?_
    refine E_then ?_
    refine R_ret ?_
    apply E_retP Tryz.results38
    · exact Res.tmp rfl (Res.tmp rfl (Res.nil))
    · exact Gives.refl
    rfl
theorem extent_LoadR (v : Option Addr) (a n : Int) (hn : n < 0 ∨ 16 < n) (F : List HP) : Fn Tryz.prog 38 [.pointer v, .int .i64 a, .int .i64 n] F (Pst (.tuple #[.string (S []), .int .i64 3]) F) := by
  refine Fn_enter Tryz.func38 rfl Tryz.ntmps38 rfl ?_
  refine R_seq ?_
  refine R_region ?_
  refine J_assign rfl rfl rfl ?_
  refine J_assign rfl rfl rfl ?_
  refine J_nil ?_
  refine E_then ?_
  refine R_seq ?_
  refine R_seq ?_
  refine R_region ?_
  refine J_move rfl rfl rfl ?_
  refine J_cmp rfl rfl rfl rfl rfl ?_
  refine J_move rfl rfl rfl ?_
  refine J_guard_split rfl rfl (fun hh => ?_) (fun hh => ?_)
  simp only [decide_eq_true_eq, decide_eq_false_iff_not, Bool.and_eq_true, Bool.or_eq_true, Bool.not_eq_true', Bool.not_eq_false', beq_iff_eq, bne_iff_ne, beq_eq_false_iff_ne, bne_eq_false_iff_eq, ne_eq, ge_iff_le, gt_iff_lt, Int.not_le, Int.not_lt, Bool.and_eq_false_iff, Bool.or_eq_false_iff, Decidable.not_not] at hh
  refine J_guard_not rfl rfl rfl rfl rfl rfl ?_
  refine J_guard_not rfl rfl rfl rfl rfl rfl ?_
  refine J_pick_true rfl rfl rfl rfl ?_
  refine J_nil3 ?_
  refine E_then ?_
  refine R_cond_true rfl ?_
  refine R_seq ?_
  refine R_region ?_
  refine J_assign rfl rfl rfl ?_
  refine J_assign rfl rfl rfl ?_
  refine J_nil ?_
  refine E_then ?_
  refine R_ret ?_
  refine E_then_ret ?_
  rotate_left
  simp only [decide_eq_true_eq, decide_eq_false_iff_not, Bool.and_eq_true, Bool.or_eq_true, Bool.not_eq_true', Bool.not_eq_false', beq_iff_eq, bne_iff_ne, beq_eq_false_iff_ne, bne_eq_false_iff_eq, ne_eq, ge_iff_le, gt_iff_lt, Int.not_le, Int.not_lt, Bool.and_eq_false_iff, Bool.or_eq_false_iff, Decidable.not_not] at hh
  refine J_guard rfl rfl rfl ?_
  refine J_move rfl rfl rfl ?_
  refine J_guard rfl rfl rfl ?_
  refine J_cmp rfl rfl rfl rfl rfl ?_
  refine J_pick_false rfl rfl rfl rfl ?_
  refine J_nil3 ?_
  refine E_then ?_
  refine R_cond rfl (fun hh => ?_) (fun hh => ?_)
  simp only [decide_eq_true_eq, decide_eq_false_iff_not, Bool.and_eq_true, Bool.or_eq_true, Bool.not_eq_true', Bool.not_eq_false', beq_iff_eq, bne_iff_ne, beq_eq_false_iff_ne, bne_eq_false_iff_eq, ne_eq, ge_iff_le, gt_iff_lt, Int.not_le, Int.not_lt, Bool.and_eq_false_iff, Bool.or_eq_false_iff, Decidable.not_not] at hh
  refine R_seq ?_
  refine R_region ?_
  refine J_assign rfl rfl rfl ?_
  refine J_assign rfl rfl rfl ?_
  refine J_nil ?_
  refine E_then ?_
  refine R_ret ?_
  refine E_then_ret ?_
  rotate_left
  simp only [decide_eq_true_eq, decide_eq_false_iff_not, Bool.and_eq_true, Bool.or_eq_true, Bool.not_eq_true', Bool.not_eq_false', beq_iff_eq, bne_iff_ne, beq_eq_false_iff_ne, bne_eq_false_iff_eq, ne_eq, ge_iff_le, gt_iff_lt, Int.not_le, Int.not_lt, Bool.and_eq_false_iff, Bool.or_eq_false_iff, Decidable.not_not] at hh
  exfalso; omega
  all_goals first
    | (apply E_retP Tryz.results38
       · exact Res.tmp rfl (Res.tmp rfl (Res.nil))
       · (repeat (with_reducible exact Gives.refl))
       rfl)
    | (exfalso; omega)
theorem extent_Load0 (a : Int) (ha : -9223372036854775808 ≤ a ∧ a < 9223372036854775808) (F : List HP) : Fn Tryz.prog 38 [.pointer none, .int .i64 a, .int .i64 2] F (Pst (.tuple #[.string (S []), .int .i64 10]) F) := by
  refine Fn_enter Tryz.func38 rfl Tryz.ntmps38 rfl ?_
  refine R_seq ?_
  refine R_region ?_
  refine J_assign rfl rfl rfl ?_
  refine J_assign rfl rfl rfl ?_
  refine J_nil ?_
  refine E_then ?_
  refine R_seq ?_
  refine R_seq ?_
  refine R_region ?_
  refine J_move rfl rfl rfl ?_
  refine J_cmp rfl rfl rfl rfl rfl ?_
  refine J_move rfl rfl rfl ?_
  refine J_guard rfl rfl rfl ?_
  refine J_move rfl rfl rfl ?_
  refine J_guard rfl rfl rfl ?_
  refine J_cmp rfl rfl rfl rfl rfl ?_
  refine J_pick_false rfl rfl rfl rfl ?_
  refine J_nil3 ?_
  refine E_then ?_
  refine R_cond_false rfl ?_
  refine R_skip ?_
  refine E_then ?_
  refine R_seq ?_
  refine R_region ?_
  refine J_alloc rfl rfl ?_; intro
  refine J_nil ?_
  refine E_then ?_
  refine R_seq ?_
  refine R_seq ?_
  refine R_region ?_
  refine J_move rfl rfl rfl ?_
  refine J_move rfl rfl rfl ?_
  refine J_nil2 ?_
  refine E_then ?_
  refine R_block ?_
  refine R_loop (X := Unit) (fun _ => [(19, .int .i64 0), (18, .int .i64 2), (0, .pointer none), (1, .int .i64 a)]) (fun _ => F) (fun _ => 0) () (by exact sub_cons rfl (sub_cons rfl (sub_cons rfl (sub_cons rfl sub_nil)))) (by exact Gives.drop Gives.refl) ?_
  rintro ⟨⟩
  refine R_seq ?_
  refine R_region ?_
  refine J_cmp rfl rfl rfl rfl rfl ?_
  refine J_nil1 ?_
  refine E_then ?_
  refine R_seq ?_
  refine R_cond_true rfl ?_
  refine R_skip ?_
  refine E_then ?_
  refine R_seq ?_
  refine R_block ?_
  refine R_seq ?_
  refine R_region ?_
  refine J_move rfl rfl rfl ?_
  refine J_assign rfl rfl rfl ?_
  refine J_nil1 ?_
  refine E_then ?_
  refine R_seq ?_
  refine R_region ?_
  refine J_move rfl rfl rfl ?_
  refine J_move rfl rfl rfl ?_
  refine J_move rfl rfl rfl ?_
  refine J_ari64 rfl rfl rfl (by omega) rfl rfl ?_
  refine J_callr rfl (wal_Read0 _ _) (by exact Gives.refl) rfl rfl ?_
  refine J_move rfl rfl rfl ?_
  refine J_extract rfl rfl rfl rfl ?_
  refine J_extract rfl rfl rfl rfl ?_
  refine J_assign rfl rfl rfl ?_
  refine J_assign rfl rfl rfl ?_
  refine J_nil3 ?_
  refine E_then ?_
  refine R_seq ?_
  refine R_seq ?_
  refine R_region ?_
  refine J_move rfl rfl rfl ?_
  refine J_cmp rfl rfl rfl rfl rfl ?_
  refine J_nil2 ?_
  refine E_then ?_
  refine R_cond_true rfl ?_
  refine R_seq ?_
  refine R_region ?_
  refine J_move rfl rfl rfl ?_
  refine J_assign rfl rfl rfl ?_
  refine J_assign rfl rfl rfl ?_
  refine J_nil1 ?_
  refine E_then ?_
  refine R_ret ?_
  refine E_then_ret ?_
  refine E_block_ret ?_
  refine E_then_ret ?_
  refine E_then_ret ?_
  refine E_block_ret ?_
  refine E_then_ret ?_
  apply E_retP Tryz.results38
  · exact Res.tmp rfl (Res.tmp rfl (Res.nil))
  · exact Gives.refl
  rfl
end Go.Proofs.Sol

/- Extents. -/
namespace Go.Proofs.Sol
open Go Go.Proofs
set_option maxRecDepth 100000
set_option maxHeartbeats 4000000
set_option linter.unusedVariables false
set_option linter.unusedSimpArgs false
attribute [local irreducible] R J JW E D Fn Y clf mpI own Sat Exit.then Exit.inBlock bodyPost bodyPostM Code.wpIn wpL
theorem extent_Read (b : Nat) (W : Wl) (ok : WlOk W) (c : Cfg) (n : Int) (h : chk c n c.E = 0) (hk : W.k < 10000000) (F : List HP) :
    Fn Tryz.prog 39 [.pointer (some ⟨b, 0, none⟩), cfgV c, .int .i64 n] (wal b W :: F) (Pst (.tuple #[.string (S (if W.ldE (pExt c + n * 2) 2 = 0 then W.ld (pExt c + n * 2) 2 else [])), .int .i64 (W.ldE (pExt c + n * 2) 2)]) (wal b { W with k := W.k + 2 } :: F)) := by
  obtain ⟨hc, h1, h2⟩ := chk_ok h
  have h3 := cfgOk_spec hc
  have e : pExt c = 2 + (c.E + 1) / 2 := rfl
  refine Fn_enter Tryz.func39 rfl Tryz.ntmps39 rfl ?_
  refine R_seq ?_
  refine R_region ?_
  refine J_boxA rfl rfl rfl ?_; intro
  refine J_assign rfl rfl rfl ?_
  refine J_assign rfl rfl rfl ?_
  refine J_nil ?_
  refine E_then ?_
  refine R_seq ?_
  refine R_region ?_
  refine J_loadA rfl rfl rfl rfl ?_
  refine J_move rfl rfl rfl ?_
  refine J_callr rfl (layout_Extent c n _) (by exact Gives.refl) rfl rfl ?_
  rw [h, if_pos rfl]
  refine J_move rfl rfl rfl ?_
  refine J_extract rfl rfl rfl rfl ?_
  refine J_extract rfl rfl rfl rfl ?_
  refine J_assign rfl rfl rfl ?_
  refine J_assign rfl rfl rfl ?_
  refine J_nil3 ?_
  refine E_then ?_
  refine R_seq ?_
  refine R_seq ?_
  refine R_region ?_
  refine J_move rfl rfl rfl ?_
  refine J_cmp rfl rfl rfl rfl rfl ?_
  refine J_nil2 ?_
  refine E_then ?_
  refine R_cond_false rfl ?_
  refine R_skip ?_
  refine E_then ?_
  refine R_seq ?_
  refine R_region ?_
  refine J_move rfl rfl rfl ?_
  refine J_move rfl rfl rfl ?_
  refine J_callr rfl (extent_Load b W ok (pExt c + n * 2) (by omega) 2 (by omega) hk _) (by exact Gives.last (Take.next Take.here)) rfl rfl ?_
  refine J_extract rfl rfl rfl rfl ?_
  refine J_extract rfl rfl rfl rfl ?_
  refine J_assign rfl rfl rfl ?_
  refine J_assign rfl rfl rfl ?_
  refine J_nil3 ?_
  refine E_then ?_
  refine R_ret ?_
  apply E_retP Tryz.results39
  · exact Res.tmp rfl (Res.tmp rfl (Res.nil))
  · exact Gives.cons Take.here (Gives.drop Gives.refl)
  rfl
theorem extent_Read0 (c : Cfg) (n : Int) (F : List HP) : Fn Tryz.prog 39 [.pointer none, cfgV c, .int .i64 n] F (Pst (.tuple #[.string (S []), .int .i64 (if chk c n c.E = 0 then 10 else chk c n c.E)]) F) := by
  by_cases h : chk c n c.E = 0
  · obtain ⟨hc, h1, h2⟩ := chk_ok h
    have h3 := cfgOk_spec hc
    have e : pExt c = 2 + (c.E + 1) / 2 := rfl
    refine Fn_enter Tryz.func39 rfl Tryz.ntmps39 rfl ?_
    refine R_seq ?_
    refine R_region ?_
    refine J_boxA rfl rfl rfl ?_; intro
    refine J_assign rfl rfl rfl ?_
    refine J_assign rfl rfl rfl ?_
    refine J_nil ?_
    refine E_then ?_
    refine R_seq ?_
    refine R_region ?_
    refine J_loadA rfl rfl rfl rfl ?_
    refine J_move rfl rfl rfl ?_
    refine J_callr rfl (layout_Extent c n _) (by exact Gives.refl) rfl rfl ?_
    rw [h, if_pos rfl, if_pos rfl]
    refine J_move rfl rfl rfl ?_
    refine J_extract rfl rfl rfl rfl ?_
    refine J_extract rfl rfl rfl rfl ?_
    refine J_assign rfl rfl rfl ?_
    refine J_assign rfl rfl rfl ?_
    refine J_nil3 ?_
    refine E_then ?_
    refine R_seq ?_
    refine R_seq ?_
    refine R_region ?_
    refine J_move rfl rfl rfl ?_
    refine J_cmp rfl rfl rfl rfl rfl ?_
    refine J_nil2 ?_
    refine E_then ?_
    refine R_cond_false rfl ?_
    refine R_skip ?_
    refine E_then ?_
    refine R_seq ?_
    refine R_region ?_
    refine J_move rfl rfl rfl ?_
    refine J_move rfl rfl rfl ?_
    refine J_callr rfl (extent_Load0 (pExt c + n * 2) (by omega) _) (by exact Gives.refl) rfl rfl ?_
    refine J_extract rfl rfl rfl rfl ?_
    refine J_extract rfl rfl rfl rfl ?_
    refine J_assign rfl rfl rfl ?_
    refine J_assign rfl rfl rfl ?_
    refine J_nil3 ?_
    refine E_then ?_
    refine R_ret ?_
    apply E_retP Tryz.results39
    · exact Res.tmp rfl (Res.tmp rfl (Res.nil))
    · exact Gives.drop Gives.refl
    rfl
  · have h' := chk_no h
    rw [h', if_neg (by omega)]
    refine Fn_enter Tryz.func39 rfl Tryz.ntmps39 rfl ?_
    refine R_seq ?_
    refine R_region ?_
    refine J_boxA rfl rfl rfl ?_; intro
    refine J_assign rfl rfl rfl ?_
    refine J_assign rfl rfl rfl ?_
    refine J_nil ?_
    refine E_then ?_
    refine R_seq ?_
    refine R_region ?_
    refine J_loadA rfl rfl rfl rfl ?_
    refine J_move rfl rfl rfl ?_
    refine J_callr rfl (layout_Extent c n _) (by exact Gives.refl) rfl rfl ?_
    rw [h']
    refine J_move rfl rfl rfl ?_
    refine J_extract rfl rfl rfl rfl ?_
    refine J_extract rfl rfl rfl rfl ?_
    refine J_assign rfl rfl rfl ?_
    refine J_assign rfl rfl rfl ?_
    refine J_nil3 ?_
    refine E_then ?_
    refine R_seq ?_
    refine R_seq ?_
    refine R_region ?_
    refine J_move rfl rfl rfl ?_
    refine J_cmp rfl rfl rfl rfl rfl ?_
    refine J_nil2 ?_
    refine E_then ?_
    refine R_cond_true rfl ?_
    refine R_seq ?_
    refine R_region ?_
    refine J_move rfl rfl rfl ?_
    refine J_assign rfl rfl rfl ?_
    refine J_assign rfl rfl rfl ?_
    refine J_nil1 ?_
    refine E_then ?_
    refine R_ret ?_
    refine E_then_ret ?_
    apply E_retP Tryz.results39
    · exact Res.tmp rfl (Res.tmp rfl (Res.nil))
    · exact Gives.drop Gives.refl
    rfl
theorem extent_Stage (b : Nat) (W : Wl) (ok : WlOk W) (c : Cfg) (n : Int) (h : chk c n c.E = 0) (data : Bytes) (hd : data.length = 128) (F : List HP) :
    Fn Tryz.prog 41 [.pointer (some ⟨b, 0, none⟩), cfgV c, .int .i64 n, .string (S data)] (wal b W :: F) (Pst (.int .i64 (W.saveE (pExt c + n * 2) (chunks data 2))) (wal b (W.save (pExt c + n * 2) (chunks data 2)) :: F)) := by
  obtain ⟨hc, h1, h2⟩ := chk_ok h
  have h3 := cfgOk_spec hc
  have e : pExt c = 2 + (c.E + 1) / 2 := rfl
  refine Fn_enter Tryz.func41 rfl Tryz.ntmps41 rfl ?_
  refine R_seq ?_
  refine R_region ?_
  refine J_boxA rfl rfl rfl ?_; intro
  refine J_assign rfl rfl rfl ?_
  refine J_nil ?_
  refine E_then ?_
  refine R_seq ?_
  refine R_region ?_
  refine J_loadA rfl rfl rfl rfl ?_
  refine J_move rfl rfl rfl ?_
  refine J_callr rfl (layout_Extent c n _) (by exact Gives.refl) rfl rfl ?_
  rw [h, if_pos rfl]
  refine J_move rfl rfl rfl ?_
  refine J_extract rfl rfl rfl rfl ?_
  refine J_extract rfl rfl rfl rfl ?_
  refine J_assign rfl rfl rfl ?_
  refine J_assign rfl rfl rfl ?_
  refine J_nil3 ?_
  refine E_then ?_
  refine R_seq ?_
  refine R_block ?_
  refine R_seq ?_
  refine R_region ?_
  refine J_move rfl rfl rfl ?_
  refine J_cmp rfl rfl rfl rfl rfl ?_
  refine J_assign rfl rfl rfl ?_
  refine J_nil2 ?_
  refine E_then ?_
  refine R_cond_false rfl ?_
  refine R_seq ?_
  refine R_region ?_
  refine J_move rfl rfl rfl ?_
  refine J_len_str rfl rfl rfl ?_
  refine J_cmp rfl rfl rfl rfl rfl ?_
  refine J_assign rfl rfl rfl ?_
  refine J_nil3 ?_
  refine E_then ?_
  refine R_cond rfl (fun hh => ?_) (fun hh => ?_)
  simp only [decide_eq_true_eq, decide_eq_false_iff_not, Bool.and_eq_true, Bool.or_eq_true, Bool.not_eq_true', Bool.not_eq_false', beq_iff_eq, bne_iff_ne, beq_eq_false_iff_ne, bne_eq_false_iff_eq, ne_eq, ge_iff_le, gt_iff_lt, Int.not_le, Int.not_lt, Bool.and_eq_false_iff, Bool.or_eq_false_iff, Decidable.not_not] at hh
  exfalso; omega
  simp only [decide_eq_true_eq, decide_eq_false_iff_not, Bool.and_eq_true, Bool.or_eq_true, Bool.not_eq_true', Bool.not_eq_false', beq_iff_eq, bne_iff_ne, beq_eq_false_iff_ne, bne_eq_false_iff_eq, ne_eq, ge_iff_le, gt_iff_lt, Int.not_le, Int.not_lt, Bool.and_eq_false_iff, Bool.or_eq_false_iff, Decidable.not_not] at hh
  refine R_skip ?_
  refine E_block_normal ?_
  refine E_then ?_
  refine R_seq ?_
  refine R_region ?_
  refine J_move rfl rfl rfl ?_
  refine J_move rfl rfl rfl ?_
  refine J_move rfl rfl rfl ?_
  refine J_callr rfl (extent_Save b W ok (pExt c + n * 2) data (by omega) (by omega) 2 (by omega) (by omega) _) (by exact Gives.last (Take.next Take.here)) rfl rfl ?_
  refine J_assign rfl rfl rfl ?_
  refine J_nil3 ?_
  refine E_then ?_
  refine R_ret ?_
  apply E_retP Tryz.results41
  · exact Res.tmp rfl (Res.nil)
  · exact Gives.cons Take.here (Gives.drop Gives.refl)
  rfl
theorem extent_SaveN (a : Int) (data : Bytes) (hd : data.length = 128) (ha : 0 ≤ a ∧ a < 1000) (F : List HP) : Fn Tryz.prog 36 [.pointer none, .int .i64 a, .string (S data)] F (Pst (.int .i64 10) F) := by
  have e1 : (data.length : Int) / 64 = 2 := by omega
  refine Fn_enter Tryz.func36 rfl Tryz.ntmps36 rfl ?_
  refine R_seq ?_
  refine R_region ?_
  refine J_assign rfl rfl rfl ?_
  refine J_nil ?_
  refine E_then ?_
  refine R_seq ?_
  refine R_region ?_
  refine J_move rfl rfl rfl ?_
  refine J_len_str rfl rfl rfl ?_
  refine J_quo rfl rfl (by omega) (by omega) rfl rfl ?_
  refine J_assign rfl rfl rfl ?_
  refine J_nil3 ?_
  refine E_then ?_
  refine R_seq ?_
  refine R_seq ?_
  refine R_region ?_
  refine J_move rfl rfl rfl ?_
  refine J_cmp rfl rfl rfl rfl rfl ?_
  refine J_move rfl rfl rfl ?_
  refine J_guard_split rfl rfl (fun hh => ?_) (fun hh => ?_)
  simp only [decide_eq_true_eq, decide_eq_false_iff_not, Bool.and_eq_true, Bool.or_eq_true, Bool.not_eq_true', Bool.not_eq_false', beq_iff_eq, bne_iff_ne, beq_eq_false_iff_ne, bne_eq_false_iff_eq, ne_eq, ge_iff_le, gt_iff_lt, Int.not_le, Int.not_lt, Bool.and_eq_false_iff, Bool.or_eq_false_iff, Decidable.not_not] at hh
  exfalso; omega
  simp only [decide_eq_true_eq, decide_eq_false_iff_not, Bool.and_eq_true, Bool.or_eq_true, Bool.not_eq_true', Bool.not_eq_false', beq_iff_eq, bne_iff_ne, beq_eq_false_iff_ne, bne_eq_false_iff_eq, ne_eq, ge_iff_le, gt_iff_lt, Int.not_le, Int.not_lt, Bool.and_eq_false_iff, Bool.or_eq_false_iff, Decidable.not_not] at hh
  refine J_guard rfl rfl rfl ?_
  refine J_move rfl rfl rfl ?_
  refine J_guard rfl rfl rfl ?_
  refine J_cmp rfl rfl rfl rfl rfl ?_
  refine J_pick_false rfl rfl rfl rfl ?_
  refine J_move rfl rfl rfl ?_
  refine J_guard_split rfl rfl (fun hh => ?_) (fun hh => ?_)
  simp only [decide_eq_true_eq, decide_eq_false_iff_not, Bool.and_eq_true, Bool.or_eq_true, Bool.not_eq_true', Bool.not_eq_false', beq_iff_eq, bne_iff_ne, beq_eq_false_iff_ne, bne_eq_false_iff_eq, ne_eq, ge_iff_le, gt_iff_lt, Int.not_le, Int.not_lt, Bool.and_eq_false_iff, Bool.or_eq_false_iff, Decidable.not_not] at hh
  exfalso; omega
  simp only [decide_eq_true_eq, decide_eq_false_iff_not, Bool.and_eq_true, Bool.or_eq_true, Bool.not_eq_true', Bool.not_eq_false', beq_iff_eq, bne_iff_ne, beq_eq_false_iff_ne, bne_eq_false_iff_eq, ne_eq, ge_iff_le, gt_iff_lt, Int.not_le, Int.not_lt, Bool.and_eq_false_iff, Bool.or_eq_false_iff, Decidable.not_not] at hh
  refine J_guard rfl rfl rfl ?_
  refine J_move rfl rfl rfl ?_
  refine J_guard rfl rfl rfl ?_
  refine J_ari64 rfl rfl rfl (by omega) rfl rfl ?_
  refine J_guard rfl rfl rfl ?_
  refine J_move rfl rfl rfl ?_
  refine J_guard rfl rfl rfl ?_
  refine J_len_str rfl rfl rfl ?_
  refine J_guard rfl rfl rfl ?_
  refine J_cmp rfl rfl rfl rfl rfl ?_
  refine J_pick_false rfl rfl rfl rfl ?_
  refine J_nil3 ?_
  refine E_then ?_
  refine R_cond rfl (fun hh => ?_) (fun hh => ?_)
  simp only [decide_eq_true_eq, decide_eq_false_iff_not, Bool.and_eq_true, Bool.or_eq_true, Bool.not_eq_true', Bool.not_eq_false', beq_iff_eq, bne_iff_ne, beq_eq_false_iff_ne, bne_eq_false_iff_eq, ne_eq, ge_iff_le, gt_iff_lt, Int.not_le, Int.not_lt, Bool.and_eq_false_iff, Bool.or_eq_false_iff, Decidable.not_not] at hh
  exfalso; omega
  simp only [decide_eq_true_eq, decide_eq_false_iff_not, Bool.and_eq_true, Bool.or_eq_true, Bool.not_eq_true', Bool.not_eq_false', beq_iff_eq, bne_iff_ne, beq_eq_false_iff_ne, bne_eq_false_iff_eq, ne_eq, ge_iff_le, gt_iff_lt, Int.not_le, Int.not_lt, Bool.and_eq_false_iff, Bool.or_eq_false_iff, Decidable.not_not] at hh
  refine R_skip ?_
  refine E_then ?_
  refine R_seq ?_
  refine R_seq ?_
  refine R_region ?_
  refine J_move rfl rfl rfl ?_
  refine J_move rfl rfl rfl ?_
  refine J_nil2 ?_
  refine E_then ?_
  refine R_block ?_
  rw [e1]
  skip
  refine R_loop (X := Unit) (fun _ => [(27, .int .i64 0), (26, .int .i64 2), (0, .pointer none), (1, .int .i64 a), (2, .string (S data))]) (fun _ => F) (fun _ => 0) () (by exact sub_cons rfl (sub_cons rfl (sub_cons rfl (sub_cons rfl (sub_cons rfl sub_nil))))) (by exact Gives.refl) ?_
  rintro ⟨⟩
  have e2 : (data.drop ((0 : Int) * 64).toNat).length = data.length - ((0 : Int) * 64).toNat := List.length_drop
  refine R_seq ?_
  refine R_region ?_
  refine J_cmp rfl rfl rfl rfl rfl ?_
  refine J_nil1 ?_
  refine E_then ?_
  refine R_seq ?_
  refine R_cond_true rfl ?_
  refine R_skip ?_
  refine E_then ?_
  refine R_seq ?_
  refine R_block ?_
  refine R_seq ?_
  refine R_region ?_
  refine J_move rfl rfl rfl ?_
  refine J_assign rfl rfl rfl ?_
  refine J_nil1 ?_
  refine E_then ?_
  refine R_seq ?_
  refine R_region ?_
  refine J_move rfl rfl rfl ?_
  refine J_move rfl rfl rfl ?_
  refine J_move rfl rfl rfl ?_
  refine J_ari64 rfl rfl rfl (by omega) rfl rfl ?_
  refine J_move rfl rfl rfl ?_
  refine J_move rfl rfl rfl ?_
  refine J_ari64 rfl rfl rfl (by omega) rfl rfl ?_
  refine J_slice_lo rfl rfl (by omega) (by omega) rfl rfl ?_
  refine J_slice_hi rfl rfl (by omega) (by omega) rfl rfl ?_
  refine J_callr rfl (wal_Stage0 _ _ _) (by exact Gives.refl) rfl rfl ?_
  refine J_assign rfl rfl rfl ?_
  refine J_nil3 ?_
  refine E_then ?_
  refine R_seq ?_
  refine R_region ?_
  refine J_move rfl rfl rfl ?_
  refine J_cmp rfl rfl rfl rfl rfl ?_
  refine J_nil2 ?_
  refine E_then ?_
  refine R_cond_true rfl ?_
  refine R_seq ?_
  refine R_region ?_
  refine J_move rfl rfl rfl ?_
  refine J_assign rfl rfl rfl ?_
  refine J_nil1 ?_
  refine E_then ?_
  refine R_ret ?_
  refine E_block_ret ?_
  refine E_then_ret ?_
  refine E_then_ret ?_
  refine E_block_ret ?_
  refine E_then_ret ?_
  apply E_retP Tryz.results36
  · exact Res.tmp rfl (Res.nil)
  · exact Gives.refl
  rfl
theorem extent_Stage0 (c : Cfg) (n : Int) (data : Bytes) (F : List HP) :
    Fn Tryz.prog 41 [.pointer none, cfgV c, .int .i64 n, .string (S data)] F (Pst (.int .i64 (if chk c n c.E = 0 then (if data.length = 128 then 10 else 12) else chk c n c.E)) F) := by
  by_cases h : chk c n c.E = 0
  · obtain ⟨hc, h1, h2⟩ := chk_ok h
    have h3 := cfgOk_spec hc
    have e : pExt c = 2 + (c.E + 1) / 2 := rfl
    refine Fn_enter Tryz.func41 rfl Tryz.ntmps41 rfl ?_
    refine R_seq ?_
    refine R_region ?_
    refine J_boxA rfl rfl rfl ?_; intro
    refine J_assign rfl rfl rfl ?_
    refine J_nil ?_
    refine E_then ?_
    refine R_seq ?_
    refine R_region ?_
    refine J_loadA rfl rfl rfl rfl ?_
    refine J_move rfl rfl rfl ?_
    refine J_callr rfl (layout_Extent c n _) (by exact Gives.refl) rfl rfl ?_
    rw [h, if_pos rfl, if_pos rfl]
    refine J_move rfl rfl rfl ?_
    refine J_extract rfl rfl rfl rfl ?_
    refine J_extract rfl rfl rfl rfl ?_
    refine J_assign rfl rfl rfl ?_
    refine J_assign rfl rfl rfl ?_
    refine J_nil3 ?_
    refine E_then ?_
    refine R_seq ?_
    refine R_block ?_
    refine R_seq ?_
    refine R_region ?_
    refine J_move rfl rfl rfl ?_
    refine J_cmp rfl rfl rfl rfl rfl ?_
    refine J_assign rfl rfl rfl ?_
    refine J_nil2 ?_
    refine E_then ?_
    refine R_cond_false rfl ?_
    refine R_seq ?_
    refine R_region ?_
    refine J_move rfl rfl rfl ?_
    refine J_len_str rfl rfl rfl ?_
    refine J_cmp rfl rfl rfl rfl rfl ?_
    refine J_assign rfl rfl rfl ?_
    refine J_nil3 ?_
    refine E_then ?_
    refine R_cond rfl (fun hh => ?_) (fun hh => ?_)
    simp only [decide_eq_true_eq, decide_eq_false_iff_not, Bool.and_eq_true, Bool.or_eq_true, Bool.not_eq_true', Bool.not_eq_false', beq_iff_eq, bne_iff_ne, beq_eq_false_iff_ne, bne_eq_false_iff_eq, ne_eq, ge_iff_le, gt_iff_lt, Int.not_le, Int.not_lt, Bool.and_eq_false_iff, Bool.or_eq_false_iff, Decidable.not_not] at hh
    refine R_seq ?_
    refine R_region ?_
    refine J_assign rfl rfl rfl ?_
    refine J_nil ?_
    refine E_then ?_
    refine R_ret ?_
    refine E_block_ret ?_
    refine E_then_ret ?_
    rotate_left
    simp only [decide_eq_true_eq, decide_eq_false_iff_not, Bool.and_eq_true, Bool.or_eq_true, Bool.not_eq_true', Bool.not_eq_false', beq_iff_eq, bne_iff_ne, beq_eq_false_iff_ne, bne_eq_false_iff_eq, ne_eq, ge_iff_le, gt_iff_lt, Int.not_le, Int.not_lt, Bool.and_eq_false_iff, Bool.or_eq_false_iff, Decidable.not_not] at hh
    refine R_skip ?_
    refine E_block_normal ?_
    refine E_then ?_
    refine R_seq ?_
    refine R_region ?_
    refine J_move rfl rfl rfl ?_
    refine J_move rfl rfl rfl ?_
    refine J_move rfl rfl rfl ?_
    rotate_left
    · rw [if_neg (by omega)]
      apply E_retP Tryz.results41
      · exact Res.tmp rfl (Res.nil)
      · exact Gives.drop Gives.refl
      rfl
    · rw [if_pos (by omega)]
      refine J_callr rfl (extent_SaveN (pExt c + n * 2) data (by omega) (by omega) _) (by exact Gives.refl) rfl rfl ?_
      refine J_assign rfl rfl rfl ?_
      refine J_nil3 ?_
      refine E_then ?_
      refine R_ret ?_
      apply E_retP Tryz.results41
      · exact Res.tmp rfl (Res.nil)
      · exact Gives.drop Gives.refl
      rfl
  · have h' := chk_no h
    rw [h', if_neg (by omega)]
    refine Fn_enter Tryz.func41 rfl Tryz.ntmps41 rfl ?_
    refine R_seq ?_
    refine R_region ?_
    refine J_boxA rfl rfl rfl ?_; intro
    refine J_assign rfl rfl rfl ?_
    refine J_nil ?_
    refine E_then ?_
    refine R_seq ?_
    refine R_region ?_
    refine J_loadA rfl rfl rfl rfl ?_
    refine J_move rfl rfl rfl ?_
    refine J_callr rfl (layout_Extent c n _) (by exact Gives.refl) rfl rfl ?_
    rw [h']
    refine J_move rfl rfl rfl ?_
    refine J_extract rfl rfl rfl rfl ?_
    refine J_extract rfl rfl rfl rfl ?_
    refine J_assign rfl rfl rfl ?_
    refine J_assign rfl rfl rfl ?_
    refine J_nil3 ?_
    refine E_then ?_
    refine R_seq ?_
    refine R_block ?_
    refine R_seq ?_
    refine R_region ?_
    refine J_move rfl rfl rfl ?_
    refine J_cmp rfl rfl rfl rfl rfl ?_
    refine J_assign rfl rfl rfl ?_
    refine J_nil2 ?_
    refine E_then ?_
    refine R_cond_true rfl ?_
    refine R_seq ?_
    refine R_region ?_
    refine J_move rfl rfl rfl ?_
    refine J_assign rfl rfl rfl ?_
    refine J_nil1 ?_
    refine E_then ?_
    refine R_ret ?_
    refine E_block_ret ?_
    refine E_then_ret ?_
    apply E_retP Tryz.results41
    · exact Res.tmp rfl (Res.nil)
    · exact Gives.drop Gives.refl
    rfl
end Go.Proofs.Sol

/- A volume's disk begun; what was staged, committed. -/
namespace Go.Proofs.Sol
open Go Go.Proofs
set_option maxRecDepth 100000
set_option maxHeartbeats 4000000
set_option linter.unusedVariables false
set_option linter.unusedSimpArgs false
attribute [local irreducible] R J JW E D Fn Y clf mpI own Sat Exit.then Exit.inBlock bodyPost bodyPostM Code.wpIn wpL
theorem parts_le {c : Cfg} (hc : cfgOk c = true) : 0 ≤ pLog c ∧ pLog c + c.L = pEnd c ∧ pEnd c ≤ 500 := by
  have h3 := cfgOk_spec hc
  unfold pEnd pLog pSlot pExt
  omega
theorem law16_Begun (c : Cfg) (hc : cfgOk c = true) (F : List HP) : Fn Tryz.prog 35 [cfgV c] F (fun v w => ∃ d b, v = .tuple #[.pointer (some ⟨d, 0, none⟩), .pointer (some ⟨b, 0, none⟩)] ∧ Sat w (wal b (bW d (pEnd c).toNat (pLog c) c.L) :: F)) := by
  have h3 := cfgOk_spec hc
  have hp := parts_le hc
  have hE : cfgE c = 0 := by simp [cfgE, hc]
  have hs : pz c (pEnd c) = ((pEnd c).toNat : Int) := by simp only [pz, hc, if_true]; omega
  have hlg : pz c (pLog c) = pLog c := by simp only [pz, hc, if_true]
  have hmay : walMay (List.replicate (pEnd c).toNat zs64).length (pLog c) c.L = true := by simp [walMay, insB]; omega
  refine Fn_enter Tryz.func35 rfl Tryz.ntmps35 rfl ?_
  refine R_seq ?_
  refine R_region ?_
  refine J_boxA rfl rfl rfl ?_; intro
  refine J_assign rfl rfl rfl ?_
  refine J_assign rfl rfl rfl ?_
  refine J_nil ?_
  refine E_then ?_
  refine R_seq ?_
  refine R_region ?_
  refine J_loadA rfl rfl rfl rfl ?_
  rename_i t1
  refine J_callr rfl (layout_Sectors c _) (by exact Gives.refl) rfl rfl ?_
  rw [hs]
  refine J_callm rfl (diskv_New (pEnd c).toNat (by omega) _) Gives.refl rfl rfl ?_
  rintro v w ⟨d, rfl, s0⟩
  refine JW.of s0 ?_
  refine J_assign rfl rfl rfl ?_
  refine J_nil3 ?_
  refine E_then ?_
  refine R_seq ?_
  refine R_seq ?_
  refine R_draw ([cl t1 50 [.int .i64 c.E, .int .i64 c.S, .int .i64 c.L]]) [9] (by kernel_rfl) ?_
  (refine D_look (i := 0) rfl (by kernel_rfl) (by exact NP_then (NP_then NP_body)) (by exact Gives.cons (Take.next Take.here) Gives.nil) (by exact Y_loadA rfl rfl) rfl rfl ?_)
  refine D_try1 (i := 1) (by kernel_rfl) rfl ?_
  refine J_callr rfl (layout_Check c _) (by exact Gives.refl) rfl rfl ?_
  rw [hE]
  refine D_next (by exact Gives.cons (Take.next Take.here) Gives.nil) ?_
  (refine D_lookP (i := 2) rfl (by kernel_rfl) (by exact NP_then (NP_then NP_body)) (by exact Y_cmpF rfl rfl rfl (by first | rfl | (simp only [decide_eq_false_iff_not, ge_iff_le, gt_iff_lt, beq_eq_false_iff_ne, bne_eq_false_iff_eq, ne_eq]; first | done | omega))) rfl rfl ?_)
  (refine D_lookP (i := 3) rfl (by kernel_rfl) (by exact NP_then (NP_then NP_body)) (by exact Y_move rfl) rfl rfl ?_)
  (first | refine D_lookGP (i := 4) rfl (by kernel_rfl) (by exact NP_then (NP_then NP_body)) rfl rfl rfl (by exact Y_move rfl) rfl rfl ?_ | refine D_skipP (i := 4) rfl (by kernel_rfl) (by skip) rfl rfl rfl rfl rfl rfl ?_ | refine D_skipUP (i := 4) rfl (by kernel_rfl) (by skip) rfl rfl rfl rfl rfl ?_)
  (first | refine D_lookG (i := 5) rfl (by kernel_rfl) (by exact NP_then (NP_then NP_body)) (by exact Gives.cons (Take.next Take.here) Gives.nil) rfl rfl rfl (by exact Y_loadA rfl rfl) rfl rfl ?_ | refine D_skipP (i := 5) rfl (by kernel_rfl) (by skip) rfl rfl rfl rfl rfl rfl ?_ | refine D_skipUP (i := 5) rfl (by kernel_rfl) (by skip) rfl rfl rfl rfl rfl ?_)
  (first | refine D_lookGP (i := 7) rfl (by kernel_rfl) (by exact NP_then (NP_then NP_body)) rfl rfl rfl (by exact Y_fieldAddr0 rfl) rfl rfl ?_ | refine D_skipP (i := 7) rfl (by kernel_rfl) (by skip) rfl rfl rfl rfl rfl rfl ?_ | refine D_skipUP (i := 7) rfl (by kernel_rfl) (by skip) rfl rfl rfl rfl rfl ?_)
  (first | refine D_lookG (i := 8) rfl (by kernel_rfl) (by exact NP_then (NP_then NP_body)) (by exact Gives.cons (Take.next Take.here) Gives.nil) rfl rfl rfl (by exact Y_load rfl rfl) rfl rfl ?_ | refine D_skipP (i := 8) rfl (by kernel_rfl) (by skip) rfl rfl rfl rfl rfl rfl ?_ | refine D_skipUP (i := 8) rfl (by kernel_rfl) (by skip) rfl rfl rfl rfl rfl ?_)
  refine D_try1 (i := 6) (by kernel_rfl) rfl ?_
  refine J_guard rfl rfl rfl ?_
  refine J_callr rfl (layout_Log c _) (by exact Gives.refl) rfl rfl ?_
  rw [hlg]
  refine D_next (by exact Gives.cons (Take.next Take.here) Gives.nil) ?_
  refine D_try1 (i := 9) (by kernel_rfl) rfl ?_
  refine J_guard rfl rfl rfl ?_
  refine J_callr rfl (wal_Format d (List.replicate (pEnd c).toNat zs64) 0 (pLog c) c.L hmay (by simp; omega) (by omega) _) (by exact Gives.refl) rfl rfl ?_
  rw [fmtV_zero]
  refine D_last (by kernel_rfl) ?_
  (first | refine D_lookGP (i := 10) rfl (by kernel_rfl) (by exact NP_then (NP_then NP_body)) rfl rfl rfl (by exact Y_cmpF rfl rfl rfl (by first | rfl | (simp only [decide_eq_false_iff_not, ge_iff_le, gt_iff_lt, beq_eq_false_iff_ne, bne_eq_false_iff_eq, ne_eq]; first | done | omega))) rfl rfl ?_ | refine D_skipP (i := 10) rfl (by kernel_rfl) (by skip) rfl rfl rfl rfl rfl rfl ?_ | refine D_skipUP (i := 10) rfl (by kernel_rfl) (by skip) rfl rfl rfl rfl rfl ?_)
  (refine D_lookP (i := 11) rfl (by kernel_rfl) (by exact NP_then (NP_then NP_body)) (by exact Y_pick_false rfl rfl) rfl rfl ?_)
  (first | refine D_end1 (by kernel_rfl) ?_ | refine D_end (by kernel_rfl) ?_)
  refine E_then ?_
  refine R_cond_false rfl ?_
  refine R_skip ?_
  refine E_then ?_
  refine R_seq ?_
  refine R_draw ([cl t1 50 [.int .i64 c.E, .int .i64 c.S, .int .i64 c.L]]) [5, 9, 10] (by kernel_rfl) ?_
  (refine D_lookP (i := 0) rfl (by kernel_rfl) (by exact NP_then NP_body) (by exact Y_move rfl) rfl rfl ?_)
  (refine D_look (i := 1) rfl (by kernel_rfl) (by exact NP_then NP_body) (by exact Gives.cons (Take.next Take.here) Gives.nil) (by exact Y_loadA rfl rfl) rfl rfl ?_)
  (refine D_lookP (i := 3) rfl (by kernel_rfl) (by exact NP_then NP_body) (by exact Y_fieldAddr0 rfl) rfl rfl ?_)
  (refine D_look (i := 4) rfl (by kernel_rfl) (by exact NP_then NP_body) (by exact Gives.cons (Take.next Take.here) Gives.nil) (by exact Y_load rfl rfl) rfl rfl ?_)
  refine D_try1 (i := 2) (by kernel_rfl) rfl ?_
  refine J_callr rfl (layout_Log c _) (by exact Gives.refl) rfl rfl ?_
  rw [hlg]
  refine D_next (by exact Gives.cons (Take.next Take.here) Gives.nil) ?_
  refine D_try1 (i := 5) (by kernel_rfl) rfl ?_
  have hk : 0 + c.L.toNat + 2 = c.L.toNat + 2 := by omega
  rw [hk]
  refine J_callm rfl (wal_Open0 d (fV (pEnd c).toNat (pLog c)) (c.L.toNat + 2) (pLog c) c.L (1, 1, 0) (by simpa using hmay) (by simp; omega) (by omega) (fV_newer hp.1 (by omega)) (by dsimp only; omega) (by rw [fV_cat hp.1 (by omega)]; rfl) (by rw [fV_ring hp.1 (by omega) (by omega)]; rw [show zs64 = List.replicate 64 0 from rfl, recSize_zero]; decide) (cl t1 50 [.int .i64 c.E, .int .i64 c.S, .int .i64 c.L] :: F)) (by exact Gives.refl) rfl rfl ?_
  rintro v w ⟨b, rfl, s0⟩
  refine JW.of s0 ?_
  refine D_last (by kernel_rfl) ?_
  (refine D_lookP (i := 6) rfl (by kernel_rfl) (by exact NP_then NP_body) (by exact Y_move rfl) rfl rfl ?_)
  (refine D_lookP (i := 7) rfl (by kernel_rfl) (by exact NP_then NP_body) (by exact Y_extract rfl rfl) rfl rfl ?_)
  (refine D_lookP (i := 8) rfl (by kernel_rfl) (by exact NP_then NP_body) (by exact Y_extract rfl rfl) rfl rfl ?_)
  refine D_try1 (i := 9) (by kernel_rfl) rfl ?_
  refine J_assign rfl rfl rfl ?_
  refine D_last (by kernel_rfl) ?_
  refine D_try1 (i := 10) (by kernel_rfl) rfl ?_
  refine J_assign rfl rfl rfl ?_
  refine D_last (by kernel_rfl) ?_
  (first | refine D_end1 (by kernel_rfl) ?_ | refine D_end (by kernel_rfl) ?_)
  refine E_then ?_
  refine R_seq ?_
  refine R_seq ?_
  refine R_region ?_
  refine J_move rfl rfl rfl ?_
  refine J_cmp rfl rfl rfl rfl rfl ?_
  refine J_move rfl rfl rfl ?_
  refine J_guard rfl rfl rfl ?_
  refine J_move rfl rfl rfl ?_
  refine J_guard rfl rfl rfl ?_
  refine J_callr rfl (wal_Begin b _ _) (by exact Gives.refl) rfl rfl ?_
  rw [bW_eq]
  have hact : (Wl.anew d (pLog c) c.L (fV (pEnd c).toNat (pLog c)) (c.L.toNat + 2) (1, 1, 0)).act = false := rfl
  rw [hact]
  refine J_guard rfl rfl rfl ?_
  refine J_cmp rfl rfl rfl rfl rfl ?_
  refine J_pick_false rfl rfl rfl rfl ?_
  refine J_nil3 ?_
  refine E_then ?_
  refine R_cond_false rfl ?_
  refine R_skip ?_
  refine E_then ?_
  refine R_seq ?_
  refine R_region ?_
  refine J_move rfl rfl rfl ?_
  refine J_move rfl rfl rfl ?_
  refine J_assign rfl rfl rfl ?_
  refine J_assign rfl rfl rfl ?_
  refine J_nil2 ?_
  refine E_then ?_
  refine R_ret ?_
  apply E_ret Tryz.results35
  · exact Res.tmp rfl (Res.tmp rfl (Res.nil))
  · intro w s
    exact ⟨d, b, rfl, s.gives (by exact Gives.cons Take.here (Gives.drop Gives.refl))⟩
theorem law16_Next (b : Nat) (W : Wl) (ok : WlOk W) (ha : W.act = true) (hne : W.Lo ≠ []) (n : Nat) (hn : n = W.Lo.length + 1) (hr : W.used + n ≤ W.many - 2) (hk : W.k < 10000000) (F : List HP) :
    Fn Tryz.prog 71 [.pointer (some ⟨b, 0, none⟩)] (wal b W :: F) (Pst (.bool true) (wal b { W.comm n with act := true } :: F)) := by
  refine Fn_enter Tryz.func71 rfl Tryz.ntmps71 rfl ?_
  refine R_seq ?_
  refine R_region ?_
  refine J_assign rfl rfl rfl ?_
  refine J_nil ?_
  refine E_then ?_
  refine R_seq ?_
  refine R_region ?_
  refine J_move rfl rfl rfl ?_
  refine J_callr rfl (wal_Commit b W ok ha hne n hn hr hk _) (by exact Gives.refl) rfl rfl ?_
  refine J_assign rfl rfl rfl ?_
  refine J_nil2 ?_
  refine E_then ?_
  refine R_seq ?_
  refine R_seq ?_
  refine R_region ?_
  refine J_move rfl rfl rfl ?_
  refine J_cmp rfl rfl rfl rfl rfl ?_
  refine J_nil2 ?_
  refine E_then ?_
  refine R_cond_false rfl ?_
  refine R_skip ?_
  refine E_then ?_
  refine R_seq ?_
  refine R_region ?_
  refine J_move rfl rfl rfl ?_
  refine J_cmp rfl rfl rfl rfl rfl ?_
  refine J_move rfl rfl rfl ?_
  refine J_guard rfl rfl rfl ?_
  refine J_move rfl rfl rfl ?_
  refine J_guard rfl rfl rfl ?_
  refine J_callr rfl (wal_Begin b (W.comm n) _) (by exact Gives.refl) rfl rfl ?_
  have hact : (W.comm n).act = false := rfl
  rw [hact]
  refine J_guard rfl rfl rfl ?_
  refine J_cmp rfl rfl rfl rfl rfl ?_
  refine J_pick_true rfl rfl rfl rfl ?_
  refine J_assign rfl rfl rfl ?_
  refine J_nil3 ?_
  refine E_then ?_
  refine R_ret ?_
  apply E_retP Tryz.results71
  · exact Res.tmp rfl (Res.nil)
  · exact Gives.refl
  rfl
end Go.Proofs.Sol

/- Extents: the first law's parts. -/
namespace Go.Proofs.Sol
open Go Go.Proofs
set_option maxRecDepth 100000
set_option maxHeartbeats 4000000
set_option linter.unusedVariables false
set_option linter.unusedSimpArgs false
attribute [local irreducible] R J JW E D Fn Y clf mpI own Sat Exit.then Exit.inBlock bodyPost bodyPostM Code.wpIn wpL
theorem comm_ok {W : Wl} (ok : WlOk W) {n : Nat} (hr : W.used + n ≤ W.many - 2) (hs : W.seq < 90000000000) (hk : W.k + n < 10000000) : WlOk { W.comm n with act := true } := by
  have hm := ok.many
  have hu := ok.used
  have hl : (W.comm n).V.length = W.V.length := putV_length ..
  refine ⟨?_, ?_, ok.many, ?_, ?_, ok.gen, ?_, ?_, ?_, ?_, ?_, ?_⟩
  · show 0 ≤ W.fr ∧ W.fr + W.many ≤ ((W.comm n).V.length : Int)
    rw [hl]; exact ok.fr
  · show (W.comm n).V.length ≤ 1000
    rw [hl]; exact ok.n
  · exact ⟨Int.emod_nonneg _ (by omega), Int.emod_lt_of_pos _ (by omega)⟩
  · show 0 ≤ W.used + n ∧ W.used + n ≤ W.many - 2
    omega
  · show 0 ≤ W.seq + 1 ∧ W.seq + 1 < 100000000000
    have := ok.seq
    omega
  · exact Nat.zero_le _
  · intro p hp; cases hp
  · exact List.nodup_nil
  · intro p hp
    have hh : ({ W.comm n with act := true } : Wl).home p.1 = W.home p.1 := by
      show homeB (W.comm n).V.length W.fr W.many p.1 = homeB W.V.length W.fr W.many p.1
      rw [hl]
    rw [hh]
    rcases keep_mem hp with h | h
    · exact ok.kH p h
    · exact ok.loH p h
  · show W.k + n + 1 < 900000000
    omega
theorem save_seq (l : List Bytes) : ∀ (W : Wl) (a : Int), (W.save a l).seq = W.seq := by
  induction l with
  | nil => intro W a; rfl
  | cons s l ih =>
    intro W a
    unfold Wl.save
    split
    · rename_i h
      rw [ih, st_eq h]
    · rfl
theorem ld_comm {W : Wl} (ok : WlOk W) {a : Int} {l : List Bytes} (h : W.saveE a l = 0) (n : Nat) : ({ (W.save a l).comm n with act := true } : Wl).ld a l.length = l.flatten ∧ ({ (W.save a l).comm n with act := true } : Wl).ldE a l.length = 0 := by
  have okS := save_ok l ok a
  refine ld_of l fun i hi => ?_
  have hg := save_get l h (a + i)
  rw [if_pos (by omega)] at hg
  have e : (a + (i : Int) - a).toNat = i := by omega
  rw [e, List.getElem?_eq_getElem hi] at hg
  have hs : seen (keep (W.save a l).K (W.save a l).Lo) [] (a + i) = some l[i] := by
    rw [seen_keep okS.loN]
    unfold seen
    rw [hg]; rfl
  have hd : l.getD i [] = l[i] := by rw [List.getD_eq_getElem?_getD, List.getElem?_eq_getElem hi]; rfl
  rw [hd]
  unfold Wl.rd Wl.rdE
  show (match seen (keep (W.save a l).K (W.save a l).Lo) [] (a + i) with | some s => s | none => _) = _ ∧ (match seen (keep (W.save a l).K (W.save a l).Lo) [] (a + i) with | some _ => (0 : Int) | none => _) = 0
  rw [hs]
  exact ⟨rfl, rfl⟩
theorem save_ne {W : Wl} {a : Int} {l : List Bytes} (h : W.saveE a l = 0) (hl : 0 < l.length) : (W.save a l).Lo ≠ [] := by
  intro h0
  have := save_get l h a
  rw [h0, if_pos (by omega)] at this
  have e : (a - a).toNat = 0 := by omega
  rw [e, List.getElem?_eq_getElem hl] at this
  cases this
theorem bW_home (d n : Nat) (fr many i : Int) : (bW d n fr many).home i = homeB n fr many i := by
  have hl : (bW d n fr many).V.length = n := by simp [bW]
  unfold Wl.home
  rw [hl]; rfl
abbrev cfgA : Cfg := ⟨3, 1, 24⟩
theorem law20_works (F : List HP) : Fn Tryz.prog 34 [] F (Pst (.bool true) F) := by
  have hc : cfgOk cfgA = true := by decide
  refine Fn_enter Tryz.func34 rfl Tryz.ntmps34 rfl ?_
  refine R_seq ?_
  refine R_region ?_
  refine J_assign rfl rfl rfl ?_
  refine J_nil ?_
  refine E_then ?_
  refine R_seq ?_
  refine R_region ?_
  refine J_build rfl rfl rfl rfl ?_
  refine J_alloc rfl rfl ?_; intro
  refine J_storeA rfl rfl rfl rfl rfl rfl ?_
  refine J_nil1 ?_
  refine E_then ?_
  refine R_seq ?_
  refine R_region ?_
  refine J_loadA rfl rfl rfl rfl ?_
  rename_i t1
  refine J_callm rfl (law16_Begun cfgA hc _) Gives.refl rfl rfl ?_
  rintro v w ⟨d, b, rfl, s0⟩
  have okB := bW_ok d (pEnd cfgA).toNat (pLog cfgA) cfgA.L (by decide) (by decide) (by decide)
  refine JW.of s0 ?_
  refine J_move rfl rfl rfl ?_
  refine J_extract rfl rfl rfl rfl ?_
  refine J_extract rfl rfl rfl rfl ?_
  refine J_assign rfl rfl rfl ?_
  refine J_assign rfl rfl rfl ?_
  refine J_nil3 ?_
  refine E_then ?_
  refine R_seq ?_
  refine R_region ?_
  refine J_makeSlice rfl rfl (by omega) (by omega) (by omega) rfl rfl ?_
  intro bz
  rw [zeroRow_one]
  have hz : List.replicate (Int.toNat 127 * 1) (Value.int .u8 0) = (List.replicate 127 (0 : UInt8)).map byv := rfl
  have hz2 : List.replicate (Int.toNat 127) (Value.int .u8 0) = (List.replicate 127 (0 : UInt8)).map byv := rfl
  first
    | rw [hz]
    | rw [hz2]
  refine J_bytesToStr (cs := List.replicate 127 0) rfl (by simp) rfl rfl rfl ?_
  have hl0 : (List.replicate 127 (0 : UInt8)).length = 127 := rfl
  have hl1 : ([120] : List UInt8).length = 1 := rfl
  refine J_str_add rfl rfl (by omega) rfl rfl ?_
  refine J_assign rfl rfl rfl ?_
  refine J_nil3 ?_
  refine E_then ?_
  refine R_seq ?_
  refine R_seq ?_
  refine R_region ?_
  refine J_move rfl rfl rfl ?_
  refine J_ptr_nil rfl rfl rfl rfl ?_
  refine J_move rfl rfl rfl ?_
  refine J_guard rfl rfl rfl ?_
  refine J_move rfl rfl rfl ?_
  refine J_guard rfl rfl rfl ?_
  refine J_loadA rfl rfl rfl rfl ?_
  refine J_guard rfl rfl rfl ?_
  refine J_move rfl rfl rfl ?_
  refine J_guard rfl rfl rfl ?_
  generalize hW : bW d (pEnd cfgA).toNat (pLog cfgA) cfgA.L = W at *
  generalize hsx : List.replicate 127 (0 : UInt8) ++ [120] = sx
  have hsl : sx.length = 128 := by rw [← hsx]; rfl
  have hE : W.saveE (pExt cfgA + 2 * 2) (chunks sx 2) = 0 := by
    refine saveE_of _ ?_ ?_ (chunks_64 sx 2 (by omega)) ?_
    · rw [← hW]; rfl
    · intro i hi
      rw [chunks_length] at hi
      rw [← hW]
      have : i = 0 ∨ i = 1 := by omega
      rw [bW_home]
      rcases this with rfl | rfl <;> decide
    · rw [chunks_length, ← hW]; exact (by decide : 0 + 2 ≤ 16)
  have okS := save_ok (chunks sx 2) okB (pExt cfgA + 2 * 2)
  have hsm := save_same (chunks sx 2) W (pExt cfgA + 2 * 2)
  have hne := save_ne hE (by rw [chunks_length]; omega)
  have hfl := chunks_flatten sx 2 (by omega)
  have hWd : W.fr = 15 ∧ W.many = 24 ∧ W.used = 0 ∧ W.act = true ∧ W.seq = 25 ∧ W.k = 33 := by rw [← hW]; exact ⟨rfl, rfl, rfl, rfl, rfl, rfl⟩
  have hE0 : chk cfgA 2 cfgA.E = 0 := by decide
  refine J_callr rfl (extent_Stage b W okB cfgA 2 hE0 sx hsl _) (by exact Gives.last (Take.next Take.here)) rfl rfl ?_
  rw [hE]
  refine J_guard rfl rfl rfl ?_
  refine J_cmp rfl rfl rfl rfl rfl ?_
  refine J_pick_false rfl rfl rfl rfl ?_
  refine J_move rfl rfl rfl ?_
  refine J_guard rfl rfl rfl ?_
  refine J_move rfl rfl rfl ?_
  refine J_guard rfl rfl rfl ?_
  have hseq : (W.save (pExt cfgA + 2 * 2) (chunks sx 2)).seq = W.seq := save_seq _ _ _
  have hlo := okS.lo
  have hcm := ld_comm okB hE ((W.save (pExt cfgA + 2 * 2) (chunks sx 2)).Lo.length + 1)
  rw [chunks_length, hfl] at hcm
  generalize hW1 : W.save (pExt cfgA + 2 * 2) (chunks sx 2) = W1 at *
  refine J_callr rfl (law16_Next b W1 okS (by rw [hsm.2.2.2.2.1]; exact hWd.2.2.2.1) hne (W1.Lo.length + 1) rfl (by omega) (by omega) _) (by exact Gives.refl) rfl rfl ?_
  refine J_guard rfl rfl rfl ?_
  refine J_un_not rfl rfl rfl ?_
  refine J_pick_false rfl rfl rfl rfl ?_
  refine J_nil3 ?_
  refine E_then ?_
  refine R_cond_false rfl ?_
  refine R_skip ?_
  refine E_then ?_
  refine R_seq ?_
  refine R_region ?_
  refine J_move rfl rfl rfl ?_
  refine J_loadA rfl rfl rfl rfl ?_
  have okC := comm_ok okS (n := W1.Lo.length + 1) (by omega) (by omega) (by omega)
  refine J_callr rfl (extent_Read b _ okC cfgA 2 hE0 (by show W1.k + (W1.Lo.length + 1) + 1 < 10000000; omega) _) (by exact Gives.refl) rfl rfl ?_
  rw [hcm.2, hcm.1, if_pos rfl]
  refine J_move rfl rfl rfl ?_
  refine J_extract rfl rfl rfl rfl ?_
  refine J_extract rfl rfl rfl rfl ?_
  refine J_assign rfl rfl rfl ?_
  refine J_assign rfl rfl rfl ?_
  refine J_nil3 ?_
  refine E_then ?_
  refine R_seq ?_
  refine R_region ?_
  refine J_move rfl rfl rfl ?_
  refine J_move rfl rfl rfl ?_
  refine J_str_cmp rfl rfl rfl rfl rfl ?_
  refine J_move rfl rfl rfl ?_
  refine J_guard_split rfl rfl (fun hh => ?_) (fun hh => ?_)
  simp only [decide_eq_true_eq, decide_eq_false_iff_not, Bool.and_eq_true, Bool.or_eq_true, Bool.not_eq_true', Bool.not_eq_false', beq_iff_eq, bne_iff_ne, beq_eq_false_iff_ne, bne_eq_false_iff_eq, ne_eq, ge_iff_le, gt_iff_lt, Int.not_le, Int.not_lt, Bool.and_eq_false_iff, Bool.or_eq_false_iff, Decidable.not_not] at hh
  refine J_guard rfl rfl rfl ?_
  refine J_move rfl rfl rfl ?_
  refine J_guard rfl rfl rfl ?_
  refine J_cmp rfl rfl rfl rfl rfl ?_
  refine J_pick_true rfl rfl rfl rfl ?_
  refine J_assign rfl rfl rfl ?_
  refine J_nil3 ?_
  refine E_then ?_
  refine R_ret ?_
  rotate_left
  simp only [decide_eq_true_eq, decide_eq_false_iff_not, Bool.and_eq_true, Bool.or_eq_true, Bool.not_eq_true', Bool.not_eq_false', beq_iff_eq, bne_iff_ne, beq_eq_false_iff_ne, bne_eq_false_iff_eq, ne_eq, ge_iff_le, gt_iff_lt, Int.not_le, Int.not_lt, Bool.and_eq_false_iff, Bool.or_eq_false_iff, Decidable.not_not] at hh
  refine J_guard_not rfl rfl rfl rfl rfl rfl ?_
  refine J_guard_not rfl rfl rfl rfl rfl rfl ?_
  refine J_pick_false rfl rfl rfl rfl ?_
  refine J_assign rfl rfl rfl ?_
  refine J_nil3 ?_
  refine E_then ?_
  refine R_ret ?_
  rotate_left
  · apply E_retP Tryz.results34
    · exact Res.tmp rfl (Res.nil)
    · exact Gives.drop (Gives.drop (Gives.drop Gives.refl))
    rfl
  all_goals exact absurd trivial hh
end Go.Proofs.Sol

/- A table that is none. -/
namespace Go.Proofs.Sol
open Go Go.Proofs
set_option maxRecDepth 100000
set_option maxHeartbeats 4000000
set_option linter.unusedVariables false
set_option linter.unusedSimpArgs false
attribute [local irreducible] R J JW E D Fn Y clf mpI own Sat Exit.then Exit.inBlock bodyPost bodyPostM Code.wpIn wpL
theorem tb_of {W : Wl} {n : Int} {x y : Ent} (hx : entOk x = true) (hy : entOk y = true) (h : mget W.Lo (2 + n / 2) = some (entB x y)) : W.tbP n = (x, y) ∧ W.tbE n = 0 := by
  have h2 := rd_of h
  unfold Wl.tbP Wl.tbE
  rw [h2.1, h2.2, if_pos rfl, if_pos rfl, entGet_put hx hy]
  exact ⟨rfl, rfl⟩
theorem law18_works (F : List HP) : Fn Tryz.prog 61 [] F (Pst (.bool true) F) := by
  have hc : cfgOk cfgA = true := by decide
  have hX : entOk entX = true := by decide
  have hx : entOk ⟨4, 0, 2⟩ = true := by decide
  refine Fn_enter Tryz.func61 rfl Tryz.ntmps61 rfl ?_
  refine R_seq ?_
  refine R_region ?_
  refine J_assign rfl rfl rfl ?_
  refine J_nil ?_
  refine E_then ?_
  refine R_seq ?_
  refine R_region ?_
  refine J_build rfl rfl rfl rfl ?_
  refine J_alloc rfl rfl ?_; intro
  refine J_storeA rfl rfl rfl rfl rfl rfl ?_
  refine J_nil1 ?_
  refine E_then ?_
  refine R_seq ?_
  refine R_region ?_
  refine J_loadA rfl rfl rfl rfl ?_
  rename_i t1
  refine J_callm rfl (law16_Begun cfgA hc _) Gives.refl rfl rfl ?_
  rintro v w ⟨d, b, rfl, s0⟩
  have okB := bW_ok d (pEnd cfgA).toNat (pLog cfgA) cfgA.L (by decide) (by decide) (by decide)
  have hh0 : ∀ i : Int, (bW d (pEnd cfgA).toNat (pLog cfgA) cfgA.L).home i = true ↔ 0 ≤ i ∧ i < 15 := by
    intro i
    rw [bW_home]
    have e1 : (pEnd cfgA).toNat = 39 := rfl
    have e2 : pLog cfgA = 15 := rfl
    have e3 : cfgA.L = 24 := rfl
    rw [e1, e2, e3]
    simp only [homeB, Bool.and_eq_true, Bool.or_eq_true, decide_eq_true_eq]
    omega
  have hE : (bW d (pEnd cfgA).toNat (pLog cfgA) cfgA.L).saveE 2 (fmtL cfgA) = 0 := by
    refine saveE_of _ rfl ?_ ?_ (by exact (by decide : 0 + 2 ≤ 16))
    · intro i hi
      have : (fmtL cfgA).length = 2 := by simp [fmtL]
      rw [hh0]; omega
    · intro t ht
      rw [List.eq_of_mem_replicate ht]
      exact entB_length hX hX
  have hk0 : (bW d (pEnd cfgA).toNat (pLog cfgA) cfgA.L).k = 33 := rfl
  refine JW.of s0 ?_
  generalize bW d (pEnd cfgA).toNat (pLog cfgA) cfgA.L = W0 at *
  have hsm := save_same (fmtL cfgA) W0 2
  have ok1 := save_ok (fmtL cfgA) okB 2
  have hg := save_get (fmtL cfgA) hE
  have hlen : (fmtL cfgA).length = 2 := by simp [fmtL]
  have hg2 : mget (W0.save 2 (fmtL cfgA)).Lo 2 = some (entB entX entX) := by rw [hg, if_pos (by omega)]; rfl
  have hg3 : mget (W0.save 2 (fmtL cfgA)).Lo 3 = some (entB entX entX) := by rw [hg, if_pos (by omega)]; rfl
  have hact : (W0.save 2 (fmtL cfgA)).act = true := by
    have := (stE_spec (W := W0) (a := 2) (s := entB entX entX) (by
      unfold fmtL at hE
      rw [show (cfgA.E.toNat + 1) / 2 = 2 from rfl, List.replicate_succ] at hE
      unfold Wl.saveE at hE
      split at hE
      · assumption
      · exact hE)).1
    rw [hsm.2.2.2.2.1]; exact this
  have hhm : (W0.save 2 (fmtL cfgA)).home 2 = true := by
    show homeB (W0.save 2 (fmtL cfgA)).V.length (W0.save 2 (fmtL cfgA)).fr (W0.save 2 (fmtL cfgA)).many 2 = true
    rw [hsm.2.1, hsm.2.2.1, hsm.2.2.2.1]
    exact (hh0 2).2 (by omega)
  refine J_move rfl rfl rfl ?_
  refine J_extract rfl rfl rfl rfl ?_
  refine J_extract rfl rfl rfl rfl ?_
  refine J_assign rfl rfl rfl ?_
  refine J_assign rfl rfl rfl ?_
  refine J_nil3 ?_
  refine E_then ?_
  refine R_seq ?_
  refine R_region ?_
  refine J_move rfl rfl rfl ?_
  refine J_loadA rfl rfl rfl rfl ?_
  refine J_callm rfl (table_New (some ⟨b, 0, none⟩) cfgA _) (by exact Gives.refl) rfl rfl ?_
  rintro v w ⟨t, rfl, s1⟩
  refine JW.of s1 ?_
  refine J_assign rfl rfl rfl ?_
  refine J_nil3 ?_
  refine E_then ?_
  refine R_seq ?_
  refine R_region ?_
  refine J_build rfl rfl rfl rfl ?_
  refine J_build rfl rfl rfl rfl ?_
  refine J_alloc rfl rfl ?_; intro
  refine J_storeA rfl rfl rfl rfl rfl rfl ?_
  refine J_nil2 ?_
  refine E_then ?_
  refine R_seq ?_
  refine R_seq ?_
  refine R_region ?_
  refine J_move rfl rfl rfl ?_
  refine J_ptr_nil rfl rfl rfl rfl ?_
  refine J_move rfl rfl rfl ?_
  refine J_guard rfl rfl rfl ?_
  refine J_move rfl rfl rfl ?_
  refine J_guard rfl rfl rfl ?_
  refine J_callr rfl (table_Format t b W0 okB cfgA hc hE _) (by exact Gives.cons (Take.next Take.here) (Gives.last (Take.next Take.here))) rfl rfl ?_
  have hk1 : (W0.save 2 (fmtL cfgA)).k = 33 := by rw [hsm.2.2.2.2.2.2.2]; exact hk0
  generalize W0.save 2 (fmtL cfgA) = W1 at *
  have htb1 : W1.tbP 1 = (entX, entX) ∧ W1.tbE 1 = 0 := tb_of hX hX hg2
  have hck1 : chk cfgA 1 cfgA.E = 0 := by decide
  have hck2 : chk cfgA 2 cfgA.E = 0 := by decide
  have hst : W1.stE 2 (entB entX ⟨4, 0, 2⟩) = 0 := by
    have h5 : hasK W1.Lo 2 = true := by unfold hasK; rw [hg2]; rfl
    unfold Wl.stE
    rw [hact, hhm, if_neg (by simp), if_neg (by simp), if_neg (by simp [entB_length hX hx]), if_neg (by simp [h5])]
  refine J_guard rfl rfl rfl ?_
  refine J_cmp rfl rfl rfl rfl rfl ?_
  refine J_pick_false rfl rfl rfl rfl ?_
  refine J_move rfl rfl rfl ?_
  refine J_guard rfl rfl rfl ?_
  refine J_move rfl rfl rfl ?_
  refine J_guard rfl rfl rfl ?_
  refine J_loadA rfl rfl rfl rfl ?_
  refine J_guard rfl rfl rfl ?_
  refine J_callr rfl (table_Put t b W1 ok1 (by omega) cfgA 1 ⟨4, 0, 2⟩ hck1 hx htb1.2 (by rw [htb1.1]; exact ⟨hX, hX⟩) _) (by exact Gives.refl) rfl rfl ?_
  rw [htb1.1]
  have e1 : put2 1 (entX, entX) ⟨4, 0, 2⟩ = (entX, ⟨4, 0, 2⟩) := rfl
  have e2 : (2 : Int) + 1 / 2 = 2 := rfl
  rw [e1, e2]
  dsimp only
  rw [hst, st_eq hst]
  refine J_guard rfl rfl rfl ?_
  refine J_cmp rfl rfl rfl rfl rfl ?_
  refine J_pick_false rfl rfl rfl rfl ?_
  refine J_nil3 ?_
  refine E_then ?_
  refine R_cond_false rfl ?_
  refine R_skip ?_
  refine E_then ?_
  refine R_seq ?_
  refine R_region ?_
  refine J_move rfl rfl rfl ?_
  have hq2 : mget (mput W1.Lo 2 (entB entX ⟨4, 0, 2⟩)) 2 = some (entB entX ⟨4, 0, 2⟩) := by rw [mget_mput, if_pos rfl]
  have hq3 : mget (mput W1.Lo 2 (entB entX ⟨4, 0, 2⟩)) 3 = some (entB entX entX) := by rw [mget_mput, if_neg (by omega)]; exact hg3
  have hk2 : ({ W1 with Lo := mput W1.Lo 2 (entB entX ⟨4, 0, 2⟩), k := W1.k + 1 } : Wl).k = 34 := by show W1.k + 1 = 34; omega
  have t1' := tb_of (W := { W1 with Lo := mput W1.Lo 2 (entB entX ⟨4, 0, 2⟩), k := W1.k + 1 }) (n := 1) hX hx hq2
  have t2' := tb_of (W := { W1 with Lo := mput W1.Lo 2 (entB entX ⟨4, 0, 2⟩), k := W1.k + 1 + 1 }) (n := 2) hX hX hq3
  refine J_callr rfl (table_Get t b { W1 with Lo := mput W1.Lo 2 (entB entX ⟨4, 0, 2⟩), k := W1.k + 1 } (by rw [hk2]; omega) cfgA 1 hck1 _) (by exact Gives.refl) rfl rfl ?_
  rw [t1'.1, t1'.2, if_pos rfl]
  have p1 : pick2 1 (entX, (⟨4, 0, 2⟩ : Ent)) = ⟨4, 0, 2⟩ := rfl
  rw [p1]
  refine J_move rfl rfl rfl ?_
  refine J_extract rfl rfl rfl rfl ?_
  refine J_extract rfl rfl rfl rfl ?_
  refine J_alloc rfl rfl ?_; intro
  refine J_storeA rfl rfl rfl rfl rfl rfl ?_
  refine J_assign rfl rfl rfl ?_
  refine J_nil3 ?_
  refine E_then ?_
  refine R_seq ?_
  refine R_region ?_
  refine J_move rfl rfl rfl ?_
  refine J_callr rfl (table_Get t b { W1 with Lo := mput W1.Lo 2 (entB entX ⟨4, 0, 2⟩), k := W1.k + 1 + 1 } (by show W1.k + 1 + 1 < _; omega) cfgA 2 hck2 _) (by exact Gives.cons (Take.next Take.here) (Gives.last (Take.next Take.here))) rfl rfl ?_
  rw [t2'.1, t2'.2, if_pos rfl]
  have p2 : pick2 2 (entX, entX) = entX := rfl
  rw [p2]
  refine J_move rfl rfl rfl ?_
  refine J_extract rfl rfl rfl rfl ?_
  refine J_extract rfl rfl rfl rfl ?_
  refine J_alloc rfl rfl ?_; intro
  refine J_storeA rfl rfl rfl rfl rfl rfl ?_
  refine J_assign rfl rfl rfl ?_
  refine J_nil3 ?_
  refine E_then ?_
  refine R_seq ?_
  refine R_region ?_
  refine J_loadA rfl rfl rfl rfl ?_
  refine J_loadA rfl rfl rfl rfl ?_
  refine J_eqA rfl rfl rfl rfl rfl rfl rfl rfl ?_
  refine J_move rfl rfl rfl ?_
  refine J_guard rfl rfl rfl ?_
  refine J_move rfl rfl rfl ?_
  refine J_guard rfl rfl rfl ?_
  refine J_cmp rfl rfl rfl rfl rfl ?_
  refine J_pick_true rfl rfl rfl rfl ?_
  refine J_move rfl rfl rfl ?_
  refine J_guard rfl rfl rfl ?_
  refine J_loadA rfl rfl rfl rfl ?_
  refine J_guard rfl rfl rfl ?_
  refine J_build rfl rfl rfl rfl ?_
  refine J_guard rfl rfl rfl ?_
  refine J_eqA rfl rfl rfl rfl rfl rfl rfl rfl ?_
  refine J_pick_true rfl rfl rfl rfl ?_
  refine J_move rfl rfl rfl ?_
  refine J_guard rfl rfl rfl ?_
  refine J_move rfl rfl rfl ?_
  refine J_guard rfl rfl rfl ?_
  refine J_cmp rfl rfl rfl rfl rfl ?_
  refine J_pick_true rfl rfl rfl rfl ?_
  refine J_assign rfl rfl rfl ?_
  refine J_nil3 ?_
  refine E_then ?_
  refine R_ret ?_
  apply E_retP Tryz.results61
  · exact Res.tmp rfl (Res.nil)
  · exact Gives.drop (Gives.drop (Gives.drop (Gives.drop (Gives.drop (Gives.drop Gives.refl)))))
  rfl
theorem law18_TableNone (c : Cfg) (n : Int) (x : Ent) (F : List HP) : Fn Tryz.prog 9 [cfgV c, .int .i64 n, entV x] F (Pst (.bool true) F) := by
  obtain ⟨a, b, s⟩ := x
  refine Fn_enter Tryz.func9 rfl Tryz.ntmps9 rfl ?_
  refine R_seq ?_
  refine R_region ?_
  refine J_boxA rfl rfl rfl ?_; intro
  refine J_boxA rfl rfl rfl ?_; intro
  refine J_assign rfl rfl rfl ?_
  refine J_nil ?_
  refine E_then ?_
  refine R_seq ?_
  refine R_seq ?_
  refine R_region ?_
  refine J_callr rfl (law18_works _) (by exact Gives.refl) rfl rfl ?_
  refine J_un_not rfl rfl rfl ?_
  refine J_nil2 ?_
  refine E_then ?_
  refine R_cond_false rfl ?_
  refine R_skip ?_
  refine E_then ?_
  refine R_seq ?_
  refine R_region ?_
  refine J_assign rfl rfl rfl ?_
  refine J_nil ?_
  refine E_then ?_
  refine R_seq ?_
  refine R_region ?_
  refine J_move rfl rfl rfl ?_
  refine J_move rfl rfl rfl ?_
  refine J_callr rfl (table_Get0 n _) (by exact Gives.refl) rfl rfl ?_
  refine J_move rfl rfl rfl ?_
  refine J_extract rfl rfl rfl rfl ?_
  refine J_extract rfl rfl rfl rfl ?_
  refine J_alloc rfl rfl ?_; intro
  refine J_storeA rfl rfl rfl rfl rfl rfl ?_
  refine J_assign rfl rfl rfl ?_
  refine J_nil3 ?_
  refine E_then ?_
  refine R_seq ?_
  refine R_region ?_
  refine J_move rfl rfl rfl ?_
  refine J_callr rfl (table_All0 _) (by exact Gives.refl) rfl rfl ?_
  refine J_move rfl rfl rfl ?_
  refine J_extract rfl rfl rfl rfl ?_
  refine J_extract rfl rfl rfl rfl ?_
  refine J_assign rfl rfl rfl ?_
  refine J_assign rfl rfl rfl ?_
  refine J_nil3 ?_
  refine E_then ?_
  refine R_seq ?_
  refine R_region ?_
  refine J_loadA rfl rfl rfl rfl ?_
  refine J_callm rfl (table_New none c _) (by exact Gives.refl) rfl rfl ?_
  rintro v w ⟨t, rfl, s1⟩
  refine JW.of s1 ?_
  refine J_assign rfl rfl rfl ?_
  refine J_nil2 ?_
  refine E_then ?_
  refine R_seq ?_
  refine R_region ?_
  refine J_move rfl rfl rfl ?_
  refine J_move rfl rfl rfl ?_
  refine J_callr rfl (table_GetN t none c n (.inr rfl) _) (by exact Gives.refl) rfl rfl ?_
  refine J_move rfl rfl rfl ?_
  refine J_extract rfl rfl rfl rfl ?_
  refine J_extract rfl rfl rfl rfl ?_
  refine J_alloc rfl rfl ?_; intro
  refine J_storeA rfl rfl rfl rfl rfl rfl ?_
  refine J_assign rfl rfl rfl ?_
  refine J_nil3 ?_
  refine E_then ?_
  refine R_seq ?_
  refine R_region ?_
  refine J_loadA rfl rfl rfl rfl ?_
  refine J_move rfl rfl rfl ?_
  refine J_callr rfl (layout_Table c n _) (by exact Gives.refl) rfl rfl ?_
  by_cases h : chk c n c.E = 0
  · rw [h, if_pos rfl, if_pos rfl, if_pos rfl]
    refine J_move rfl rfl rfl ?_
    refine J_extract rfl rfl rfl rfl ?_
    refine J_extract rfl rfl rfl rfl ?_
    refine J_extract rfl rfl rfl rfl ?_
    refine J_assign rfl rfl rfl ?_
    refine J_assign rfl rfl rfl ?_
    refine J_assign rfl rfl rfl ?_
    refine J_nil3 ?_
    refine E_then ?_
    refine R_seq ?_
    refine R_seq ?_
    refine R_region ?_
    refine J_move rfl rfl rfl ?_
    refine J_cmp rfl rfl rfl rfl rfl ?_
    refine J_nil2 ?_
    refine E_then ?_
    refine R_cond_true rfl ?_
    refine R_region ?_
    refine J_assign rfl rfl rfl ?_
    refine J_nil ?_
    refine E_then ?_
    refine R_seq ?_
    refine R_region ?_
    refine J_move rfl rfl rfl ?_
    refine J_cmp rfl rfl rfl rfl rfl ?_
    refine J_move rfl rfl rfl ?_
    refine J_guard rfl rfl rfl ?_
    refine J_move rfl rfl rfl ?_
    refine J_guard rfl rfl rfl ?_
    refine J_cmp rfl rfl rfl rfl rfl ?_
    refine J_pick_true rfl rfl rfl rfl ?_
    refine J_move rfl rfl rfl ?_
    refine J_guard rfl rfl rfl ?_
    refine J_move rfl rfl rfl ?_
    refine J_guard rfl rfl rfl ?_
    refine J_move rfl rfl rfl ?_
    refine J_guard rfl rfl rfl ?_
    refine J_loadA rfl rfl rfl rfl ?_
    refine J_guard rfl rfl rfl ?_
    refine J_callr rfl (table_Put0 n ⟨a, b, s⟩ _) (by exact Gives.refl) rfl rfl ?_
    refine J_guard rfl rfl rfl ?_
    refine J_cmp rfl rfl rfl rfl rfl ?_
    refine J_pick_true rfl rfl rfl rfl ?_
    refine J_move rfl rfl rfl ?_
    refine J_guard rfl rfl rfl ?_
    refine J_move rfl rfl rfl ?_
    refine J_guard rfl rfl rfl ?_
    refine J_callr rfl (table_Format0 _) (by exact Gives.refl) rfl rfl ?_
    refine J_guard rfl rfl rfl ?_
    refine J_cmp rfl rfl rfl rfl rfl ?_
    refine J_pick_true rfl rfl rfl rfl ?_
    refine J_move rfl rfl rfl ?_
    refine J_guard rfl rfl rfl ?_
    refine J_move rfl rfl rfl ?_
    refine J_guard rfl rfl rfl ?_
    refine J_move rfl rfl rfl ?_
    refine J_guard rfl rfl rfl ?_
    refine J_cmp rfl rfl rfl rfl rfl ?_
    refine J_pick_true rfl rfl rfl rfl ?_
    refine J_assign rfl rfl rfl ?_
    refine J_nil3 ?_
    refine E_then ?_
    refine R_ret ?_
    apply E_retP Tryz.results9
    · exact Res.tmp rfl (Res.nil)
    · exact Gives.drop (Gives.drop (Gives.drop (Gives.drop (Gives.drop Gives.refl))))
    rfl
  · rw [if_neg h, if_neg h, if_neg h]
    generalize chk c n c.E = e at h ⊢
    refine J_move rfl rfl rfl ?_
    refine J_extract rfl rfl rfl rfl ?_
    refine J_extract rfl rfl rfl rfl ?_
    refine J_extract rfl rfl rfl rfl ?_
    refine J_assign rfl rfl rfl ?_
    refine J_assign rfl rfl rfl ?_
    refine J_assign rfl rfl rfl ?_
    refine J_nil3 ?_
    refine E_then ?_
    refine R_seq ?_
    refine R_seq ?_
    refine R_region ?_
    refine J_move rfl rfl rfl ?_
    refine J_cmp rfl rfl rfl rfl rfl ?_
    refine J_nil2 ?_
    refine E_then ?_
    refine R_cond rfl (fun hh => ?_) (fun hh => ?_)
    simp only [decide_eq_true_eq, decide_eq_false_iff_not, Bool.and_eq_true, Bool.or_eq_true, Bool.not_eq_true', Bool.not_eq_false', beq_iff_eq, bne_iff_ne, beq_eq_false_iff_ne, bne_eq_false_iff_eq, ne_eq, ge_iff_le, gt_iff_lt, Int.not_le, Int.not_lt, Bool.and_eq_false_iff, Bool.or_eq_false_iff, Decidable.not_not] at hh
    exfalso; omega
    simp only [decide_eq_true_eq, decide_eq_false_iff_not, Bool.and_eq_true, Bool.or_eq_true, Bool.not_eq_true', Bool.not_eq_false', beq_iff_eq, bne_iff_ne, beq_eq_false_iff_ne, bne_eq_false_iff_eq, ne_eq, ge_iff_le, gt_iff_lt, Int.not_le, Int.not_lt, Bool.and_eq_false_iff, Bool.or_eq_false_iff, Decidable.not_not] at hh
    refine R_skip ?_
    refine E_then ?_
    refine R_seq ?_
    refine R_region ?_
    refine J_move rfl rfl rfl ?_
    refine J_cmp rfl rfl rfl rfl rfl ?_
    refine J_move rfl rfl rfl ?_
    refine J_guard rfl rfl rfl ?_
    refine J_move rfl rfl rfl ?_
    refine J_guard rfl rfl rfl ?_
    refine J_cmp rfl rfl rfl rfl rfl ?_
    refine J_pick_true rfl rfl rfl rfl ?_
    refine J_move rfl rfl rfl ?_
    refine J_guard rfl rfl rfl ?_
    refine J_move rfl rfl rfl ?_
    refine J_guard rfl rfl rfl ?_
    refine J_move rfl rfl rfl ?_
    refine J_guard rfl rfl rfl ?_
    refine J_loadA rfl rfl rfl rfl ?_
    refine J_guard rfl rfl rfl ?_
    refine J_callr rfl (table_Put0 n ⟨a, b, s⟩ _) (by exact Gives.refl) rfl rfl ?_
    refine J_guard rfl rfl rfl ?_
    refine J_cmp rfl rfl rfl rfl rfl ?_
    refine J_pick_true rfl rfl rfl rfl ?_
    refine J_move rfl rfl rfl ?_
    refine J_guard rfl rfl rfl ?_
    refine J_move rfl rfl rfl ?_
    refine J_guard rfl rfl rfl ?_
    refine J_callr rfl (table_Format0 _) (by exact Gives.refl) rfl rfl ?_
    refine J_guard rfl rfl rfl ?_
    refine J_cmp rfl rfl rfl rfl rfl ?_
    refine J_pick_true rfl rfl rfl rfl ?_
    refine J_move rfl rfl rfl ?_
    refine J_guard rfl rfl rfl ?_
    refine J_move rfl rfl rfl ?_
    refine J_guard rfl rfl rfl ?_
    refine J_move rfl rfl rfl ?_
    refine J_guard rfl rfl rfl ?_
    refine J_cmp rfl rfl rfl rfl rfl ?_
    refine J_pick_true rfl rfl rfl rfl ?_
    refine J_assign rfl rfl rfl ?_
    refine J_nil3 ?_
    refine E_then ?_
    refine R_ret ?_
    apply E_retP Tryz.results9
    · exact Res.tmp rfl (Res.nil)
    · exact Gives.drop (Gives.drop (Gives.drop (Gives.drop (Gives.drop Gives.refl))))
    simp [one]
end Go.Proofs.Sol
