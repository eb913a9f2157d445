/-
  A part of a proof: ReaderFewer returns true of any room, bits and numbers, and leaves what it is handed as it was. No conditions.
-/
import Derived.Test.YtbcjfkcpfjccdaaPab
import Derived.Maps.Keyed
import Derived.DeepKeys4
namespace Go.Proofs.Ytbcjfkcpfjccdaa
open Go.RowKit
theorem agg_58 : AggT Try.prog 58 4 := aggT_of (by kernel_rfl)
theorem agg_62 : AggT Try.prog 62 5 := aggT_of (by kernel_rfl)
theorem agg_64 : AggT Try.prog 64 2 := aggT_of (by kernel_rfl)
theorem agg_66 : AggT Try.prog 66 2 := aggT_of (by kernel_rfl)
theorem bd_48 : Body Try.prog 48 := body_of (by kernel_rfl)
theorem bd_49 : Body Try.prog 49 := body_of (by kernel_rfl)
theorem bd_50 : Body Try.prog 50 := body_of (by kernel_rfl)
theorem bd_51 : Body Try.prog 51 := body_of (by kernel_rfl)
theorem bd_52 : Body Try.prog 52 := body_of (by kernel_rfl)
theorem bd_53 : Body Try.prog 53 := body_of (by kernel_rfl)
theorem bd_82 : Body Try.prog 82 := body_of (by kernel_rfl)
theorem bd_85 : Body Try.prog 85 := body_of (by kernel_rfl)
theorem fd_27_0 : FieldT Try.prog 27 0 0 := fieldT_of (by kernel_rfl)
theorem fd_27_1 : FieldT Try.prog 27 1 1 := fieldT_of (by kernel_rfl)
theorem fd_27_2 : FieldT Try.prog 27 2 2 := fieldT_of (by kernel_rfl)
theorem fd_27_3 : FieldT Try.prog 27 3 3 := fieldT_of (by kernel_rfl)
theorem fd_58_0 : FieldT Try.prog 58 0 0 := fieldT_of (by kernel_rfl)
theorem fd_58_1 : FieldT Try.prog 58 1 1 := fieldT_of (by kernel_rfl)
theorem fd_58_2 : FieldT Try.prog 58 2 2 := fieldT_of (by kernel_rfl)
theorem fd_58_3 : FieldT Try.prog 58 3 3 := fieldT_of (by kernel_rfl)
theorem fd_62_0 : FieldT Try.prog 62 0 0 := fieldT_of (by kernel_rfl)
theorem fd_62_1 : FieldT Try.prog 62 1 1 := fieldT_of (by kernel_rfl)
theorem fd_62_2 : FieldT Try.prog 62 2 2 := fieldT_of (by kernel_rfl)
theorem fd_64_0 : FieldT Try.prog 64 0 0 := fieldT_of (by kernel_rfl)
theorem fd_64_1 : FieldT Try.prog 64 1 1 := fieldT_of (by kernel_rfl)
theorem fd_66_0 : FieldT Try.prog 66 0 0 := fieldT_of (by kernel_rfl)
theorem one_22 : OneT Try.prog 22 := oneT_of (by kernel_rfl)
theorem one_23 : OneT Try.prog 23 := oneT_of (by kernel_rfl)
theorem one_24 : OneT Try.prog 24 := oneT_of (by kernel_rfl)
theorem one_25 : OneT Try.prog 25 := oneT_of (by kernel_rfl)
theorem sl_22 : SliceT Try.prog 22 62 5 := sliceT_of (by kernel_rfl)
theorem sl_23 : SliceT Try.prog 23 64 2 := sliceT_of (by kernel_rfl)
theorem sl_24 : SliceT Try.prog 24 66 2 := sliceT_of (by kernel_rfl)
theorem sl_25 : SliceT Try.prog 25 58 4 := sliceT_of (by kernel_rfl)
theorem sz_58 : SizeT Try.prog 58 4 := sizeT_of (by kernel_rfl)
theorem sz_62 : SizeT Try.prog 62 5 := sizeT_of (by kernel_rfl)
theorem sz_64 : SizeT Try.prog 64 2 := sizeT_of (by kernel_rfl)
theorem sz_66 : SizeT Try.prog 66 2 := sizeT_of (by kernel_rfl)
theorem zr_3 : ZeroT Try.prog 3 (.int .i64 0) := zeroT_of (by kernel_rfl)
theorem zr_58 : ZeroT Try.prog 58 (.agg #[.int .i64 0, .int .i64 0, .int .i64 0, .int .i64 0]) := zeroT_of (by kernel_rfl)
theorem zr_62 : ZeroT Try.prog 62 (.agg #[.string ⟨#[]⟩, .int .i64 0, .int .i64 0, .int .i64 0, .bool false]) := zeroT_of (by kernel_rfl)
theorem zr_64 : ZeroT Try.prog 64 (.agg #[.string ⟨#[]⟩, .int .i64 0]) := zeroT_of (by kernel_rfl)
theorem zr_66 : ZeroT Try.prog 66 (.agg #[.int .i64 0, .bool false]) := zeroT_of (by kernel_rfl)
set_option maxRecDepth 100000 in
theorem indexBook_ok {F : Heap} {v : Value} {xs : List Book} (h : Sl F v 5 Book.enc xs) (p : _ → Bool) {g : FuncId} {cs : List Value} (hg : Body Try.prog g) (hp : ∀ k (hk : k < xs.length), Ok Try.prog g ([Value.agg (Book.enc xs[k]).toArray] ++ cs).toArray F fun r _ => r = .bool (p xs[k])) : Ok Try.prog 82 [v, .func (.func g) #[] cs.toArray].toArray F fun r _ => r = .int .i64 (findI p xs) := by
  refine Ok.intro Try.func82 rfl Try.ntmps82 rfl fun w0 => ?_
  have hlen := h.plain.lt
  refine WC_seq ?_
  refine WC_reg fun ds => ?_
  refine WL_q rfl (q_assign lk_const) ?_
  refine WL_nil ?_
  refine then_n ?_
  refine WC_seq ?_
  refine WC_seq ?_
  refine WC_reg fun ds => ?_
  refine WL_q rfl (q_move (lk1 rfl <| lk_entry rfl)) ?_
  refine WL_q rfl (q_lenP sl_22 (lk0) h.plain) ?_
  refine WL_q rfl (q_move lk_const) ?_
  refine WL_nil ?_
  refine then_n ?_
  refine WC_block ?_
  refine WC_loopN [4, 5, 8, 9, 10, 11, 12, 13, 14, 15, 16, 17, 18] (fun m e σ => ∃ k : Nat, m + k = xs.length ∧ e 8 = .int .i64 k ∧ σ = ⟨F, []⟩ ∧ ∀ j (hj : j < xs.length), j < k → p xs[j] = false) (xs.length) ?_ ?_
  · exact ⟨0, by omega, (lk0), rfl, fun j hj h => absurd h (by omega)⟩
  ·
   rintro m e _ ⟨k, hm, hs8, rfl, hno⟩
   by_cases hlt : k < xs.length
   ·
    refine WC_seq ?_
    refine WC_reg fun ds => ?_
    refine WL_q rfl (q_lss (lk_in rfl hs8) (lk_off rfl <| lk1 rfl <| lk0)) ?_
    refine WL_nil ?_
    refine then_n ?_
    refine WC_seq ?_
    refine WC_if_true (lk0) (by first | rfl | exact decide_eq_true (by omega)) ?_
    by_cases hpk : p xs[k] = true
    ·
     refine WC_skip ?_
     refine then_n ?_
     refine WC_seq ?_
     refine WC_block ?_
     refine WC_seq ?_
     refine WC_reg fun ds => ?_
     refine WL_q rfl (q_move (lk1 rfl <| lk_in rfl hs8)) ?_
     refine WL_q rfl (q_assign (lk0)) ?_
     refine WL_nil ?_
     refine then_n ?_
     refine WC_seq ?_
     refine WC_reg fun ds => ?_
     refine WL_q rfl (q_move (lk2 rfl <| lk1 rfl <| lk_off rfl <| lk4 rfl <| lk_entry rfl)) ?_
     refine WL_q rfl (q_move (lk4 rfl <| lk_off rfl <| lk4 rfl <| lk_entry rfl)) ?_
     refine WL_q rfl (q_move (lk2 rfl <| lk0)) ?_
     refine WL_q rfl (q_index  sl_22 (lk1 rfl <| lk0) h.plain (lk0) rfl (by omega)) ?_
     refine WL_q rfl (q_loadN agg_62 (lk0) rfl rfl (h.whole (by omega))) ?_
     refine WL_c rfl (q_call hg (lk4 rfl <| lk0) (.cons (lk0) .nil) (hp k hlt) (fun _ _ h => h)) ?_
     refine WL_nil ?_
     refine then_n ?_
     refine WC_if_true (lk0) hpk ?_
     refine WC_seq ?_
     refine WC_reg fun ds => ?_
     refine WL_q rfl (q_move (lk4 rfl <| lk2 rfl <| lk0)) ?_
     refine WL_q rfl (q_assign (lk0)) ?_
     refine WL_nil ?_
     refine then_n ?_
     refine WC_ret ?_
     refine block_r (then_r (then_r (block_r (then_r ?_))))
     refine post_ret rfl (.tmp (lk0) .nil) ?_
     show _ = _
     rw [findI_some hlt hpk hno]; rfl
    ·
     replace hpk : p xs[k] = false := by simpa using hpk
     refine WC_skip ?_
     refine then_n ?_
     refine WC_seq ?_
     refine WC_block ?_
     refine WC_seq ?_
     refine WC_reg fun ds => ?_
     refine WL_q rfl (q_move (lk1 rfl <| lk_in rfl hs8)) ?_
     refine WL_q rfl (q_assign (lk0)) ?_
     refine WL_nil ?_
     refine then_n ?_
     refine WC_seq ?_
     refine WC_reg fun ds => ?_
     refine WL_q rfl (q_move (lk2 rfl <| lk1 rfl <| lk_off rfl <| lk4 rfl <| lk_entry rfl)) ?_
     refine WL_q rfl (q_move (lk4 rfl <| lk_off rfl <| lk4 rfl <| lk_entry rfl)) ?_
     refine WL_q rfl (q_move (lk2 rfl <| lk0)) ?_
     refine WL_q rfl (q_index  sl_22 (lk1 rfl <| lk0) h.plain (lk0) rfl (by omega)) ?_
     refine WL_q rfl (q_loadN agg_62 (lk0) rfl rfl (h.whole (by omega))) ?_
     refine WL_c rfl (q_call hg (lk4 rfl <| lk0) (.cons (lk0) .nil) (hp k hlt) (fun _ _ h => h)) ?_
     refine WL_nil ?_
     refine then_n ?_
     refine WC_if_false (lk0) hpk ?_
     refine WC_skip ?_
     refine block_n (then_n ?_)
     refine WC_reg fun ds => ?_
     refine WL_q rfl (q_add (lk8 rfl <| lk1 rfl <| lk_in rfl hs8) lk_const rfl (by omega) (by omega)) ?_
     refine WL_q rfl (q_move (lk0)) ?_
     refine WL_nil ?_
     refine then_n ⟨_, m - 1, Off.eq (ou8 rfl <| ou2 rfl <| ou1 rfl <| off_over), by omega, ?_⟩
     refine ⟨k + 1, by omega, (lk0), rfl, fun j hj hjk => ?_⟩
     rcases Nat.lt_succ_iff_lt_or_eq.1 hjk with hjk | rfl
     · exact hno j hj hjk
     · exact hpk
   ·
    refine WC_seq ?_
    refine WC_reg fun ds => ?_
    refine WL_q rfl (q_lss (lk_in rfl hs8) (lk_off rfl <| lk1 rfl <| lk0)) ?_
    refine WL_nil ?_
    refine then_n ?_
    refine WC_seq ?_
    refine WC_if_false (lk0) (by first | rfl | exact decide_eq_false (by omega)) ?_
    refine WC_exit ?_
    refine then_x (then_x (exit_here ?_))
    refine then_n ?_
    refine WC_seq ?_
    refine WC_reg fun ds => ?_
    refine WL_q rfl (q_assign lk_const) ?_
    refine WL_nil ?_
    refine then_n ?_
    refine WC_ret ?_
    refine post_ret rfl (.tmp (lk0) .nil) ?_
    show _ = _
    rw [findI_none fun j hj => hno j hj (by omega)]; rfl
set_option maxRecDepth 100000 in
theorem containsBook_ok {F : Heap} {v : Value} {xs : List Book} (h : Sl F v 5 Book.enc xs) (p : _ → Bool) {g : FuncId} {cs : List Value} (hg : Body Try.prog g) (hp : ∀ k (hk : k < xs.length), Ok Try.prog g ([Value.agg (Book.enc xs[k]).toArray] ++ cs).toArray F fun r _ => r = .bool (p xs[k])) : Ok Try.prog 49 [v, .func (.func g) #[] cs.toArray].toArray F fun r _ => r = .bool (xs.any p) := by
  refine Ok.intro Try.func49 rfl Try.ntmps49 rfl fun w0 => ?_
  refine WC_seq ?_
  refine WC_reg fun ds => ?_
  refine WL_q rfl (q_assign lk_const) ?_
  refine WL_nil ?_
  refine then_n ?_
  refine WC_seq ?_
  refine WC_reg fun ds => ?_
  refine WL_q rfl (q_move (lk1 rfl <| lk_entry rfl)) ?_
  refine WL_q rfl (q_move (lk2 rfl <| lk_entry rfl)) ?_
  refine WL_c rfl (q_call bd_82 lk_func (.cons (lk1 rfl <| lk0) (.cons (lk0) .nil)) (indexBook_ok h p hg hp) (fun _ _ h => h)) ?_
  refine WL_q rfl (q_geq (lk0) lk_const) ?_
  refine WL_q rfl (q_assign (lk0)) ?_
  refine WL_nil ?_
  refine then_n ?_
  refine WC_ret ?_
  refine post_ret rfl (.tmp (lk0) .nil) ?_
  show _ = _
  rw [← findI_any]; rfl
set_option maxRecDepth 100000 in
theorem check1_ok {F : Heap} {c TB : Nat} {b : Book} (hb : F c = some (bx TB b.enc)) (x : Book) : Ok Try.prog 50 [.agg x.enc.toArray, .pointer (some ⟨c, 0, none⟩)].toArray F fun r _ => r = .bool (sameS x.name b.name) := by
  refine Ok.intro Try.func50 rfl Try.ntmps50 rfl fun w0 => ?_
  refine WC_seq ?_
  refine WC_reg fun ds => ?_
  refine WL_x rfl (x_box (lk_entry rfl) rfl fun b1 hb1 nb1 => ?_)
  refine WL_q rfl (q_assign lk_const) ?_
  refine WL_nil ?_
  refine then_n ?_
  refine WC_seq ?_
  refine WC_reg fun ds => ?_
  refine WL_q rfl (q_fieldAddrB fd_62_0 (lk1 rfl <| lk0)) ?_
  refine WL_q rfl (q_load1 one_9 (lk0) (Cell.own 0 rfl rfl)) ?_
  refine WL_q rfl (q_fieldAddrB fd_62_0 (lk4 rfl <| lk_entry rfl)) ?_
  refine WL_q rfl (q_load1 one_9 (lk0) (CellF.own hb rfl).cell) ?_
  refine WL_q rfl (q_eqs (lk2 rfl <| lk0) (lk0)) ?_
  refine WL_q rfl (q_assign (lk0)) ?_
  refine WL_nil ?_
  refine then_n ?_
  refine WC_ret ?_
  refine post_ret rfl (.tmp (lk0) .nil) ?_
  rfl
set_option maxRecDepth 100000 in
theorem indexRdr_ok {F : Heap} {v : Value} {xs : List Rdr} (h : Sl F v 2 Rdr.enc xs) (p : _ → Bool) {g : FuncId} {cs : List Value} (hg : Body Try.prog g) (hp : ∀ k (hk : k < xs.length), Ok Try.prog g ([Value.agg (Rdr.enc xs[k]).toArray] ++ cs).toArray F fun r _ => r = .bool (p xs[k])) : Ok Try.prog 85 [v, .func (.func g) #[] cs.toArray].toArray F fun r _ => r = .int .i64 (findI p xs) := by
  refine Ok.intro Try.func85 rfl Try.ntmps85 rfl fun w0 => ?_
  have hlen := h.plain.lt
  refine WC_seq ?_
  refine WC_reg fun ds => ?_
  refine WL_q rfl (q_assign lk_const) ?_
  refine WL_nil ?_
  refine then_n ?_
  refine WC_seq ?_
  refine WC_seq ?_
  refine WC_reg fun ds => ?_
  refine WL_q rfl (q_move (lk1 rfl <| lk_entry rfl)) ?_
  refine WL_q rfl (q_lenP sl_23 (lk0) h.plain) ?_
  refine WL_q rfl (q_move lk_const) ?_
  refine WL_nil ?_
  refine then_n ?_
  refine WC_block ?_
  refine WC_loopN [4, 5, 8, 9, 10, 11, 12, 13, 14, 15, 16, 17, 18] (fun m e σ => ∃ k : Nat, m + k = xs.length ∧ e 8 = .int .i64 k ∧ σ = ⟨F, []⟩ ∧ ∀ j (hj : j < xs.length), j < k → p xs[j] = false) (xs.length) ?_ ?_
  · exact ⟨0, by omega, (lk0), rfl, fun j hj h => absurd h (by omega)⟩
  ·
   rintro m e _ ⟨k, hm, hs8, rfl, hno⟩
   by_cases hlt : k < xs.length
   ·
    refine WC_seq ?_
    refine WC_reg fun ds => ?_
    refine WL_q rfl (q_lss (lk_in rfl hs8) (lk_off rfl <| lk1 rfl <| lk0)) ?_
    refine WL_nil ?_
    refine then_n ?_
    refine WC_seq ?_
    refine WC_if_true (lk0) (by first | rfl | exact decide_eq_true (by omega)) ?_
    by_cases hpk : p xs[k] = true
    ·
     refine WC_skip ?_
     refine then_n ?_
     refine WC_seq ?_
     refine WC_block ?_
     refine WC_seq ?_
     refine WC_reg fun ds => ?_
     refine WL_q rfl (q_move (lk1 rfl <| lk_in rfl hs8)) ?_
     refine WL_q rfl (q_assign (lk0)) ?_
     refine WL_nil ?_
     refine then_n ?_
     refine WC_seq ?_
     refine WC_reg fun ds => ?_
     refine WL_q rfl (q_move (lk2 rfl <| lk1 rfl <| lk_off rfl <| lk4 rfl <| lk_entry rfl)) ?_
     refine WL_q rfl (q_move (lk4 rfl <| lk_off rfl <| lk4 rfl <| lk_entry rfl)) ?_
     refine WL_q rfl (q_move (lk2 rfl <| lk0)) ?_
     refine WL_q rfl (q_index  sl_23 (lk1 rfl <| lk0) h.plain (lk0) rfl (by omega)) ?_
     refine WL_q rfl (q_loadN agg_64 (lk0) rfl rfl (h.whole (by omega))) ?_
     refine WL_c rfl (q_call hg (lk4 rfl <| lk0) (.cons (lk0) .nil) (hp k hlt) (fun _ _ h => h)) ?_
     refine WL_nil ?_
     refine then_n ?_
     refine WC_if_true (lk0) hpk ?_
     refine WC_seq ?_
     refine WC_reg fun ds => ?_
     refine WL_q rfl (q_move (lk4 rfl <| lk2 rfl <| lk0)) ?_
     refine WL_q rfl (q_assign (lk0)) ?_
     refine WL_nil ?_
     refine then_n ?_
     refine WC_ret ?_
     refine block_r (then_r (then_r (block_r (then_r ?_))))
     refine post_ret rfl (.tmp (lk0) .nil) ?_
     show _ = _
     rw [findI_some hlt hpk hno]; rfl
    ·
     replace hpk : p xs[k] = false := by simpa using hpk
     refine WC_skip ?_
     refine then_n ?_
     refine WC_seq ?_
     refine WC_block ?_
     refine WC_seq ?_
     refine WC_reg fun ds => ?_
     refine WL_q rfl (q_move (lk1 rfl <| lk_in rfl hs8)) ?_
     refine WL_q rfl (q_assign (lk0)) ?_
     refine WL_nil ?_
     refine then_n ?_
     refine WC_seq ?_
     refine WC_reg fun ds => ?_
     refine WL_q rfl (q_move (lk2 rfl <| lk1 rfl <| lk_off rfl <| lk4 rfl <| lk_entry rfl)) ?_
     refine WL_q rfl (q_move (lk4 rfl <| lk_off rfl <| lk4 rfl <| lk_entry rfl)) ?_
     refine WL_q rfl (q_move (lk2 rfl <| lk0)) ?_
     refine WL_q rfl (q_index  sl_23 (lk1 rfl <| lk0) h.plain (lk0) rfl (by omega)) ?_
     refine WL_q rfl (q_loadN agg_64 (lk0) rfl rfl (h.whole (by omega))) ?_
     refine WL_c rfl (q_call hg (lk4 rfl <| lk0) (.cons (lk0) .nil) (hp k hlt) (fun _ _ h => h)) ?_
     refine WL_nil ?_
     refine then_n ?_
     refine WC_if_false (lk0) hpk ?_
     refine WC_skip ?_
     refine block_n (then_n ?_)
     refine WC_reg fun ds => ?_
     refine WL_q rfl (q_add (lk8 rfl <| lk1 rfl <| lk_in rfl hs8) lk_const rfl (by omega) (by omega)) ?_
     refine WL_q rfl (q_move (lk0)) ?_
     refine WL_nil ?_
     refine then_n ⟨_, m - 1, Off.eq (ou8 rfl <| ou2 rfl <| ou1 rfl <| off_over), by omega, ?_⟩
     refine ⟨k + 1, by omega, (lk0), rfl, fun j hj hjk => ?_⟩
     rcases Nat.lt_succ_iff_lt_or_eq.1 hjk with hjk | rfl
     · exact hno j hj hjk
     · exact hpk
   ·
    refine WC_seq ?_
    refine WC_reg fun ds => ?_
    refine WL_q rfl (q_lss (lk_in rfl hs8) (lk_off rfl <| lk1 rfl <| lk0)) ?_
    refine WL_nil ?_
    refine then_n ?_
    refine WC_seq ?_
    refine WC_if_false (lk0) (by first | rfl | exact decide_eq_false (by omega)) ?_
    refine WC_exit ?_
    refine then_x (then_x (exit_here ?_))
    refine then_n ?_
    refine WC_seq ?_
    refine WC_reg fun ds => ?_
    refine WL_q rfl (q_assign lk_const) ?_
    refine WL_nil ?_
    refine then_n ?_
    refine WC_ret ?_
    refine post_ret rfl (.tmp (lk0) .nil) ?_
    show _ = _
    rw [findI_none fun j hj => hno j hj (by omega)]; rfl
set_option maxRecDepth 100000 in
theorem containsRdr_ok {F : Heap} {v : Value} {xs : List Rdr} (h : Sl F v 2 Rdr.enc xs) (p : _ → Bool) {g : FuncId} {cs : List Value} (hg : Body Try.prog g) (hp : ∀ k (hk : k < xs.length), Ok Try.prog g ([Value.agg (Rdr.enc xs[k]).toArray] ++ cs).toArray F fun r _ => r = .bool (p xs[k])) : Ok Try.prog 52 [v, .func (.func g) #[] cs.toArray].toArray F fun r _ => r = .bool (xs.any p) := by
  refine Ok.intro Try.func52 rfl Try.ntmps52 rfl fun w0 => ?_
  refine WC_seq ?_
  refine WC_reg fun ds => ?_
  refine WL_q rfl (q_assign lk_const) ?_
  refine WL_nil ?_
  refine then_n ?_
  refine WC_seq ?_
  refine WC_reg fun ds => ?_
  refine WL_q rfl (q_move (lk1 rfl <| lk_entry rfl)) ?_
  refine WL_q rfl (q_move (lk2 rfl <| lk_entry rfl)) ?_
  refine WL_c rfl (q_call bd_85 lk_func (.cons (lk1 rfl <| lk0) (.cons (lk0) .nil)) (indexRdr_ok h p hg hp) (fun _ _ h => h)) ?_
  refine WL_q rfl (q_geq (lk0) lk_const) ?_
  refine WL_q rfl (q_assign (lk0)) ?_
  refine WL_nil ?_
  refine then_n ?_
  refine WC_ret ?_
  refine post_ret rfl (.tmp (lk0) .nil) ?_
  show _ = _
  rw [← findI_any]; rfl
set_option maxRecDepth 100000 in
theorem check2_ok {F : Heap} {c TB : Nat} {b : Rdr} (hb : F c = some (bx TB b.enc)) (x : Rdr) : Ok Try.prog 53 [.agg x.enc.toArray, .pointer (some ⟨c, 0, none⟩)].toArray F fun r _ => r = .bool (sameS x.name b.name) := by
  refine Ok.intro Try.func53 rfl Try.ntmps53 rfl fun w0 => ?_
  refine WC_seq ?_
  refine WC_reg fun ds => ?_
  refine WL_x rfl (x_box (lk_entry rfl) rfl fun b1 hb1 nb1 => ?_)
  refine WL_q rfl (q_assign lk_const) ?_
  refine WL_nil ?_
  refine then_n ?_
  refine WC_seq ?_
  refine WC_reg fun ds => ?_
  refine WL_q rfl (q_fieldAddrB fd_64_0 (lk1 rfl <| lk0)) ?_
  refine WL_q rfl (q_load1 one_9 (lk0) (Cell.own 0 rfl rfl)) ?_
  refine WL_q rfl (q_fieldAddrB fd_64_0 (lk4 rfl <| lk_entry rfl)) ?_
  refine WL_q rfl (q_load1 one_9 (lk0) (CellF.own hb rfl).cell) ?_
  refine WL_q rfl (q_eqs (lk2 rfl <| lk0) (lk0)) ?_
  refine WL_q rfl (q_assign (lk0)) ?_
  refine WL_nil ?_
  refine then_n ?_
  refine WC_ret ?_
  refine post_ret rfl (.tmp (lk0) .nil) ?_
  rfl
set_option maxRecDepth 100000 in
theorem check_ok {F : Heap} {vb vr vs vq : Value} {r : Room} (hr : RoomR F vb vr vs vq r) : Ok Try.prog 15 [.agg #[vb, vr, vs, vq]].toArray F fun v _ => v = checkV r := by
  refine Ok.intro Try.func15 rfl Try.ntmps15 rfl fun w0 => ?_
  by_cases h1 : 8 < r.books.length
  ·
   refine WC_seq ?_
   refine WC_reg fun ds => ?_
   refine WL_x rfl (x_box (lk_entry rfl) rfl fun b1 hb1 nb1 => ?_)
   refine WL_q rfl (q_assign lk_const) ?_
   refine WL_q rfl (q_assign lk_const) ?_
   refine WL_q rfl (q_assign lk_const) ?_
   refine WL_nil ?_
   refine then_n ?_
   refine WC_seq ?_
   refine WC_seq ?_
   refine WC_reg fun ds => ?_
   refine WL_q rfl (q_fieldAddrB fd_27_0 (lk2 rfl <| lk1 rfl <| lk0)) ?_
   refine WL_q rfl (q_load1 one_22 (lk0) (Cell.own 0 rfl rfl)) ?_
   refine WL_q rfl (q_lenP sl_22 (lk0) hr.books.plain) ?_
   refine WL_q rfl (q_gtr (lk0) lk_const) ?_
   refine WL_nil ?_
   refine then_n ?_
   refine WC_if_true (lk0) (by first | rfl | exact decide_eq_true (by omega)) ?_
   refine WC_seq ?_
   refine WC_reg fun ds => ?_
   refine WL_q rfl (q_assign lk_const) ?_
   refine WL_q rfl (q_assign lk_const) ?_
   refine WL_q rfl (q_assign lk_const) ?_
   refine WL_nil ?_
   refine then_n ?_
   refine WC_ret ?_
   refine then_r ?_
   refine post_ret rfl (.tmp (lk2 rfl <| lk0) (.tmp (lk1 rfl <| lk0) (.tmp (lk0) .nil))) ?_
   show _ = _
   exact (checkV1 (checkBooks_long h1)).symm
  ·
   refine WC_seq ?_
   refine WC_reg fun ds => ?_
   refine WL_x rfl (x_box (lk_entry rfl) rfl fun b2 hb2 nb2 => ?_)
   refine WL_q rfl (q_assign lk_const) ?_
   refine WL_q rfl (q_assign lk_const) ?_
   refine WL_q rfl (q_assign lk_const) ?_
   refine WL_nil ?_
   refine then_n ?_
   refine WC_seq ?_
   refine WC_seq ?_
   refine WC_reg fun ds => ?_
   refine WL_q rfl (q_fieldAddrB fd_27_0 (lk2 rfl <| lk1 rfl <| lk0)) ?_
   refine WL_q rfl (q_load1 one_22 (lk0) (Cell.own 0 rfl rfl)) ?_
   refine WL_q rfl (q_lenP sl_22 (lk0) hr.books.plain) ?_
   refine WL_q rfl (q_gtr (lk0) lk_const) ?_
   refine WL_nil ?_
   refine then_n ?_
   refine WC_if_false (lk0) (by first | rfl | exact decide_eq_false (by omega)) ?_
   refine WC_skip ?_
   refine then_n ?_
   refine WC_seq ?_
   refine WC_seq ?_
   refine WC_reg fun ds => ?_
   refine WL_q rfl (q_fieldAddrB fd_27_0 (lk4 rfl <| lk2 rfl <| lk1 rfl <| lk0)) ?_
   refine WL_q rfl (q_load1 one_22 (lk0) (Cell.own 0 rfl rfl)) ?_
   refine WL_q rfl (q_lenP sl_22 (lk0) hr.books.plain) ?_
   refine WL_q rfl (q_move lk_const) ?_
   refine WL_nil ?_
   refine then_n ?_
   refine WC_block ?_
   refine WC_loopN [2, 3, 4, 5, 6, 20, 21, 22, 23, 24, 25, 26, 27, 28, 29, 30, 31, 32, 33, 34, 35, 36, 37, 38, 39, 40, 41, 42, 43, 44, 45, 46, 47, 48, 49, 50, 51, 52, 53, 54, 55, 56, 57, 58, 59, 60, 61, 62, 63, 64] (fun m e σ => ∃ G, RoomR G vb vr vs vq r ∧ ∃ k : Nat, m + k = r.books.length ∧ e 20 = .int .i64 k ∧ σ = ⟨G, [(b2, bx 27 [vb, vr, vs, vq])]⟩ ∧ ∀ j, j < k → bookErr r.books j = 0) (r.books.length) ?_ ?_
   · exact ⟨F, hr, 0, by omega, (lk0), rfl, fun j h => absurd h (by omega)⟩
   ·
    rintro m e _ ⟨G, hr, k, hm, hs20, rfl, hno⟩
    by_cases hlt : k < r.books.length
    ·
     refine WC_seq ?_
     refine WC_reg fun ds => ?_
     refine WL_q rfl (q_lss (lk_in rfl hs20) (lk_off rfl <| lk1 rfl <| lk0)) ?_
     refine WL_nil ?_
     refine then_n ?_
     refine WC_seq ?_
     refine WC_if_true (lk0) (by first | rfl | exact decide_eq_true (by omega)) ?_
     by_cases hn : nameOk r.books[k].name = true
     ·
      refine WC_skip ?_
      refine then_n ?_
      refine WC_seq ?_
      refine WC_block ?_
      refine WC_seq ?_
      refine WC_reg fun ds => ?_
      refine WL_q rfl (q_move (lk1 rfl <| lk_in rfl hs20)) ?_
      refine WL_q rfl (q_index  sl_22 (lk2 rfl <| lk_off rfl <| lk2 rfl <| lk0) hr.books.plain (lk2 rfl <| lk_in rfl hs20) rfl (by omega)) ?_
      refine WL_q rfl (q_loadN agg_62 (lk0) rfl rfl (hr.books.whole (by omega))) ?_
      refine WL_x rfl (x_alloc zr_62 rfl fun b4 hb4 nb4 => ?_)
      refine WL_q rfl (q_assign (lk2 rfl <| lk1 rfl <| lk0)) ?_
      refine WL_x0 (x_storeA sz_62 (lk1 rfl <| lk0) (lk2 rfl <| lk0) (i := 0) rfl rfl rfl rfl Book.enc_one (.here) ?_)
      refine WL_nil ?_
      refine then_n ?_
      refine WC_block ?_
      refine WC_seq ?_
      refine WC_reg fun ds => ?_
      refine WL_q rfl (q_fieldAddrB fd_62_0 (lk1 rfl <| lk0)) ?_
      refine WL_q rfl (q_load1 one_9 (lk0) (Cell.own 0 rfl rfl)) ?_
      refine WL_c rfl (q_call bd_48 lk_func (.cons (lk0) .nil) (quireName_ok _) (fun _ _ h => h)) ?_
      refine WL_q rfl (q_not (lk0)) ?_
      refine WL_q rfl (q_assign (lk0)) ?_
      refine WL_nil ?_
      refine then_n ?_
      refine WC_if_false (lk0) (by first | exact hn | (simp [hn]; done)) ?_
      refine WC_freeze (i := 0) rfl hb4 (.here) fun F5 hF6 hq => ?_
      replace hr := hr.mono hF6
      by_cases ht : (r.books.take k).any (fun y => sameS y.name r.books[k].name) = true
      ·
       refine WC_seq ?_
       refine WC_reg fun ds => ?_
       refine WL_q rfl (q_fieldAddrB fd_27_0 (lk8 rfl <| lk2 rfl <| lk1 rfl <| lk_off rfl <| lk8 rfl <| lk2 rfl <| lk1 rfl <| lk0)) ?_
       refine WL_q rfl (q_load1 one_22 (lk0) (Cell.own 0 rfl rfl)) ?_
       refine WL_q rfl (q_move (lk4 rfl <| lk2 rfl <| lk1 rfl <| lk0)) ?_
       refine WL_q rfl (q_sliceTo sl_22 (lk1 rfl <| lk0) hr.books.plain (lk0) rfl (Nat.le_of_lt hlt)) ?_
       refine WL_q rfl (q_makeFunc (.cons (lk8 rfl <| lk2 rfl <| lk0) .nil)) ?_
       refine WL_c rfl (q_call bd_49 lk_func (.cons (lk1 rfl <| lk0) (.cons (lk0) .nil)) (containsBook_ok (hr.books.to (Nat.le_of_lt hlt)) (fun y => sameS y.name r.books[k].name) bd_50 fun i hi => check1_ok hq _) (fun _ _ h => h)) ?_
       refine WL_q rfl (q_assign (lk0)) ?_
       refine WL_nil ?_
       refine then_n ?_
       refine WC_if_true (lk0) (by first | exact ht | (simp [ht]; done)) ?_
       refine WC_seq ?_
       refine WC_reg fun ds => ?_
       refine WL_q rfl (q_move (lk8 rfl <| lk4 rfl <| lk0)) ?_
       refine WL_q rfl (q_assign lk_const) ?_
       refine WL_q rfl (q_assign (lk1 rfl <| lk0)) ?_
       refine WL_q rfl (q_assign lk_const) ?_
       refine WL_nil ?_
       refine then_n ?_
       refine WC_ret ?_
       refine block_r (block_r (then_r (then_r (block_r (then_r ?_)))))
       refine post_ret rfl (.tmp (lk2 rfl <| lk0) (.tmp (lk1 rfl <| lk0) (.tmp (lk0) .nil))) ?_
       show _ = _
       exact (checkV1 (checkBooks_bad h1 hlt hno (by rw [bookErr_at hlt]; simp [hn, ht]) (by decide))).symm
      ·
       replace ht : (r.books.take k).any (fun y => sameS y.name r.books[k].name) = false := by simpa using ht
       refine WC_seq ?_
       refine WC_reg fun ds => ?_
       refine WL_q rfl (q_fieldAddrB fd_27_0 (lk8 rfl <| lk2 rfl <| lk1 rfl <| lk_off rfl <| lk8 rfl <| lk2 rfl <| lk1 rfl <| lk0)) ?_
       refine WL_q rfl (q_load1 one_22 (lk0) (Cell.own 0 rfl rfl)) ?_
       refine WL_q rfl (q_move (lk4 rfl <| lk2 rfl <| lk1 rfl <| lk0)) ?_
       refine WL_q rfl (q_sliceTo sl_22 (lk1 rfl <| lk0) hr.books.plain (lk0) rfl (Nat.le_of_lt hlt)) ?_
       refine WL_q rfl (q_makeFunc (.cons (lk8 rfl <| lk2 rfl <| lk0) .nil)) ?_
       refine WL_c rfl (q_call bd_49 lk_func (.cons (lk1 rfl <| lk0) (.cons (lk0) .nil)) (containsBook_ok (hr.books.to (Nat.le_of_lt hlt)) (fun y => sameS y.name r.books[k].name) bd_50 fun i hi => check1_ok hq _) (fun _ _ h => h)) ?_
       refine WL_q rfl (q_assign (lk0)) ?_
       refine WL_nil ?_
       refine then_n ?_
       refine WC_if_false (lk0) (by first | exact ht | (simp [ht]; done)) ?_
       by_cases h1c : inB 0 5 r.books[k].cls = true
       ·
        refine WC_seq ?_
        refine WC_reg fun ds => ?_
        refine WL_q rfl (q_fieldAddrB fd_62_1 (lk8 rfl <| lk4 rfl <| lk1 rfl <| lk0)) ?_
        refine WL_q rfl (q_load1 one_3 (lk0) (CellF.own hq rfl).cell) ?_
        refine WL_x rfl (x_build sl_29 zr_3 rfl (.cons (lk0) .nil) rfl rfl (by decide) (by simp [Value.oneCell']) fun b7 hb7 nb7 => ?_)
        refine WL_freeze (i := 0) rfl hb7 .here fun F8 hF9 hz10 => ?_
        replace hr := hr.mono hF9
        replace hq := hF9 _ _ hq
        have hsl11 := ints_box1 hz10
        refine WL_c rfl (q_call bd_51 lk_func (.cons lk_const (.cons lk_const (.cons (lk0) .nil))) (outside_ok _ _ hsl11) (fun _ _ h => h)) ?_
        refine WL_q rfl (q_move (lk0)) ?_
        refine WL_want rfl rfl (lk0) (by first | exact h1c | (simp [h1c]; done)) ?_
        refine WL_q rfl (q_fieldAddrB fd_62_2 (lk16 rfl <| lk2 rfl <| lk0)) ?_
        refine WL_want rfl rfl (lk1 rfl <| lk0) (by first | exact h1c | (simp [h1c]; done)) ?_
        refine WL_q rfl (q_fieldAddrB fd_60_0 (lk0)) ?_
        refine WL_want rfl rfl (lk2 rfl <| lk0) (by first | exact h1c | (simp [h1c]; done)) ?_
        refine WL_q rfl (q_load1 one_3 (lk0) (CellF.own hq rfl).cell) ?_
        refine WL_want rfl rfl (lk2 rfl <| lk1 rfl <| lk0) (by first | exact h1c | (simp [h1c]; done)) ?_
        refine WL_q rfl (q_fieldAddrB fd_62_2 (lk16 rfl <| lk4 rfl <| lk1 rfl <| lk0)) ?_
        refine WL_want rfl rfl (lk4 rfl <| lk0) (by first | exact h1c | (simp [h1c]; done)) ?_
        refine WL_q rfl (q_fieldAddrB fd_60_1 (lk0)) ?_
        refine WL_want rfl rfl (lk4 rfl <| lk1 rfl <| lk0) (by first | exact h1c | (simp [h1c]; done)) ?_
        refine WL_q rfl (q_load1 one_3 (lk0) (CellF.own hq rfl).cell) ?_
        refine WL_want rfl rfl (lk4 rfl <| lk2 rfl <| lk0) (by first | exact h1c | (simp [h1c]; done)) ?_
        refine WL_x rfl (x_build sl_29 zr_3 rfl (.cons (lk2 rfl <| lk1 rfl <| lk0) (.cons (lk0) .nil)) rfl rfl (by decide) (by simp [Value.oneCell']) fun b12 hb12 nb12 => ?_)
        refine WL_freeze (i := 0) rfl hb12 .here fun F13 hF14 hz15 => ?_
        replace hr := hr.mono hF14
        replace hsl11 := hsl11.mono hF14
        replace hq := hF14 _ _ hq
        have hsl16 := ints_box2 hz15
        refine WL_want rfl rfl (lk4 rfl <| lk2 rfl <| lk1 rfl <| lk0) (by first | exact h1c | (simp [h1c]; done)) ?_
        refine WL_c rfl (q_call bd_51 lk_func (.cons lk_const (.cons lk_const (.cons (lk0) .nil))) (outside_ok _ _ hsl16) (fun _ _ h => h)) ?_
        refine WL_q rfl (q_pick_false (lk8 rfl <| lk0) (by first | exact h1c | (simp [h1c]; done)) (lk0)) ?_
        refine WL_q rfl (q_assign (lk0)) ?_
        refine WL_nil ?_
        refine then_n ?_
        by_cases h1l : (inB 0 1000 r.books[k].lo && inB 0 1000 r.books[k].hi) = true
        ·
         refine WC_if_false (lk0) (by simpa using h1l) ?_
         by_cases hw : r.books[k].hi < r.books[k].lo
         ·
          refine WC_seq ?_
          refine WC_reg fun ds => ?_
          refine WL_q rfl (q_fieldAddrB fd_62_2 (lk16 rfl <| lk8 rfl <| lk4 rfl <| lk0)) ?_
          refine WL_q rfl (q_fieldAddrB fd_60_0 (lk0)) ?_
          refine WL_q rfl (q_load1 one_3 (lk0) (CellF.own hq rfl).cell) ?_
          refine WL_q rfl (q_fieldAddrB fd_62_2 (lk16 rfl <| lk8 rfl <| lk4 rfl <| lk2 rfl <| lk1 rfl <| lk0)) ?_
          refine WL_q rfl (q_fieldAddrB fd_60_1 (lk0)) ?_
          refine WL_q rfl (q_load1 one_3 (lk0) (CellF.own hq rfl).cell) ?_
          refine WL_q rfl (q_gtr (lk2 rfl <| lk1 rfl <| lk0) (lk0)) ?_
          refine WL_q rfl (q_assign (lk0)) ?_
          refine WL_nil ?_
          refine then_n ?_
          refine WC_if_true (lk0) (by first | rfl | exact decide_eq_true (by omega)) ?_
          refine WC_seq ?_
          refine WC_reg fun ds => ?_
          refine WL_q rfl (q_move (lk32 rfl <| lk2 rfl <| lk1 rfl <| lk0)) ?_
          refine WL_q rfl (q_assign lk_const) ?_
          refine WL_q rfl (q_assign (lk1 rfl <| lk0)) ?_
          refine WL_q rfl (q_assign lk_const) ?_
          refine WL_nil ?_
          refine then_n ?_
          refine WC_ret ?_
          refine block_r (block_r (then_r (then_r (block_r (then_r ?_)))))
          refine post_ret rfl (.tmp (lk2 rfl <| lk0) (.tmp (lk1 rfl <| lk0) (.tmp (lk0) .nil))) ?_
          show _ = _
          exact (checkV1 (checkBooks_bad h1 hlt hno (by rw [bookErr_at hlt]; simp [hn, ht, h1c, h1l, hw]) (by decide))).symm
         ·
          refine WC_seq ?_
          refine WC_reg fun ds => ?_
          refine WL_q rfl (q_fieldAddrB fd_62_2 (lk16 rfl <| lk8 rfl <| lk4 rfl <| lk0)) ?_
          refine WL_q rfl (q_fieldAddrB fd_60_0 (lk0)) ?_
          refine WL_q rfl (q_load1 one_3 (lk0) (CellF.own hq rfl).cell) ?_
          refine WL_q rfl (q_fieldAddrB fd_62_2 (lk16 rfl <| lk8 rfl <| lk4 rfl <| lk2 rfl <| lk1 rfl <| lk0)) ?_
          refine WL_q rfl (q_fieldAddrB fd_60_1 (lk0)) ?_
          refine WL_q rfl (q_load1 one_3 (lk0) (CellF.own hq rfl).cell) ?_
          refine WL_q rfl (q_gtr (lk2 rfl <| lk1 rfl <| lk0) (lk0)) ?_
          refine WL_q rfl (q_assign (lk0)) ?_
          refine WL_nil ?_
          refine then_n ?_
          refine WC_if_false (lk0) (by first | rfl | exact decide_eq_false (by omega)) ?_
          refine WC_skip ?_
          refine block_n (block_n (then_n ?_))
          refine WC_reg fun ds => ?_
          refine WL_q rfl (q_add (lk32 rfl <| lk8 rfl <| lk1 rfl <| lk_in rfl hs20) lk_const rfl (by omega) (by omega)) ?_
          refine WL_q rfl (q_move (lk0)) ?_
          refine WL_nil ?_
          refine then_n ⟨_, m - 1, Off.eq (ou32 rfl <| ou8 rfl <| ou2 rfl <| ou1 rfl <| off_over), by omega, ?_⟩
          refine ⟨_, hr, k + 1, by omega, (lk0), rfl, fun j hjk => ?_⟩
          rcases Nat.lt_succ_iff_lt_or_eq.1 hjk with hjk | rfl
          · exact hno j hjk
          · rw [bookErr_at hlt]; simp [hn, ht, h1c, h1l, hw]
        ·
         replace h1l : (inB 0 1000 r.books[k].lo && inB 0 1000 r.books[k].hi) = false := by simpa using h1l
         refine WC_if_true (lk0) (by rcases Bool.and_eq_false_iff.1 h1l with h | h <;> simp [h]) ?_
         refine WC_seq ?_
         refine WC_reg fun ds => ?_
         refine WL_q rfl (q_move (lk16 rfl <| lk8 rfl <| lk2 rfl <| lk1 rfl <| lk0)) ?_
         refine WL_q rfl (q_assign lk_const) ?_
         refine WL_q rfl (q_assign (lk1 rfl <| lk0)) ?_
         refine WL_q rfl (q_assign lk_const) ?_
         refine WL_nil ?_
         refine then_n ?_
         refine WC_ret ?_
         refine block_r (block_r (then_r (then_r (block_r (then_r ?_)))))
         refine post_ret rfl (.tmp (lk2 rfl <| lk0) (.tmp (lk1 rfl <| lk0) (.tmp (lk0) .nil))) ?_
         show _ = _
         exact (checkV1 (checkBooks_bad h1 hlt hno (by rw [bookErr_at hlt]; simp [hn, ht, h1c, h1l]) (by decide))).symm
       ·
        replace h1c : inB 0 5 r.books[k].cls = false := by simpa using h1c
        refine WC_seq ?_
        refine WC_reg fun ds => ?_
        refine WL_q rfl (q_fieldAddrB fd_62_1 (lk8 rfl <| lk4 rfl <| lk1 rfl <| lk0)) ?_
        refine WL_q rfl (q_load1 one_3 (lk0) (CellF.own hq rfl).cell) ?_
        refine WL_x rfl (x_build sl_29 zr_3 rfl (.cons (lk0) .nil) rfl rfl (by decide) (by simp [Value.oneCell']) fun b17 hb17 nb17 => ?_)
        refine WL_freeze (i := 0) rfl hb17 .here fun F18 hF19 hz20 => ?_
        replace hr := hr.mono hF19
        replace hq := hF19 _ _ hq
        have hsl21 := ints_box1 hz20
        refine WL_c rfl (q_call bd_51 lk_func (.cons lk_const (.cons lk_const (.cons (lk0) .nil))) (outside_ok _ _ hsl21) (fun _ _ h => h)) ?_
        refine WL_q rfl (q_move (lk0)) ?_
        refine WL_pass rfl rfl (lk0) (.inl (congrArg Value.bool (by simp [h1c]))) rfl ?_
        refine WL_pass rfl rfl (lk1 rfl <| lk0) (.inl (congrArg Value.bool (by simp [h1c]))) rfl ?_
        refine WL_pass rfl rfl (lk2 rfl <| lk0) (.inl (congrArg Value.bool (by simp [h1c]))) rfl ?_
        refine WL_pass rfl rfl (lk2 rfl <| lk1 rfl <| lk0) (.inl (congrArg Value.bool (by simp [h1c]))) rfl ?_
        refine WL_pass rfl rfl (lk4 rfl <| lk0) (.inl (congrArg Value.bool (by simp [h1c]))) rfl ?_
        refine WL_pass rfl rfl (lk4 rfl <| lk1 rfl <| lk0) (.inl (congrArg Value.bool (by simp [h1c]))) rfl ?_
        refine WL_pass rfl rfl (lk4 rfl <| lk2 rfl <| lk0) (.inl (congrArg Value.bool (by simp [h1c]))) rfl ?_
        refine WL_pass rfl rfl (lk4 rfl <| lk2 rfl <| lk1 rfl <| lk0) (.inl (congrArg Value.bool (by simp [h1c]))) rfl ?_
        refine WL_q rfl (q_pick_true (lk8 rfl <| lk0) (by simp [h1c]) lk_const) ?_
        refine WL_q rfl (q_assign (lk0)) ?_
        refine WL_nil ?_
        refine then_n ?_
        refine WC_if_true (lk0) (by first | rfl | simp [h1c]) ?_
        refine WC_seq ?_
        refine WC_reg fun ds => ?_
        refine WL_q rfl (q_move (lk16 rfl <| lk8 rfl <| lk2 rfl <| lk1 rfl <| lk0)) ?_
        refine WL_q rfl (q_assign lk_const) ?_
        refine WL_q rfl (q_assign (lk1 rfl <| lk0)) ?_
        refine WL_q rfl (q_assign lk_const) ?_
        refine WL_nil ?_
        refine then_n ?_
        refine WC_ret ?_
        refine block_r (block_r (then_r (then_r (block_r (then_r ?_)))))
        refine post_ret rfl (.tmp (lk2 rfl <| lk0) (.tmp (lk1 rfl <| lk0) (.tmp (lk0) .nil))) ?_
        show _ = _
        exact (checkV1 (checkBooks_bad h1 hlt hno (by rw [bookErr_at hlt]; simp [hn, ht, h1c]) (by decide))).symm
     ·
      replace hn : nameOk r.books[k].name = false := by simpa using hn
      refine WC_skip ?_
      refine then_n ?_
      refine WC_seq ?_
      refine WC_block ?_
      refine WC_seq ?_
      refine WC_reg fun ds => ?_
      refine WL_q rfl (q_move (lk1 rfl <| lk_in rfl hs20)) ?_
      refine WL_q rfl (q_index  sl_22 (lk2 rfl <| lk_off rfl <| lk2 rfl <| lk0) hr.books.plain (lk2 rfl <| lk_in rfl hs20) rfl (by omega)) ?_
      refine WL_q rfl (q_loadN agg_62 (lk0) rfl rfl (hr.books.whole (by omega))) ?_
      refine WL_x rfl (x_alloc zr_62 rfl fun b22 hb22 nb22 => ?_)
      refine WL_q rfl (q_assign (lk2 rfl <| lk1 rfl <| lk0)) ?_
      refine WL_x0 (x_storeA sz_62 (lk1 rfl <| lk0) (lk2 rfl <| lk0) (i := 0) rfl rfl rfl rfl Book.enc_one (.here) ?_)
      refine WL_nil ?_
      refine then_n ?_
      refine WC_block ?_
      refine WC_seq ?_
      refine WC_reg fun ds => ?_
      refine WL_q rfl (q_fieldAddrB fd_62_0 (lk1 rfl <| lk0)) ?_
      refine WL_q rfl (q_load1 one_9 (lk0) (Cell.own 0 rfl rfl)) ?_
      refine WL_c rfl (q_call bd_48 lk_func (.cons (lk0) .nil) (quireName_ok _) (fun _ _ h => h)) ?_
      refine WL_q rfl (q_not (lk0)) ?_
      refine WL_q rfl (q_assign (lk0)) ?_
      refine WL_nil ?_
      refine then_n ?_
      refine WC_if_true (lk0) (by first | exact hn | (simp [hn]; done)) ?_
      refine WC_seq ?_
      refine WC_reg fun ds => ?_
      refine WL_q rfl (q_move (lk4 rfl <| lk1 rfl <| lk0)) ?_
      refine WL_q rfl (q_assign lk_const) ?_
      refine WL_q rfl (q_assign (lk1 rfl <| lk0)) ?_
      refine WL_q rfl (q_assign lk_const) ?_
      refine WL_nil ?_
      refine then_n ?_
      refine WC_ret ?_
      refine block_r (block_r (then_r (then_r (block_r (then_r ?_)))))
      refine post_ret rfl (.tmp (lk2 rfl <| lk0) (.tmp (lk1 rfl <| lk0) (.tmp (lk0) .nil))) ?_
      show _ = _
      exact (checkV1 (checkBooks_bad h1 hlt hno (by rw [bookErr_at hlt]; simp [hn]) (by decide))).symm
    ·
     refine WC_seq ?_
     refine WC_reg fun ds => ?_
     refine WL_q rfl (q_lss (lk_in rfl hs20) (lk_off rfl <| lk1 rfl <| lk0)) ?_
     refine WL_nil ?_
     refine then_n ?_
     refine WC_seq ?_
     refine WC_if_false (lk0) (by first | rfl | exact decide_eq_false (by omega)) ?_
     have hB := checkBooks_ok h1 fun j hj => hno j (by omega)
     by_cases h2 : 8 < r.readers.length
     ·
      refine WC_exit ?_
      refine then_x (then_x (exit_here ?_))
      refine then_n ?_
      refine WC_seq ?_
      refine WC_seq ?_
      refine WC_reg fun ds => ?_
      refine WL_q rfl (q_fieldAddrB fd_27_1 (lk1 rfl <| lk_off rfl <| lk8 rfl <| lk2 rfl <| lk1 rfl <| lk0)) ?_
      refine WL_q rfl (q_load1 one_23 (lk0) (Cell.own 0 rfl rfl)) ?_
      refine WL_q rfl (q_lenP sl_23 (lk0) hr.readers.plain) ?_
      refine WL_q rfl (q_gtr (lk0) lk_const) ?_
      refine WL_nil ?_
      refine then_n ?_
      refine WC_if_true (lk0) (by first | rfl | exact decide_eq_true (by omega)) ?_
      refine WC_seq ?_
      refine WC_reg fun ds => ?_
      refine WL_q rfl (q_assign lk_const) ?_
      refine WL_q rfl (q_assign lk_const) ?_
      refine WL_q rfl (q_assign lk_const) ?_
      refine WL_nil ?_
      refine then_n ?_
      refine WC_ret ?_
      refine then_r ?_
      refine post_ret rfl (.tmp (lk2 rfl <| lk0) (.tmp (lk1 rfl <| lk0) (.tmp (lk0) .nil))) ?_
      show _ = _
      exact (checkV2 hB (checkRdrs_long h2)).symm
     ·
      refine WC_exit ?_
      refine then_x (then_x (exit_here ?_))
      refine then_n ?_
      refine WC_seq ?_
      refine WC_seq ?_
      refine WC_reg fun ds => ?_
      refine WL_q rfl (q_fieldAddrB fd_27_1 (lk1 rfl <| lk_off rfl <| lk8 rfl <| lk2 rfl <| lk1 rfl <| lk0)) ?_
      refine WL_q rfl (q_load1 one_23 (lk0) (Cell.own 0 rfl rfl)) ?_
      refine WL_q rfl (q_lenP sl_23 (lk0) hr.readers.plain) ?_
      refine WL_q rfl (q_gtr (lk0) lk_const) ?_
      refine WL_nil ?_
      refine then_n ?_
      refine WC_if_false (lk0) (by first | rfl | exact decide_eq_false (by omega)) ?_
      refine WC_skip ?_
      refine then_n ?_
      refine WC_seq ?_
      refine WC_seq ?_
      refine WC_reg fun ds => ?_
      refine WL_q rfl (q_fieldAddrB fd_27_1 (lk4 rfl <| lk1 rfl <| lk_off rfl <| lk8 rfl <| lk2 rfl <| lk1 rfl <| lk0)) ?_
      refine WL_q rfl (q_load1 one_23 (lk0) (Cell.own 0 rfl rfl)) ?_
      refine WL_q rfl (q_lenP sl_23 (lk0) hr.readers.plain) ?_
      refine WL_q rfl (q_move lk_const) ?_
      refine WL_nil ?_
      refine then_n ?_
      refine WC_block ?_
      refine WC_loopN [2, 3, 4, 7, 8, 72, 73, 74, 75, 76, 77, 78, 79, 80, 81, 82, 83, 84, 85, 86, 87, 88, 89, 90, 91, 92, 93, 94, 95, 96, 97] (fun m e σ => ∃ G, RoomR G vb vr vs vq r ∧ ∃ k : Nat, m + k = r.readers.length ∧ e 72 = .int .i64 k ∧ σ = ⟨G, [(b2, bx 27 [vb, vr, vs, vq])]⟩ ∧ ∀ j, j < k → rdrErr r.readers j = 0) (r.readers.length) ?_ ?_
      · exact ⟨G, hr, 0, by omega, (lk0), rfl, fun j h => absurd h (by omega)⟩
      ·
       rintro m e _ ⟨G, hr, k, hm, hs72, rfl, hno⟩
       by_cases hlt : k < r.readers.length
       ·
        refine WC_seq ?_
        refine WC_reg fun ds => ?_
        refine WL_q rfl (q_lss (lk_in rfl hs72) (lk_off rfl <| lk1 rfl <| lk0)) ?_
        refine WL_nil ?_
        refine then_n ?_
        refine WC_seq ?_
        refine WC_if_true (lk0) (by first | rfl | exact decide_eq_true (by omega)) ?_
        by_cases hn : nameOk r.readers[k].name = true
        ·
         refine WC_skip ?_
         refine then_n ?_
         refine WC_seq ?_
         refine WC_block ?_
         refine WC_seq ?_
         refine WC_reg fun ds => ?_
         refine WL_q rfl (q_move (lk1 rfl <| lk_in rfl hs72)) ?_
         refine WL_q rfl (q_index  sl_23 (lk2 rfl <| lk_off rfl <| lk2 rfl <| lk0) hr.readers.plain (lk2 rfl <| lk_in rfl hs72) rfl (by omega)) ?_
         refine WL_q rfl (q_loadN agg_64 (lk0) rfl rfl (hr.readers.whole (by omega))) ?_
         refine WL_x rfl (x_alloc zr_64 rfl fun b24 hb24 nb24 => ?_)
         refine WL_q rfl (q_assign (lk2 rfl <| lk1 rfl <| lk0)) ?_
         refine WL_x0 (x_storeA sz_64 (lk1 rfl <| lk0) (lk2 rfl <| lk0) (i := 0) rfl rfl rfl rfl Rdr.enc_one (.here) ?_)
         refine WL_nil ?_
         refine then_n ?_
         refine WC_block ?_
         refine WC_seq ?_
         refine WC_reg fun ds => ?_
         refine WL_q rfl (q_fieldAddrB fd_64_0 (lk1 rfl <| lk0)) ?_
         refine WL_q rfl (q_load1 one_9 (lk0) (Cell.own 0 rfl rfl)) ?_
         refine WL_c rfl (q_call bd_48 lk_func (.cons (lk0) .nil) (quireName_ok _) (fun _ _ h => h)) ?_
         refine WL_q rfl (q_not (lk0)) ?_
         refine WL_q rfl (q_assign (lk0)) ?_
         refine WL_nil ?_
         refine then_n ?_
         refine WC_if_false (lk0) (by first | exact hn | (simp [hn]; done)) ?_
         refine WC_freeze (i := 0) rfl hb24 (.here) fun F25 hF26 hq => ?_
         replace hr := hr.mono hF26
         by_cases ht : (r.readers.take k).any (fun y => sameS y.name r.readers[k].name) = true
         ·
          refine WC_seq ?_
          refine WC_reg fun ds => ?_
          refine WL_q rfl (q_fieldAddrB fd_27_1 (lk8 rfl <| lk2 rfl <| lk1 rfl <| lk_off rfl <| lk8 rfl <| lk1 rfl <| lk_off rfl <| lk8 rfl <| lk2 rfl <| lk1 rfl <| lk0)) ?_
          refine WL_q rfl (q_load1 one_23 (lk0) (Cell.own 0 rfl rfl)) ?_
          refine WL_q rfl (q_move (lk4 rfl <| lk2 rfl <| lk1 rfl <| lk0)) ?_
          refine WL_q rfl (q_sliceTo sl_23 (lk1 rfl <| lk0) hr.readers.plain (lk0) rfl (Nat.le_of_lt hlt)) ?_
          refine WL_q rfl (q_makeFunc (.cons (lk8 rfl <| lk2 rfl <| lk0) .nil)) ?_
          refine WL_c rfl (q_call bd_52 lk_func (.cons (lk1 rfl <| lk0) (.cons (lk0) .nil)) (containsRdr_ok (hr.readers.to (Nat.le_of_lt hlt)) (fun y => sameS y.name r.readers[k].name) bd_53 fun i hi => check2_ok hq _) (fun _ _ h => h)) ?_
          refine WL_q rfl (q_assign (lk0)) ?_
          refine WL_nil ?_
          refine then_n ?_
          refine WC_if_true (lk0) (by first | exact ht | (simp [ht]; done)) ?_
          refine WC_seq ?_
          refine WC_reg fun ds => ?_
          refine WL_q rfl (q_move (lk8 rfl <| lk4 rfl <| lk0)) ?_
          refine WL_q rfl (q_assign lk_const) ?_
          refine WL_q rfl (q_assign (lk1 rfl <| lk0)) ?_
          refine WL_q rfl (q_assign lk_const) ?_
          refine WL_nil ?_
          refine then_n ?_
          refine WC_ret ?_
          refine block_r (block_r (then_r (then_r (block_r (then_r ?_)))))
          refine post_ret rfl (.tmp (lk2 rfl <| lk0) (.tmp (lk1 rfl <| lk0) (.tmp (lk0) .nil))) ?_
          show _ = _
          exact (checkV2 hB (checkRdrs_bad h2 hlt hno (by rw [rdrErr_at hlt]; simp [hn, ht]) (by decide))).symm
         ·
          replace ht : (r.readers.take k).any (fun y => sameS y.name r.readers[k].name) = false := by simpa using ht
          refine WC_seq ?_
          refine WC_reg fun ds => ?_
          refine WL_q rfl (q_fieldAddrB fd_27_1 (lk8 rfl <| lk2 rfl <| lk1 rfl <| lk_off rfl <| lk8 rfl <| lk1 rfl <| lk_off rfl <| lk8 rfl <| lk2 rfl <| lk1 rfl <| lk0)) ?_
          refine WL_q rfl (q_load1 one_23 (lk0) (Cell.own 0 rfl rfl)) ?_
          refine WL_q rfl (q_move (lk4 rfl <| lk2 rfl <| lk1 rfl <| lk0)) ?_
          refine WL_q rfl (q_sliceTo sl_23 (lk1 rfl <| lk0) hr.readers.plain (lk0) rfl (Nat.le_of_lt hlt)) ?_
          refine WL_q rfl (q_makeFunc (.cons (lk8 rfl <| lk2 rfl <| lk0) .nil)) ?_
          refine WL_c rfl (q_call bd_52 lk_func (.cons (lk1 rfl <| lk0) (.cons (lk0) .nil)) (containsRdr_ok (hr.readers.to (Nat.le_of_lt hlt)) (fun y => sameS y.name r.readers[k].name) bd_53 fun i hi => check2_ok hq _) (fun _ _ h => h)) ?_
          refine WL_q rfl (q_assign (lk0)) ?_
          refine WL_nil ?_
          refine then_n ?_
          refine WC_if_false (lk0) (by first | exact ht | (simp [ht]; done)) ?_
          by_cases h1c : inB 0 5 r.readers[k].permit = true
          ·
           refine WC_seq ?_
           refine WC_reg fun ds => ?_
           refine WL_q rfl (q_fieldAddrB fd_64_1 (lk8 rfl <| lk4 rfl <| lk1 rfl <| lk0)) ?_
           refine WL_q rfl (q_load1 one_3 (lk0) (CellF.own hq rfl).cell) ?_
           refine WL_x rfl (x_build sl_29 zr_3 rfl (.cons (lk0) .nil) rfl rfl (by decide) (by simp [Value.oneCell']) fun b27 hb27 nb27 => ?_)
           refine WL_freeze (i := 0) rfl hb27 .here fun F28 hF29 hz30 => ?_
           replace hr := hr.mono hF29
           replace hq := hF29 _ _ hq
           have hsl31 := ints_box1 hz30
           refine WL_c rfl (q_call bd_51 lk_func (.cons lk_const (.cons lk_const (.cons (lk0) .nil))) (outside_ok _ _ hsl31) (fun _ _ h => h)) ?_
           refine WL_q rfl (q_assign (lk0)) ?_
           refine WL_nil ?_
           refine then_n ?_
           refine WC_if_false (lk0) (by simp [h1c]) ?_
           refine WC_skip ?_
           refine block_n (block_n (then_n ?_))
           refine WC_reg fun ds => ?_
           refine WL_q rfl (q_add (lk16 rfl <| lk4 rfl <| lk2 rfl <| lk1 rfl <| lk_in rfl hs72) lk_const rfl (by omega) (by omega)) ?_
           refine WL_q rfl (q_move (lk0)) ?_
           refine WL_nil ?_
           refine then_n ⟨_, m - 1, Off.eq (ou16 rfl <| ou8 rfl <| ou1 rfl <| off_over), by omega, ?_⟩
           refine ⟨_, hr, k + 1, by omega, (lk0), rfl, fun j hjk => ?_⟩
           rcases Nat.lt_succ_iff_lt_or_eq.1 hjk with hjk | rfl
           · exact hno j hjk
           · rw [rdrErr_at hlt]; simp [hn, ht, h1c]
          ·
           replace h1c : inB 0 5 r.readers[k].permit = false := by simpa using h1c
           refine WC_seq ?_
           refine WC_reg fun ds => ?_
           refine WL_q rfl (q_fieldAddrB fd_64_1 (lk8 rfl <| lk4 rfl <| lk1 rfl <| lk0)) ?_
           refine WL_q rfl (q_load1 one_3 (lk0) (CellF.own hq rfl).cell) ?_
           refine WL_x rfl (x_build sl_29 zr_3 rfl (.cons (lk0) .nil) rfl rfl (by decide) (by simp [Value.oneCell']) fun b32 hb32 nb32 => ?_)
           refine WL_freeze (i := 0) rfl hb32 .here fun F33 hF34 hz35 => ?_
           replace hr := hr.mono hF34
           replace hq := hF34 _ _ hq
           have hsl36 := ints_box1 hz35
           refine WL_c rfl (q_call bd_51 lk_func (.cons lk_const (.cons lk_const (.cons (lk0) .nil))) (outside_ok _ _ hsl36) (fun _ _ h => h)) ?_
           refine WL_q rfl (q_assign (lk0)) ?_
           refine WL_nil ?_
           refine then_n ?_
           refine WC_if_true (lk0) (by simp [h1c]) ?_
           refine WC_seq ?_
           refine WC_reg fun ds => ?_
           refine WL_q rfl (q_move (lk16 rfl <| lk1 rfl <| lk0)) ?_
           refine WL_q rfl (q_assign lk_const) ?_
           refine WL_q rfl (q_assign (lk1 rfl <| lk0)) ?_
           refine WL_q rfl (q_assign lk_const) ?_
           refine WL_nil ?_
           refine then_n ?_
           refine WC_ret ?_
           refine block_r (block_r (then_r (then_r (block_r (then_r ?_)))))
           refine post_ret rfl (.tmp (lk2 rfl <| lk0) (.tmp (lk1 rfl <| lk0) (.tmp (lk0) .nil))) ?_
           show _ = _
           exact (checkV2 hB (checkRdrs_bad h2 hlt hno (by rw [rdrErr_at hlt]; simp [hn, ht, h1c]) (by decide))).symm
        ·
         replace hn : nameOk r.readers[k].name = false := by simpa using hn
         refine WC_skip ?_
         refine then_n ?_
         refine WC_seq ?_
         refine WC_block ?_
         refine WC_seq ?_
         refine WC_reg fun ds => ?_
         refine WL_q rfl (q_move (lk1 rfl <| lk_in rfl hs72)) ?_
         refine WL_q rfl (q_index  sl_23 (lk2 rfl <| lk_off rfl <| lk2 rfl <| lk0) hr.readers.plain (lk2 rfl <| lk_in rfl hs72) rfl (by omega)) ?_
         refine WL_q rfl (q_loadN agg_64 (lk0) rfl rfl (hr.readers.whole (by omega))) ?_
         refine WL_x rfl (x_alloc zr_64 rfl fun b37 hb37 nb37 => ?_)
         refine WL_q rfl (q_assign (lk2 rfl <| lk1 rfl <| lk0)) ?_
         refine WL_x0 (x_storeA sz_64 (lk1 rfl <| lk0) (lk2 rfl <| lk0) (i := 0) rfl rfl rfl rfl Rdr.enc_one (.here) ?_)
         refine WL_nil ?_
         refine then_n ?_
         refine WC_block ?_
         refine WC_seq ?_
         refine WC_reg fun ds => ?_
         refine WL_q rfl (q_fieldAddrB fd_64_0 (lk1 rfl <| lk0)) ?_
         refine WL_q rfl (q_load1 one_9 (lk0) (Cell.own 0 rfl rfl)) ?_
         refine WL_c rfl (q_call bd_48 lk_func (.cons (lk0) .nil) (quireName_ok _) (fun _ _ h => h)) ?_
         refine WL_q rfl (q_not (lk0)) ?_
         refine WL_q rfl (q_assign (lk0)) ?_
         refine WL_nil ?_
         refine then_n ?_
         refine WC_if_true (lk0) (by first | exact hn | (simp [hn]; done)) ?_
         refine WC_seq ?_
         refine WC_reg fun ds => ?_
         refine WL_q rfl (q_move (lk4 rfl <| lk1 rfl <| lk0)) ?_
         refine WL_q rfl (q_assign lk_const) ?_
         refine WL_q rfl (q_assign (lk1 rfl <| lk0)) ?_
         refine WL_q rfl (q_assign lk_const) ?_
         refine WL_nil ?_
         refine then_n ?_
         refine WC_ret ?_
         refine block_r (block_r (then_r (then_r (block_r (then_r ?_)))))
         refine post_ret rfl (.tmp (lk2 rfl <| lk0) (.tmp (lk1 rfl <| lk0) (.tmp (lk0) .nil))) ?_
         show _ = _
         exact (checkV2 hB (checkRdrs_bad h2 hlt hno (by rw [rdrErr_at hlt]; simp [hn]) (by decide))).symm
       ·
        refine WC_seq ?_
        refine WC_reg fun ds => ?_
        refine WL_q rfl (q_lss (lk_in rfl hs72) (lk_off rfl <| lk1 rfl <| lk0)) ?_
        refine WL_nil ?_
        refine then_n ?_
        refine WC_seq ?_
        refine WC_if_false (lk0) (by first | rfl | exact decide_eq_false (by omega)) ?_
        have hR := checkRdrs_ok h2 fun j hj => hno j (by omega)
        by_cases h3 : 6 < r.seats.length
        ·
         refine WC_exit ?_
         refine then_x (then_x (exit_here ?_))
         refine then_n ?_
         refine WC_seq ?_
         refine WC_seq ?_
         refine WC_reg fun ds => ?_
         refine WL_q rfl (q_fieldAddrB fd_27_2 (lk1 rfl <| lk_off rfl <| lk8 rfl <| lk1 rfl <| lk_off rfl <| lk8 rfl <| lk2 rfl <| lk1 rfl <| lk0)) ?_
         refine WL_q rfl (q_load1 one_24 (lk0) (Cell.own 0 rfl rfl)) ?_
         refine WL_q rfl (q_lenP sl_24 (lk0) hr.seats.plain) ?_
         refine WL_q rfl (q_gtr (lk0) lk_const) ?_
         refine WL_nil ?_
         refine then_n ?_
         refine WC_if_true (lk0) (by first | rfl | exact decide_eq_true (by omega)) ?_
         refine WC_seq ?_
         refine WC_reg fun ds => ?_
         refine WL_q rfl (q_assign lk_const) ?_
         refine WL_q rfl (q_assign lk_const) ?_
         refine WL_q rfl (q_assign lk_const) ?_
         refine WL_nil ?_
         refine then_n ?_
         refine WC_ret ?_
         refine then_r ?_
         refine post_ret rfl (.tmp (lk2 rfl <| lk0) (.tmp (lk1 rfl <| lk0) (.tmp (lk0) .nil))) ?_
         show _ = _
         exact (checkV3 hB hR (checkSeats_long h3)).symm
        ·
         refine WC_exit ?_
         refine then_x (then_x (exit_here ?_))
         refine then_n ?_
         refine WC_seq ?_
         refine WC_seq ?_
         refine WC_reg fun ds => ?_
         refine WL_q rfl (q_fieldAddrB fd_27_2 (lk1 rfl <| lk_off rfl <| lk8 rfl <| lk1 rfl <| lk_off rfl <| lk8 rfl <| lk2 rfl <| lk1 rfl <| lk0)) ?_
         refine WL_q rfl (q_load1 one_24 (lk0) (Cell.own 0 rfl rfl)) ?_
         refine WL_q rfl (q_lenP sl_24 (lk0) hr.seats.plain) ?_
         refine WL_q rfl (q_gtr (lk0) lk_const) ?_
         refine WL_nil ?_
         refine then_n ?_
         refine WC_if_false (lk0) (by first | rfl | exact decide_eq_false (by omega)) ?_
         refine WC_skip ?_
         refine then_n ?_
         refine WC_seq ?_
         refine WC_seq ?_
         refine WC_reg fun ds => ?_
         refine WL_q rfl (q_fieldAddrB fd_27_2 (lk4 rfl <| lk1 rfl <| lk_off rfl <| lk8 rfl <| lk1 rfl <| lk_off rfl <| lk8 rfl <| lk2 rfl <| lk1 rfl <| lk0)) ?_
         refine WL_q rfl (q_load1 one_24 (lk0) (Cell.own 0 rfl rfl)) ?_
         refine WL_q rfl (q_lenP sl_24 (lk0) hr.seats.plain) ?_
         refine WL_q rfl (q_move lk_const) ?_
         refine WL_nil ?_
         refine then_n ?_
         refine WC_block ?_
         refine WC_loopN [2, 3, 4, 9, 10, 105, 106, 107, 108, 109, 110, 111, 112, 113, 114, 115] (fun m e σ => ∃ G, RoomR G vb vr vs vq r ∧ ∃ k : Nat, m + k = r.seats.length ∧ e 105 = .int .i64 k ∧ σ = ⟨G, [(b2, bx 27 [vb, vr, vs, vq])]⟩ ∧ ∀ j, j < k → seatErr r.seats j = 0) (r.seats.length) ?_ ?_
         · exact ⟨G, hr, 0, by omega, (lk0), rfl, fun j h => absurd h (by omega)⟩
         ·
          rintro m e _ ⟨G, hr, k, hm, hs105, rfl, hno⟩
          by_cases hlt : k < r.seats.length
          ·
           refine WC_seq ?_
           refine WC_reg fun ds => ?_
           refine WL_q rfl (q_lss (lk_in rfl hs105) (lk_off rfl <| lk1 rfl <| lk0)) ?_
           refine WL_nil ?_
           refine then_n ?_
           refine WC_seq ?_
           refine WC_if_true (lk0) (by first | rfl | exact decide_eq_true (by omega)) ?_
           by_cases h1c : inB 0 100 r.seats[k].light = true
           ·
            refine WC_skip ?_
            refine then_n ?_
            refine WC_seq ?_
            refine WC_block ?_
            refine WC_seq ?_
            refine WC_reg fun ds => ?_
            refine WL_q rfl (q_move (lk1 rfl <| lk_in rfl hs105)) ?_
            refine WL_q rfl (q_index  sl_24 (lk2 rfl <| lk_off rfl <| lk2 rfl <| lk0) hr.seats.plain (lk2 rfl <| lk_in rfl hs105) rfl (by omega)) ?_
            refine WL_q rfl (q_loadN agg_66 (lk0) rfl rfl (hr.seats.whole (by omega))) ?_
            refine WL_x rfl (x_alloc zr_66 rfl fun b39 hb39 nb39 => ?_)
            refine WL_q rfl (q_assign (lk2 rfl <| lk1 rfl <| lk0)) ?_
            refine WL_x0 (x_storeA sz_66 (lk1 rfl <| lk0) (lk2 rfl <| lk0) (i := 0) rfl rfl rfl rfl Seat.enc_one (.here) ?_)
            refine WL_nil ?_
            refine then_n ?_
            refine WC_seq ?_
            refine WC_reg fun ds => ?_
            refine WL_q rfl (q_fieldAddrB fd_66_0 (lk1 rfl <| lk0)) ?_
            refine WL_q rfl (q_load1 one_3 (lk0) (Cell.own 0 rfl rfl)) ?_
            refine WL_x rfl (x_build sl_29 zr_3 rfl (.cons (lk0) .nil) rfl rfl (by decide) (by simp [Value.oneCell']) fun b40 hb40 nb40 => ?_)
            refine WL_freeze (i := 0) rfl hb40 .here fun F41 hF42 hz43 => ?_
            replace hr := hr.mono hF42
            have hsl44 := ints_box1 hz43
            refine WL_c rfl (q_call bd_51 lk_func (.cons lk_const (.cons lk_const (.cons (lk0) .nil))) (outside_ok _ _ hsl44) (fun _ _ h => h)) ?_
            refine WL_nil ?_
            refine then_n ?_
            refine WC_if_false (lk0) (by simp [h1c]) ?_
            refine WC_skip ?_
            refine block_n (then_n ?_)
            refine WC_imp (fun _ _ h => h.drop (.cons _ <| .cons_cons _ <| .refl _)) ?_
            refine WC_reg fun ds => ?_
            refine WL_q rfl (q_add (lk8 rfl <| lk2 rfl <| lk_in rfl hs105) lk_const rfl (by omega) (by omega)) ?_
            refine WL_q rfl (q_move (lk0)) ?_
            refine WL_nil ?_
            refine then_n ⟨_, m - 1, Off.eq (ou8 rfl <| ou4 rfl <| off_over), by omega, ?_⟩
            refine ⟨_, hr, k + 1, by omega, (lk0), rfl, fun j hjk => ?_⟩
            rcases Nat.lt_succ_iff_lt_or_eq.1 hjk with hjk | rfl
            · exact hno j hjk
            · rw [seatErr_at hlt]; simp [h1c]
           ·
            replace h1c : inB 0 100 r.seats[k].light = false := by simpa using h1c
            refine WC_skip ?_
            refine then_n ?_
            refine WC_seq ?_
            refine WC_block ?_
            refine WC_seq ?_
            refine WC_reg fun ds => ?_
            refine WL_q rfl (q_move (lk1 rfl <| lk_in rfl hs105)) ?_
            refine WL_q rfl (q_index  sl_24 (lk2 rfl <| lk_off rfl <| lk2 rfl <| lk0) hr.seats.plain (lk2 rfl <| lk_in rfl hs105) rfl (by omega)) ?_
            refine WL_q rfl (q_loadN agg_66 (lk0) rfl rfl (hr.seats.whole (by omega))) ?_
            refine WL_x rfl (x_alloc zr_66 rfl fun b45 hb45 nb45 => ?_)
            refine WL_q rfl (q_assign (lk2 rfl <| lk1 rfl <| lk0)) ?_
            refine WL_x0 (x_storeA sz_66 (lk1 rfl <| lk0) (lk2 rfl <| lk0) (i := 0) rfl rfl rfl rfl Seat.enc_one (.here) ?_)
            refine WL_nil ?_
            refine then_n ?_
            refine WC_seq ?_
            refine WC_reg fun ds => ?_
            refine WL_q rfl (q_fieldAddrB fd_66_0 (lk1 rfl <| lk0)) ?_
            refine WL_q rfl (q_load1 one_3 (lk0) (Cell.own 0 rfl rfl)) ?_
            refine WL_x rfl (x_build sl_29 zr_3 rfl (.cons (lk0) .nil) rfl rfl (by decide) (by simp [Value.oneCell']) fun b46 hb46 nb46 => ?_)
            refine WL_freeze (i := 0) rfl hb46 .here fun F47 hF48 hz49 => ?_
            replace hr := hr.mono hF48
            have hsl50 := ints_box1 hz49
            refine WL_c rfl (q_call bd_51 lk_func (.cons lk_const (.cons lk_const (.cons (lk0) .nil))) (outside_ok _ _ hsl50) (fun _ _ h => h)) ?_
            refine WL_nil ?_
            refine then_n ?_
            refine WC_if_true (lk0) (by simp [h1c]) ?_
            refine WC_seq ?_
            refine WC_reg fun ds => ?_
            refine WL_q rfl (q_move (lk4 rfl <| lk0)) ?_
            refine WL_q rfl (q_assign lk_const) ?_
            refine WL_q rfl (q_assign (lk1 rfl <| lk0)) ?_
            refine WL_q rfl (q_assign lk_const) ?_
            refine WL_nil ?_
            refine then_n ?_
            refine WC_ret ?_
            refine block_r (then_r (then_r (block_r (then_r ?_))))
            refine post_ret rfl (.tmp (lk2 rfl <| lk0) (.tmp (lk1 rfl <| lk0) (.tmp (lk0) .nil))) ?_
            show _ = _
            exact (checkV3 hB hR (checkSeats_bad h3 hlt hno (by rw [seatErr_at hlt]; simp [h1c]) (by decide))).symm
          ·
           refine WC_seq ?_
           refine WC_reg fun ds => ?_
           refine WL_q rfl (q_lss (lk_in rfl hs105) (lk_off rfl <| lk1 rfl <| lk0)) ?_
           refine WL_nil ?_
           refine then_n ?_
           refine WC_seq ?_
           refine WC_if_false (lk0) (by first | rfl | exact decide_eq_false (by omega)) ?_
           have hS := checkSeats_ok h3 fun j hj => hno j (by omega)
           by_cases h4 : 8 < r.reqs.length
           ·
            refine WC_exit ?_
            refine then_x (then_x (exit_here ?_))
            refine then_n ?_
            refine WC_seq ?_
            refine WC_seq ?_
            refine WC_reg fun ds => ?_
            refine WL_q rfl (q_fieldAddrB fd_27_3 (lk1 rfl <| lk_off rfl <| lk8 rfl <| lk1 rfl <| lk_off rfl <| lk8 rfl <| lk1 rfl <| lk_off rfl <| lk8 rfl <| lk2 rfl <| lk1 rfl <| lk0)) ?_
            refine WL_q rfl (q_load1 one_25 (lk0) (Cell.own 0 rfl rfl)) ?_
            refine WL_q rfl (q_lenP sl_25 (lk0) hr.reqs.plain) ?_
            refine WL_q rfl (q_gtr (lk0) lk_const) ?_
            refine WL_nil ?_
            refine then_n ?_
            refine WC_if_true (lk0) (by first | rfl | exact decide_eq_true (by omega)) ?_
            refine WC_seq ?_
            refine WC_reg fun ds => ?_
            refine WL_q rfl (q_assign lk_const) ?_
            refine WL_q rfl (q_assign lk_const) ?_
            refine WL_q rfl (q_assign lk_const) ?_
            refine WL_nil ?_
            refine then_n ?_
            refine WC_ret ?_
            refine then_r ?_
            refine post_ret rfl (.tmp (lk2 rfl <| lk0) (.tmp (lk1 rfl <| lk0) (.tmp (lk0) .nil))) ?_
            show _ = _
            exact (checkV4 hB hR hS (checkReqs_long h4)).symm
           ·
            refine WC_exit ?_
            refine then_x (then_x (exit_here ?_))
            refine then_n ?_
            refine WC_seq ?_
            refine WC_seq ?_
            refine WC_reg fun ds => ?_
            refine WL_q rfl (q_fieldAddrB fd_27_3 (lk1 rfl <| lk_off rfl <| lk8 rfl <| lk1 rfl <| lk_off rfl <| lk8 rfl <| lk1 rfl <| lk_off rfl <| lk8 rfl <| lk2 rfl <| lk1 rfl <| lk0)) ?_
            refine WL_q rfl (q_load1 one_25 (lk0) (Cell.own 0 rfl rfl)) ?_
            refine WL_q rfl (q_lenP sl_25 (lk0) hr.reqs.plain) ?_
            refine WL_q rfl (q_gtr (lk0) lk_const) ?_
            refine WL_nil ?_
            refine then_n ?_
            refine WC_if_false (lk0) (by first | rfl | exact decide_eq_false (by omega)) ?_
            refine WC_skip ?_
            refine then_n ?_
            refine WC_seq ?_
            refine WC_seq ?_
            refine WC_reg fun ds => ?_
            refine WL_q rfl (q_fieldAddrB fd_27_3 (lk4 rfl <| lk1 rfl <| lk_off rfl <| lk8 rfl <| lk1 rfl <| lk_off rfl <| lk8 rfl <| lk1 rfl <| lk_off rfl <| lk8 rfl <| lk2 rfl <| lk1 rfl <| lk0)) ?_
            refine WL_q rfl (q_load1 one_25 (lk0) (Cell.own 0 rfl rfl)) ?_
            refine WL_q rfl (q_lenP sl_25 (lk0) hr.reqs.plain) ?_
            refine WL_q rfl (q_move lk_const) ?_
            refine WL_nil ?_
            refine then_n ?_
            refine WC_block ?_
            refine WC_loopN [2, 3, 4, 11, 12, 123, 124, 125, 126, 127, 128, 129, 130, 131, 132, 133, 134, 135, 136, 137, 138, 139, 140, 141, 142, 143, 144, 145, 146, 147, 148, 149, 150, 151, 152, 153, 154, 155, 156, 157, 158, 159, 160] (fun m e σ => ∃ G, RoomR G vb vr vs vq r ∧ ∃ k : Nat, m + k = r.reqs.length ∧ e 123 = .int .i64 k ∧ σ = ⟨G, [(b2, bx 27 [vb, vr, vs, vq])]⟩ ∧ ∀ j, j < k → reqErr r j = 0) (r.reqs.length) ?_ ?_
            · exact ⟨G, hr, 0, by omega, (lk0), rfl, fun j h => absurd h (by omega)⟩
            ·
             rintro m e _ ⟨G, hr, k, hm, hs123, rfl, hno⟩
             by_cases hlt : k < r.reqs.length
             ·
              have hL1 := hr.readers.plain.lt
              have hL2 := hr.books.plain.lt
              refine WC_seq ?_
              refine WC_reg fun ds => ?_
              refine WL_q rfl (q_lss (lk_in rfl hs123) (lk_off rfl <| lk1 rfl <| lk0)) ?_
              refine WL_nil ?_
              refine then_n ?_
              refine WC_seq ?_
              refine WC_if_true (lk0) (by first | rfl | exact decide_eq_true (by omega)) ?_
              by_cases h1 : inB 0 (r.readers.length - 1) r.reqs[k].reader = true
              ·
               refine WC_skip ?_
               refine then_n ?_
               refine WC_seq ?_
               refine WC_block ?_
               refine WC_seq ?_
               refine WC_reg fun ds => ?_
               refine WL_q rfl (q_move (lk1 rfl <| lk_in rfl hs123)) ?_
               refine WL_q rfl (q_index  sl_25 (lk2 rfl <| lk_off rfl <| lk2 rfl <| lk0) hr.reqs.plain (lk2 rfl <| lk_in rfl hs123) rfl (by omega)) ?_
               refine WL_q rfl (q_loadN agg_58 (lk0) rfl rfl (hr.reqs.whole (by omega))) ?_
               refine WL_x rfl (x_alloc zr_58 rfl fun b52 hb52 nb52 => ?_)
               refine WL_q rfl (q_assign (lk2 rfl <| lk1 rfl <| lk0)) ?_
               refine WL_x0 (x_storeA sz_58 (lk1 rfl <| lk0) (lk2 rfl <| lk0) (i := 0) rfl rfl rfl rfl Req.enc_one (.here) ?_)
               refine WL_nil ?_
               refine then_n ?_
               refine WC_block ?_
               refine WC_seq ?_
               refine WC_reg fun ds => ?_
               refine WL_q rfl (q_fieldAddrB fd_27_1 (lk4 rfl <| lk2 rfl <| lk_off rfl <| lk8 rfl <| lk1 rfl <| lk_off rfl <| lk8 rfl <| lk1 rfl <| lk_off rfl <| lk8 rfl <| lk1 rfl <| lk_off rfl <| lk8 rfl <| lk2 rfl <| lk1 rfl <| lk0)) ?_
               refine WL_q rfl (q_load1 one_23 (lk0) (Cell.own 1 rfl rfl)) ?_
               refine WL_q rfl (q_lenP sl_23 (lk0) hr.readers.plain) ?_
               refine WL_q rfl (q_sub (lk0) lk_const rfl (by omega) (by omega)) ?_
               refine WL_q rfl (q_fieldAddrB fd_58_0 (lk4 rfl <| lk1 rfl <| lk0)) ?_
               refine WL_q rfl (q_load1 one_3 (lk0) (Cell.own 0 rfl rfl)) ?_
               refine WL_x rfl (x_build sl_29 zr_3 rfl (.cons (lk0) .nil) rfl rfl (by decide) (by simp [Value.oneCell']) fun b53 hb53 nb53 => ?_)
               refine WL_freeze (i := 0) rfl hb53 .here fun F54 hF55 hz56 => ?_
               replace hr := hr.mono hF55
               have hsl57 := ints_box1 hz56
               refine WL_c rfl (q_call bd_51 lk_func (.cons lk_const (.cons (lk2 rfl <| lk1 rfl <| lk0) (.cons (lk0) .nil))) (outside_ok _ _ hsl57) (fun _ _ h => h)) ?_
               refine WL_q rfl (q_move (lk0)) ?_
               refine WL_want rfl rfl (lk0) (by simp [h1]) ?_
               refine WL_q rfl (q_fieldAddrB fd_27_0 (lk8 rfl <| lk4 rfl <| lk2 rfl <| lk1 rfl <| lk_off rfl <| lk8 rfl <| lk1 rfl <| lk_off rfl <| lk8 rfl <| lk1 rfl <| lk_off rfl <| lk8 rfl <| lk1 rfl <| lk_off rfl <| lk8 rfl <| lk2 rfl <| lk1 rfl <| lk0)) ?_
               refine WL_want rfl rfl (lk1 rfl <| lk0) (by simp [h1]) ?_
               refine WL_q rfl (q_load1 one_22 (lk0) (Cell.own 1 rfl rfl)) ?_
               refine WL_want rfl rfl (lk2 rfl <| lk0) (by simp [h1]) ?_
               refine WL_q rfl (q_lenP sl_22 (lk0) hr.books.plain) ?_
               refine WL_want rfl rfl (lk2 rfl <| lk1 rfl <| lk0) (by simp [h1]) ?_
               refine WL_q rfl (q_sub (lk0) lk_const rfl (by omega) (by omega)) ?_
               refine WL_want rfl rfl (lk4 rfl <| lk0) (by simp [h1]) ?_
               refine WL_q rfl (q_fieldAddrB fd_58_1 (lk8 rfl <| lk4 rfl <| lk2 rfl <| lk0)) ?_
               refine WL_want rfl rfl (lk4 rfl <| lk1 rfl <| lk0) (by simp [h1]) ?_
               refine WL_q rfl (q_load1 one_3 (lk0) (Cell.own 0 rfl rfl)) ?_
               refine WL_want rfl rfl (lk4 rfl <| lk2 rfl <| lk0) (by simp [h1]) ?_
               refine WL_x rfl (x_build sl_29 zr_3 rfl (.cons (lk0) .nil) rfl rfl (by decide) (by simp [Value.oneCell']) fun b58 hb58 nb58 => ?_)
               refine WL_freeze (i := 0) rfl hb58 .here fun F59 hF60 hz61 => ?_
               replace hr := hr.mono hF60
               replace hsl57 := hsl57.mono hF60
               have hsl62 := ints_box1 hz61
               refine WL_want rfl rfl (lk4 rfl <| lk2 rfl <| lk1 rfl <| lk0) (by simp [h1]) ?_
               refine WL_c rfl (q_call bd_51 lk_func (.cons lk_const (.cons (lk2 rfl <| lk1 rfl <| lk0) (.cons (lk0) .nil))) (outside_ok _ _ hsl62) (fun _ _ h => h)) ?_
               refine WL_q rfl (q_pick_false (lk8 rfl <| lk0) (by simp [h1]) (lk0)) ?_
               refine WL_q rfl (q_assign (lk0)) ?_
               refine WL_nil ?_
               refine then_n ?_
               by_cases h2 : inB 0 (r.books.length - 1) r.reqs[k].book = true
               ·
                refine WC_if_false (lk0) (by first | rfl | simp [h2]) ?_
                by_cases h3 : inB 1 12 r.reqs[k].hours = true
                ·
                 refine WC_seq ?_
                 refine WC_reg fun ds => ?_
                 refine WL_q rfl (q_fieldAddrB fd_58_2 (lk16 rfl <| lk4 rfl <| lk0)) ?_
                 refine WL_q rfl (q_load1 one_3 (lk0) (Cell.own 0 rfl rfl)) ?_
                 refine WL_x rfl (x_build sl_29 zr_3 rfl (.cons (lk0) .nil) rfl rfl (by decide) (by simp [Value.oneCell']) fun b63 hb63 nb63 => ?_)
                 refine WL_freeze (i := 0) rfl hb63 .here fun F64 hF65 hz66 => ?_
                 replace hr := hr.mono hF65
                 replace hsl57 := hsl57.mono hF65
                 replace hsl62 := hsl62.mono hF65
                 have hsl67 := ints_box1 hz66
                 refine WL_c rfl (q_call bd_51 lk_func (.cons lk_const (.cons lk_const (.cons (lk0) .nil))) (outside_ok _ _ hsl67) (fun _ _ h => h)) ?_
                 refine WL_q rfl (q_move (lk0)) ?_
                 refine WL_want rfl rfl (lk0) (by simp [h3]) ?_
                 refine WL_q rfl (q_fieldAddrB fd_58_3 (lk16 rfl <| lk8 rfl <| lk1 rfl <| lk0)) ?_
                 refine WL_want rfl rfl (lk1 rfl <| lk0) (by simp [h3]) ?_
                 refine WL_q rfl (q_load1 one_3 (lk0) (Cell.own 0 rfl rfl)) ?_
                 refine WL_want rfl rfl (lk2 rfl <| lk0) (by simp [h3]) ?_
                 refine WL_x rfl (x_build sl_29 zr_3 rfl (.cons (lk0) .nil) rfl rfl (by decide) (by simp [Value.oneCell']) fun b68 hb68 nb68 => ?_)
                 refine WL_freeze (i := 0) rfl hb68 .here fun F69 hF70 hz71 => ?_
                 replace hr := hr.mono hF70
                 replace hsl57 := hsl57.mono hF70
                 replace hsl62 := hsl62.mono hF70
                 replace hsl67 := hsl67.mono hF70
                 have hsl72 := ints_box1 hz71
                 refine WL_want rfl rfl (lk2 rfl <| lk1 rfl <| lk0) (by simp [h3]) ?_
                 refine WL_c rfl (q_call bd_51 lk_func (.cons lk_const (.cons lk_const (.cons (lk0) .nil))) (outside_ok _ _ hsl72) (fun _ _ h => h)) ?_
                 refine WL_q rfl (q_pick_false (lk4 rfl <| lk0) (by simp [h3]) (lk0)) ?_
                 refine WL_q rfl (q_assign (lk0)) ?_
                 refine WL_nil ?_
                 refine then_n ?_
                 by_cases h5 : inB 0 100 r.reqs[k].worth = true
                 ·
                  refine WC_if_false (lk0) (by first | rfl | simp [h5]) ?_
                  refine WC_skip ?_
                  refine block_n (block_n (then_n ?_))
                  refine WC_imp (fun _ _ h => h.drop (.cons _ <| .cons_cons _ <| .refl _)) ?_
                  refine WC_reg fun ds => ?_
                  refine WL_q rfl (q_add (lk32 rfl <| lk4 rfl <| lk_in rfl hs123) lk_const rfl (by omega) (by omega)) ?_
                  refine WL_q rfl (q_move (lk0)) ?_
                  refine WL_nil ?_
                  refine then_n ⟨_, m - 1, Off.eq (ou32 rfl <| ou4 rfl <| ou2 rfl <| off_over), by omega, ?_⟩
                  refine ⟨_, hr, k + 1, by omega, (lk0), rfl, fun j hjk => ?_⟩
                  rcases Nat.lt_succ_iff_lt_or_eq.1 hjk with hjk | rfl
                  · exact hno j hjk
                  · rw [reqErr_at hlt]; simp [h1, h2, h3, h5]
                 ·
                  replace h5 : inB 0 100 r.reqs[k].worth = false := by simpa using h5
                  refine WC_if_true (lk0) (by first | rfl | simp [h5]) ?_
                  refine WC_seq ?_
                  refine WC_reg fun ds => ?_
                  refine WL_q rfl (q_move (lk16 rfl <| lk8 rfl <| lk4 rfl <| lk2 rfl <| lk0)) ?_
                  refine WL_q rfl (q_assign lk_const) ?_
                  refine WL_q rfl (q_assign (lk1 rfl <| lk0)) ?_
                  refine WL_q rfl (q_assign lk_const) ?_
                  refine WL_nil ?_
                  refine then_n ?_
                  refine WC_ret ?_
                  refine block_r (block_r (then_r (then_r (block_r (then_r ?_)))))
                  refine post_ret rfl (.tmp (lk2 rfl <| lk0) (.tmp (lk1 rfl <| lk0) (.tmp (lk0) .nil))) ?_
                  show _ = _
                  exact (checkV4 hB hR hS (checkReqs_bad h4 hlt hno (by rw [reqErr_at hlt]; simp [h1, h2, h3, h5]) (by decide))).symm
                ·
                 replace h3 : inB 1 12 r.reqs[k].hours = false := by simpa using h3
                 refine WC_seq ?_
                 refine WC_reg fun ds => ?_
                 refine WL_q rfl (q_fieldAddrB fd_58_2 (lk16 rfl <| lk4 rfl <| lk0)) ?_
                 refine WL_q rfl (q_load1 one_3 (lk0) (Cell.own 0 rfl rfl)) ?_
                 refine WL_x rfl (x_build sl_29 zr_3 rfl (.cons (lk0) .nil) rfl rfl (by decide) (by simp [Value.oneCell']) fun b73 hb73 nb73 => ?_)
                 refine WL_freeze (i := 0) rfl hb73 .here fun F74 hF75 hz76 => ?_
                 replace hr := hr.mono hF75
                 replace hsl57 := hsl57.mono hF75
                 replace hsl62 := hsl62.mono hF75
                 have hsl77 := ints_box1 hz76
                 refine WL_c rfl (q_call bd_51 lk_func (.cons lk_const (.cons lk_const (.cons (lk0) .nil))) (outside_ok _ _ hsl77) (fun _ _ h => h)) ?_
                 refine WL_q rfl (q_move (lk0)) ?_
                 refine WL_pass rfl rfl (lk0) (.inl (congrArg Value.bool (by simp [h3]))) rfl ?_
                 refine WL_pass rfl rfl (lk1 rfl <| lk0) (.inl (congrArg Value.bool (by simp [h3]))) rfl ?_
                 refine WL_pass rfl rfl (lk2 rfl <| lk0) (.inl (congrArg Value.bool (by simp [h3]))) rfl ?_
                 refine WL_pass rfl rfl (lk2 rfl <| lk1 rfl <| lk0) (.inl (congrArg Value.bool (by simp [h3]))) rfl ?_
                 refine WL_q rfl (q_pick_true (lk4 rfl <| lk0) (by simp [h3]) lk_const) ?_
                 refine WL_q rfl (q_assign (lk0)) ?_
                 refine WL_nil ?_
                 refine then_n ?_
                 refine WC_if_true (lk0) (by first | rfl | simp [h3]) ?_
                 refine WC_seq ?_
                 refine WC_reg fun ds => ?_
                 refine WL_q rfl (q_move (lk16 rfl <| lk8 rfl <| lk4 rfl <| lk2 rfl <| lk0)) ?_
                 refine WL_q rfl (q_assign lk_const) ?_
                 refine WL_q rfl (q_assign (lk1 rfl <| lk0)) ?_
                 refine WL_q rfl (q_assign lk_const) ?_
                 refine WL_nil ?_
                 refine then_n ?_
                 refine WC_ret ?_
                 refine block_r (block_r (then_r (then_r (block_r (then_r ?_)))))
                 refine post_ret rfl (.tmp (lk2 rfl <| lk0) (.tmp (lk1 rfl <| lk0) (.tmp (lk0) .nil))) ?_
                 show _ = _
                 exact (checkV4 hB hR hS (checkReqs_bad h4 hlt hno (by rw [reqErr_at hlt]; simp [h1, h2, h3]) (by decide))).symm
               ·
                replace h2 : inB 0 (r.books.length - 1) r.reqs[k].book = false := by simpa using h2
                refine WC_if_true (lk0) (by first | rfl | simp [h2]) ?_
                refine WC_seq ?_
                refine WC_reg fun ds => ?_
                refine WL_q rfl (q_move (lk16 rfl <| lk2 rfl <| lk1 rfl <| lk0)) ?_
                refine WL_q rfl (q_assign lk_const) ?_
                refine WL_q rfl (q_assign (lk1 rfl <| lk0)) ?_
                refine WL_q rfl (q_assign lk_const) ?_
                refine WL_nil ?_
                refine then_n ?_
                refine WC_ret ?_
                refine block_r (block_r (then_r (then_r (block_r (then_r ?_)))))
                refine post_ret rfl (.tmp (lk2 rfl <| lk0) (.tmp (lk1 rfl <| lk0) (.tmp (lk0) .nil))) ?_
                show _ = _
                exact (checkV4 hB hR hS (checkReqs_bad h4 hlt hno (by rw [reqErr_at hlt]; simp [h1, h2]) (by decide))).symm
              ·
               replace h1 : inB 0 (r.readers.length - 1) r.reqs[k].reader = false := by simpa using h1
               refine WC_skip ?_
               refine then_n ?_
               refine WC_seq ?_
               refine WC_block ?_
               refine WC_seq ?_
               refine WC_reg fun ds => ?_
               refine WL_q rfl (q_move (lk1 rfl <| lk_in rfl hs123)) ?_
               refine WL_q rfl (q_index  sl_25 (lk2 rfl <| lk_off rfl <| lk2 rfl <| lk0) hr.reqs.plain (lk2 rfl <| lk_in rfl hs123) rfl (by omega)) ?_
               refine WL_q rfl (q_loadN agg_58 (lk0) rfl rfl (hr.reqs.whole (by omega))) ?_
               refine WL_x rfl (x_alloc zr_58 rfl fun b78 hb78 nb78 => ?_)
               refine WL_q rfl (q_assign (lk2 rfl <| lk1 rfl <| lk0)) ?_
               refine WL_x0 (x_storeA sz_58 (lk1 rfl <| lk0) (lk2 rfl <| lk0) (i := 0) rfl rfl rfl rfl Req.enc_one (.here) ?_)
               refine WL_nil ?_
               refine then_n ?_
               refine WC_block ?_
               refine WC_seq ?_
               refine WC_reg fun ds => ?_
               refine WL_q rfl (q_fieldAddrB fd_27_1 (lk4 rfl <| lk2 rfl <| lk_off rfl <| lk8 rfl <| lk1 rfl <| lk_off rfl <| lk8 rfl <| lk1 rfl <| lk_off rfl <| lk8 rfl <| lk1 rfl <| lk_off rfl <| lk8 rfl <| lk2 rfl <| lk1 rfl <| lk0)) ?_
               refine WL_q rfl (q_load1 one_23 (lk0) (Cell.own 1 rfl rfl)) ?_
               refine WL_q rfl (q_lenP sl_23 (lk0) hr.readers.plain) ?_
               refine WL_q rfl (q_sub (lk0) lk_const rfl (by omega) (by omega)) ?_
               refine WL_q rfl (q_fieldAddrB fd_58_0 (lk4 rfl <| lk1 rfl <| lk0)) ?_
               refine WL_q rfl (q_load1 one_3 (lk0) (Cell.own 0 rfl rfl)) ?_
               refine WL_x rfl (x_build sl_29 zr_3 rfl (.cons (lk0) .nil) rfl rfl (by decide) (by simp [Value.oneCell']) fun b79 hb79 nb79 => ?_)
               refine WL_freeze (i := 0) rfl hb79 .here fun F80 hF81 hz82 => ?_
               replace hr := hr.mono hF81
               have hsl83 := ints_box1 hz82
               refine WL_c rfl (q_call bd_51 lk_func (.cons lk_const (.cons (lk2 rfl <| lk1 rfl <| lk0) (.cons (lk0) .nil))) (outside_ok _ _ hsl83) (fun _ _ h => h)) ?_
               refine WL_q rfl (q_move (lk0)) ?_
               refine WL_pass rfl rfl (lk0) (.inl (congrArg Value.bool (by simp [h1]))) rfl ?_
               refine WL_pass rfl rfl (lk1 rfl <| lk0) (.inl (congrArg Value.bool (by simp [h1]))) rfl ?_
               refine WL_pass rfl rfl (lk2 rfl <| lk0) (.inl (congrArg Value.bool (by simp [h1]))) rfl ?_
               refine WL_pass rfl rfl (lk2 rfl <| lk1 rfl <| lk0) (.inl (congrArg Value.bool (by simp [h1]))) rfl ?_
               refine WL_pass rfl rfl (lk4 rfl <| lk0) (.inl (congrArg Value.bool (by simp [h1]))) rfl ?_
               refine WL_pass rfl rfl (lk4 rfl <| lk1 rfl <| lk0) (.inl (congrArg Value.bool (by simp [h1]))) rfl ?_
               refine WL_pass rfl rfl (lk4 rfl <| lk2 rfl <| lk0) (.inl (congrArg Value.bool (by simp [h1]))) rfl ?_
               refine WL_pass rfl rfl (lk4 rfl <| lk2 rfl <| lk1 rfl <| lk0) (.inl (congrArg Value.bool (by simp [h1]))) rfl ?_
               refine WL_q rfl (q_pick_true (lk8 rfl <| lk0) (by simp [h1]) lk_const) ?_
               refine WL_q rfl (q_assign (lk0)) ?_
               refine WL_nil ?_
               refine then_n ?_
               refine WC_if_true (lk0) (by first | rfl | simp [h1]) ?_
               refine WC_seq ?_
               refine WC_reg fun ds => ?_
               refine WL_q rfl (q_move (lk16 rfl <| lk2 rfl <| lk1 rfl <| lk0)) ?_
               refine WL_q rfl (q_assign lk_const) ?_
               refine WL_q rfl (q_assign (lk1 rfl <| lk0)) ?_
               refine WL_q rfl (q_assign lk_const) ?_
               refine WL_nil ?_
               refine then_n ?_
               refine WC_ret ?_
               refine block_r (block_r (then_r (then_r (block_r (then_r ?_)))))
               refine post_ret rfl (.tmp (lk2 rfl <| lk0) (.tmp (lk1 rfl <| lk0) (.tmp (lk0) .nil))) ?_
               show _ = _
               exact (checkV4 hB hR hS (checkReqs_bad h4 hlt hno (by rw [reqErr_at hlt]; simp [h1]) (by decide))).symm
             ·
              refine WC_seq ?_
              refine WC_reg fun ds => ?_
              refine WL_q rfl (q_lss (lk_in rfl hs123) (lk_off rfl <| lk1 rfl <| lk0)) ?_
              refine WL_nil ?_
              refine then_n ?_
              refine WC_seq ?_
              refine WC_if_false (lk0) (by first | rfl | exact decide_eq_false (by omega)) ?_
              refine WC_exit ?_
              refine then_x (then_x (exit_here ?_))
              refine then_n ?_
              refine WC_seq ?_
              refine WC_reg fun ds => ?_
              refine WL_q rfl (q_assign lk_const) ?_
              refine WL_q rfl (q_assign lk_const) ?_
              refine WL_q rfl (q_assign lk_const) ?_
              refine WL_nil ?_
              refine then_n ?_
              refine WC_ret ?_
              refine post_ret rfl (.tmp (lk2 rfl <| lk0) (.tmp (lk1 rfl <| lk0) (.tmp (lk0) .nil))) ?_
              show _ = _
              exact (checkV0 hB hR hS (checkReqs_ok h4 fun j hj => hno j (by omega))).symm
end Go.Proofs.Ytbcjfkcpfjccdaa
namespace Go.Proofs.Ytbcjfkcpfjccdaa
open Go.RowKit
theorem agg_60 : AggT Try.prog 60 2 := aggT_of (by kernel_rfl)
theorem bd_56 : Body Try.prog 56 := body_of (by kernel_rfl)
theorem bd_86 : Body Try.prog 86 := body_of (by kernel_rfl)
theorem bd_87 : Body Try.prog 87 := body_of (by kernel_rfl)
theorem el_9 : ElemT Try.prog 9 1 16 (.string ⟨#[]⟩) := elemT_of (by kernel_rfl) rfl (by decide)
theorem zr_9 : ZeroT Try.prog 9 (.string ⟨#[]⟩) := zeroT_of (by kernel_rfl)
set_option maxRecDepth 100000 in
theorem refBooks_ok {F : Heap} {v : Value} {bs : List Book} (h : Sl F v 5 Book.enc bs) : Ok Try.prog 54 [v].toArray F fun r _ => r = optV (checkBooks bs) := by
  refine Ok.intro Try.func54 rfl Try.ntmps54 rfl fun w0 => ?_
  have hlen := h.plain.lt
  by_cases h1 : 8 < bs.length
  ·
   refine WC_seq ?_
   refine WC_reg fun ds => ?_
   refine WL_q rfl (q_assign lk_const) ?_
   refine WL_q rfl (q_assign lk_const) ?_
   refine WL_nil ?_
   refine then_n ?_
   refine WC_seq ?_
   refine WC_seq ?_
   refine WC_reg fun ds => ?_
   refine WL_q rfl (q_move (lk2 rfl <| lk_entry rfl)) ?_
   refine WL_q rfl (q_lenP sl_22 (lk0) h.plain) ?_
   refine WL_q rfl (q_gtr (lk0) lk_const) ?_
   refine WL_nil ?_
   refine then_n ?_
   refine WC_if_true (lk0) (by first | rfl | exact decide_eq_true (by omega)) ?_
   refine WC_seq ?_
   refine WC_reg fun ds => ?_
   refine WL_q rfl (q_assign lk_const) ?_
   refine WL_q rfl (q_assign lk_const) ?_
   refine WL_nil ?_
   refine then_n ?_
   refine WC_ret ?_
   refine then_r ?_
   refine post_ret rfl (.tmp (lk1 rfl <| lk0) (.tmp (lk0) .nil)) ?_
   show _ = _
   rw [checkBooks_long h1]; rfl
  ·
   refine WC_seq ?_
   refine WC_reg fun ds => ?_
   refine WL_q rfl (q_assign lk_const) ?_
   refine WL_q rfl (q_assign lk_const) ?_
   refine WL_nil ?_
   refine then_n ?_
   refine WC_seq ?_
   refine WC_seq ?_
   refine WC_reg fun ds => ?_
   refine WL_q rfl (q_move (lk2 rfl <| lk_entry rfl)) ?_
   refine WL_q rfl (q_lenP sl_22 (lk0) h.plain) ?_
   refine WL_q rfl (q_gtr (lk0) lk_const) ?_
   refine WL_nil ?_
   refine then_n ?_
   refine WC_if_false (lk0) (by first | rfl | exact decide_eq_false (by omega)) ?_
   refine WC_skip ?_
   refine then_n ?_
   refine WC_seq ?_
   refine WC_reg fun ds => ?_
   refine WL_q rfl (q_assign lk_const) ?_
   refine WL_nil ?_
   refine then_n ?_
   refine WC_seq ?_
   refine WC_seq ?_
   refine WC_reg fun ds => ?_
   refine WL_q rfl (q_assign lk_const) ?_
   refine WL_nil ?_
   refine then_n ?_
   refine WC_block ?_
   refine WC_loopN [2, 3, 4, 5, 6, 10, 11, 12, 13, 14, 15, 16, 17, 18, 19, 20, 21, 22, 23, 24, 25, 26, 27, 28, 29, 30, 31, 32, 33, 34, 35, 36, 37, 38, 39, 40, 41, 42, 43, 44, 45, 46, 47, 48, 49, 50, 51, 52, 53] (fun m e σ => ∃ k : Nat, m + k = bs.length ∧ e 5 = .int .i64 k ∧ ∃ v R, e 4 = v ∧ Own 9 1 v (bnames bs k).length ((bnames bs k).flatMap strE) R ∧ σ = ⟨F, R⟩ ∧ ∀ j, j < k → bookErr bs j = 0) (bs.length) ?_ ?_
   · exact ⟨0, by omega, (lk0), _, _, (lk1 rfl <| lk0), Own.nil, rfl, fun j h => absurd h (by omega)⟩
   ·
    rintro m e _ ⟨k, hm, hs5, v4, R4, hs4, ho, rfl, hno⟩
    by_cases hlt : k < bs.length
    ·
     have hnl := bnames_length (Nat.le_of_lt hlt)
     refine WC_seq ?_
     refine WC_seq ?_
     refine WC_reg fun ds => ?_
     refine WL_q rfl (q_move (lk_in rfl hs5)) ?_
     refine WL_q rfl (q_move (lk1 rfl <| lk_off rfl <| lk4 rfl <| lk2 rfl <| lk1 rfl <| lk_entry rfl)) ?_
     refine WL_q rfl (q_lenP sl_22 (lk0) h.plain) ?_
     refine WL_q rfl (q_lss (lk2 rfl <| lk0) (lk0)) ?_
     refine WL_nil ?_
     refine then_n ?_
     refine WC_if_true (lk0) (by first | rfl | exact decide_eq_true (by omega)) ?_
     by_cases hf : freshE bs[k].name (bnames bs k) = 0
     ·
      refine WC_skip ?_
      refine then_n ?_
      refine WC_seq ?_
      refine WC_block ?_
      refine WC_seq ?_
      refine WC_reg fun ds => ?_
      refine WL_q rfl (q_move (lk4 rfl <| lk_off rfl <| lk4 rfl <| lk2 rfl <| lk1 rfl <| lk_entry rfl)) ?_
      refine WL_q rfl (q_move (lk4 rfl <| lk1 rfl <| lk_in rfl hs5)) ?_
      refine WL_q rfl (q_index  sl_22 (lk1 rfl <| lk0) h.plain (lk0) rfl (by omega)) ?_
      refine WL_q rfl (q_fieldAddr fd_62_0 (lk0)) ?_
      refine WL_q rfl (q_load1 one_9 (lk0) (h.cell (by omega) rfl)) ?_
      refine WL_q rfl (q_move (lk8 rfl <| lk1 rfl <| lk_in rfl hs4)) ?_
      refine WL_c rfl (q_callH bd_86 lk_func (.cons (lk1 rfl <| lk0) (.cons (lk0) .nil)) (fun G _ hG => fresh_ok (ho.sl (fun _ => rfl) (fun p hp => hG p (by simpa using hp)) (by omega)) _) (fun _ _ h => h)) ?_
      refine WL_q rfl (q_assign (lk0)) ?_
      refine WL_nil ?_
      refine then_n ?_
      refine WC_seq ?_
      refine WC_reg fun ds => ?_
      refine WL_q rfl (q_move (lk8 rfl <| lk4 rfl <| lk_in rfl hs4)) ?_
      refine WL_q rfl (q_move (lk8 rfl <| lk4 rfl <| lk1 rfl <| lk_off rfl <| lk4 rfl <| lk2 rfl <| lk1 rfl <| lk_entry rfl)) ?_
      refine WL_q rfl (q_move (lk8 rfl <| lk4 rfl <| lk2 rfl <| lk_in rfl hs5)) ?_
      refine WL_q rfl (q_index  sl_22 (lk1 rfl <| lk0) h.plain (lk0) rfl (by omega)) ?_
      refine WL_q rfl (q_fieldAddr fd_62_0 (lk0)) ?_
      refine WL_q rfl (q_load1 one_9 (lk0) (h.cell (by omega) rfl)) ?_
      refine WL_x rfl (x_build sl_136 zr_9 rfl (.cons (lk0) .nil) rfl rfl (by decide) (by simp [Value.oneCell']) fun b2 hb2 nb2 => ?_)
      refine WL_x rfl (x_append sl_136 el_9 (lk4 rfl <| lk2 rfl <| lk0) ho (lk0) (src_box (s := 1) 0 rfl rfl (by simp [Value.oneCell'])) (by rw [hnl]; omega) (by rw [hnl]; omega) (.s <| .z) .last fun v3 R4 ho5 => ?_)
      have ho2 := ho5.snoc rfl rfl
      rw [← bnames_succ hlt] at ho2
      clear ho5
      refine WL_q rfl (q_assign (lk0)) ?_
      refine WL_nil ?_
      refine then_n ?_
      refine WC_seq ?_
      refine WC_seq ?_
      refine WC_reg fun ds => ?_
      refine WL_q rfl (q_move (lk8 rfl <| lk1 rfl <| lk0)) ?_
      refine WL_q rfl (q_eql (lk0) lk_const) ?_
      refine WL_q rfl (q_move (lk0)) ?_
      refine WL_want rfl rfl (lk0) (decide_eq_true hf) ?_
      refine WL_q rfl (q_move (lk16 rfl <| lk8 rfl <| lk_off rfl <| lk4 rfl <| lk2 rfl <| lk1 rfl <| lk_entry rfl)) ?_
      refine WL_want rfl rfl (lk1 rfl <| lk0) (decide_eq_true hf) ?_
      refine WL_q rfl (q_move (lk16 rfl <| lk8 rfl <| lk1 rfl <| lk_in rfl hs5)) ?_
      refine WL_want rfl rfl (lk2 rfl <| lk0) (decide_eq_true hf) ?_
      refine WL_q rfl (q_index  sl_22 (lk1 rfl <| lk0) h.plain (lk0) rfl (by omega)) ?_
      refine WL_want rfl rfl (lk2 rfl <| lk1 rfl <| lk0) (decide_eq_true hf) ?_
      refine WL_q rfl (q_fieldAddr fd_62_1 (lk0)) ?_
      refine WL_want rfl rfl (lk4 rfl <| lk0) (decide_eq_true hf) ?_
      refine WL_q rfl (q_load1 one_3 (lk0) (h.cell (by omega) rfl)) ?_
      refine WL_want rfl rfl (lk4 rfl <| lk1 rfl <| lk0) (decide_eq_true hf) ?_
      refine WL_c rfl (q_call bd_56 lk_func (.cons (lk0) (.cons lk_const (.cons lk_const .nil))) (in10_ok _ _ _) (fun _ _ h => h)) ?_
      refine WL_want rfl rfl (lk4 rfl <| lk2 rfl <| lk0) (decide_eq_true hf) ?_
      refine WL_q rfl (q_not (lk0)) ?_
      refine WL_q rfl (q_pick_true (lk4 rfl <| lk2 rfl <| lk1 rfl <| lk0) (decide_eq_true hf) (lk0)) ?_
      refine WL_nil ?_
      refine then_n ?_
      by_cases hc : inB 0 5 bs[k].cls = true
      ·
       refine WC_if_false (lk0) (by simp [hc]) ?_
       refine WC_skip ?_
       refine then_n ?_
       refine WC_seq ?_
       refine WC_seq ?_
       refine WC_reg fun ds => ?_
       refine WL_q rfl (q_move (lk16 rfl <| lk4 rfl <| lk0)) ?_
       refine WL_q rfl (q_eql (lk0) lk_const) ?_
       refine WL_nil ?_
       refine then_n ?_
       refine WC_if_true (lk0) (by first | rfl | exact decide_eq_true hf) ?_
       by_cases hg : rangeE bs[k].lo bs[k].hi 0 1000 = 0
       ·
        refine WC_reg fun ds => ?_
        refine WL_q rfl (q_move (lk32 rfl <| lk2 rfl <| lk_off rfl <| lk4 rfl <| lk2 rfl <| lk1 rfl <| lk_entry rfl)) ?_
        refine WL_q rfl (q_move (lk32 rfl <| lk2 rfl <| lk1 rfl <| lk_in rfl hs5)) ?_
        refine WL_q rfl (q_index  sl_22 (lk1 rfl <| lk0) h.plain (lk0) rfl (by omega)) ?_
        refine WL_q rfl (q_fieldAddr fd_62_2 (lk0)) ?_
        refine WL_q rfl (q_loadN (vs := [.int .i64 bs[k].lo, .int .i64 bs[k].hi]) agg_60 (lk0) rfl rfl (h.part hlt rfl)) ?_
        refine WL_c rfl (q_call bd_87 lk_func (.cons (lk0) (.cons lk_const (.cons lk_const .nil))) (range_ok _ _ _ _) (fun _ _ h => h)) ?_
        refine WL_q rfl (q_assign (lk0)) ?_
        refine WL_nil ?_
        refine then_n ?_
        refine WC_seq ?_
        refine WC_reg fun ds => ?_
        refine WL_q rfl (q_move (lk0)) ?_
        refine WL_q rfl (q_neq (lk0) lk_const) ?_
        refine WL_nil ?_
        refine then_n ?_
        refine WC_if_false (lk0) (by simp [hg]) ?_
        refine WC_skip ?_
        refine block_n (then_n ?_)
        refine WC_imp (fun _ _ h => h.drop (.cons _ <| .refl _)) ?_
        refine WC_reg fun ds => ?_
        refine WL_q rfl (q_move (lk32 rfl <| lk8 rfl <| lk2 rfl <| lk1 rfl <| lk_in rfl hs5)) ?_
        refine WL_q rfl (q_add (lk0) lk_const rfl (by omega) (by omega)) ?_
        refine WL_q rfl (q_assign (lk0)) ?_
        refine WL_nil ?_
        refine then_n ⟨_, m - 1, Off.eq (ou32 rfl <| ou8 rfl <| ou4 rfl <| ou2 rfl <| off_over), by omega, ?_⟩
        refine ⟨k + 1, by omega, (lk0), _, _, (lk16 rfl <| lk8 rfl <| lk1 rfl <| lk0), ho2, rfl, fun j hjk => ?_⟩
        rcases Nat.lt_succ_iff_lt_or_eq.1 hjk with hjk | rfl
        · exact hno j hjk
        · rw [bookErr_rest hlt hf, hc]; simpa using hg
       ·
        refine WC_reg fun ds => ?_
        refine WL_q rfl (q_move (lk32 rfl <| lk2 rfl <| lk_off rfl <| lk4 rfl <| lk2 rfl <| lk1 rfl <| lk_entry rfl)) ?_
        refine WL_q rfl (q_move (lk32 rfl <| lk2 rfl <| lk1 rfl <| lk_in rfl hs5)) ?_
        refine WL_q rfl (q_index  sl_22 (lk1 rfl <| lk0) h.plain (lk0) rfl (by omega)) ?_
        refine WL_q rfl (q_fieldAddr fd_62_2 (lk0)) ?_
        refine WL_q rfl (q_loadN (vs := [.int .i64 bs[k].lo, .int .i64 bs[k].hi]) agg_60 (lk0) rfl rfl (h.part hlt rfl)) ?_
        refine WL_c rfl (q_call bd_87 lk_func (.cons (lk0) (.cons lk_const (.cons lk_const .nil))) (range_ok _ _ _ _) (fun _ _ h => h)) ?_
        refine WL_q rfl (q_assign (lk0)) ?_
        refine WL_nil ?_
        refine then_n ?_
        refine WC_seq ?_
        refine WC_reg fun ds => ?_
        refine WL_q rfl (q_move (lk0)) ?_
        refine WL_q rfl (q_neq (lk0) lk_const) ?_
        refine WL_nil ?_
        refine then_n ?_
        refine WC_if_true (lk0) (by simp [hg]) ?_
        refine WC_seq ?_
        refine WC_reg fun ds => ?_
        refine WL_q rfl (q_move (lk32 rfl <| lk8 rfl <| lk2 rfl <| lk1 rfl <| lk_in rfl hs5)) ?_
        refine WL_q rfl (q_move (lk2 rfl <| lk1 rfl <| lk0)) ?_
        refine WL_q rfl (q_assign (lk1 rfl <| lk0)) ?_
        refine WL_q rfl (q_assign (lk1 rfl <| lk0)) ?_
        refine WL_nil ?_
        refine then_n ?_
        refine WC_ret ?_
        refine block_r (then_r (then_r (block_r (then_r ?_))))
        refine post_ret rfl (.tmp (lk1 rfl <| lk0) (.tmp (lk0) .nil)) ?_
        show _ = _
        rw [checkBooks_bad h1 hlt hno (by rw [bookErr_rest hlt hf, hc]; rfl) hg]; rfl
      ·
       replace hc : inB 0 5 bs[k].cls = false := by simpa using hc
       refine WC_if_true (lk0) (by simp [hc]) ?_
       refine WC_reg fun ds => ?_
       refine WL_q rfl (q_assign lk_const) ?_
       refine WL_nil ?_
       refine then_n ?_
       refine WC_seq ?_
       refine WC_seq ?_
       refine WC_reg fun ds => ?_
       refine WL_q rfl (q_move (lk0)) ?_
       refine WL_q rfl (q_eql (lk0) lk_const) ?_
       refine WL_nil ?_
       refine then_n ?_
       refine WC_if_false (lk0) (by first | rfl | decide) ?_
       refine WC_skip ?_
       refine then_n ?_
       refine WC_seq ?_
       refine WC_reg fun ds => ?_
       refine WL_q rfl (q_move (lk2 rfl <| lk0)) ?_
       refine WL_q rfl (q_neq (lk0) lk_const) ?_
       refine WL_nil ?_
       refine then_n ?_
       refine WC_if_true (lk0) (by first | rfl | decide) ?_
       refine WC_seq ?_
       refine WC_reg fun ds => ?_
       refine WL_q rfl (q_move (lk32 rfl <| lk4 rfl <| lk1 rfl <| lk_in rfl hs5)) ?_
       refine WL_q rfl (q_move (lk4 rfl <| lk1 rfl <| lk0)) ?_
       refine WL_q rfl (q_assign (lk1 rfl <| lk0)) ?_
       refine WL_q rfl (q_assign (lk1 rfl <| lk0)) ?_
       refine WL_nil ?_
       refine then_n ?_
       refine WC_ret ?_
       refine block_r (then_r (then_r (block_r (then_r ?_))))
       refine post_ret rfl (.tmp (lk1 rfl <| lk0) (.tmp (lk0) .nil)) ?_
       show _ = _
       rw [checkBooks_bad h1 hlt hno (e := 7) (by rw [bookErr_rest hlt hf, hc]; rfl) (by decide)]; rfl
     ·
      refine WC_skip ?_
      refine then_n ?_
      refine WC_seq ?_
      refine WC_block ?_
      refine WC_seq ?_
      refine WC_reg fun ds => ?_
      refine WL_q rfl (q_move (lk4 rfl <| lk_off rfl <| lk4 rfl <| lk2 rfl <| lk1 rfl <| lk_entry rfl)) ?_
      refine WL_q rfl (q_move (lk4 rfl <| lk1 rfl <| lk_in rfl hs5)) ?_
      refine WL_q rfl (q_index  sl_22 (lk1 rfl <| lk0) h.plain (lk0) rfl (by omega)) ?_
      refine WL_q rfl (q_fieldAddr fd_62_0 (lk0)) ?_
      refine WL_q rfl (q_load1 one_9 (lk0) (h.cell (by omega) rfl)) ?_
      refine WL_q rfl (q_move (lk8 rfl <| lk1 rfl <| lk_in rfl hs4)) ?_
      refine WL_c rfl (q_callH bd_86 lk_func (.cons (lk1 rfl <| lk0) (.cons (lk0) .nil)) (fun G _ hG => fresh_ok (ho.sl (fun _ => rfl) (fun p hp => hG p (by simpa using hp)) (by omega)) _) (fun _ _ h => h)) ?_
      refine WL_q rfl (q_assign (lk0)) ?_
      refine WL_nil ?_
      refine then_n ?_
      refine WC_seq ?_
      refine WC_reg fun ds => ?_
      refine WL_q rfl (q_move (lk8 rfl <| lk4 rfl <| lk_in rfl hs4)) ?_
      refine WL_q rfl (q_move (lk8 rfl <| lk4 rfl <| lk1 rfl <| lk_off rfl <| lk4 rfl <| lk2 rfl <| lk1 rfl <| lk_entry rfl)) ?_
      refine WL_q rfl (q_move (lk8 rfl <| lk4 rfl <| lk2 rfl <| lk_in rfl hs5)) ?_
      refine WL_q rfl (q_index  sl_22 (lk1 rfl <| lk0) h.plain (lk0) rfl (by omega)) ?_
      refine WL_q rfl (q_fieldAddr fd_62_0 (lk0)) ?_
      refine WL_q rfl (q_load1 one_9 (lk0) (h.cell (by omega) rfl)) ?_
      refine WL_x rfl (x_build sl_136 zr_9 rfl (.cons (lk0) .nil) rfl rfl (by decide) (by simp [Value.oneCell']) fun b6 hb6 nb6 => ?_)
      refine WL_x rfl (x_append sl_136 el_9 (lk4 rfl <| lk2 rfl <| lk0) ho (lk0) (src_box (s := 1) 0 rfl rfl (by simp [Value.oneCell'])) (by rw [hnl]; omega) (by rw [hnl]; omega) (.s <| .z) .last fun v7 R8 ho9 => ?_)
      have ho2 := ho9.snoc rfl rfl
      rw [← bnames_succ hlt] at ho2
      clear ho9
      refine WL_q rfl (q_assign (lk0)) ?_
      refine WL_nil ?_
      refine then_n ?_
      refine WC_seq ?_
      refine WC_seq ?_
      refine WC_reg fun ds => ?_
      refine WL_q rfl (q_move (lk8 rfl <| lk1 rfl <| lk0)) ?_
      refine WL_q rfl (q_eql (lk0) lk_const) ?_
      refine WL_q rfl (q_move (lk0)) ?_
      refine WL_pass rfl rfl (lk0) (.inl (congrArg Value.bool (decide_eq_false hf))) rfl ?_
      refine WL_pass rfl rfl (lk1 rfl <| lk0) (.inl (congrArg Value.bool (decide_eq_false hf))) rfl ?_
      refine WL_pass rfl rfl (lk2 rfl <| lk0) (.inl (congrArg Value.bool (decide_eq_false hf))) rfl ?_
      refine WL_pass rfl rfl (lk2 rfl <| lk1 rfl <| lk0) (.inl (congrArg Value.bool (decide_eq_false hf))) rfl ?_
      refine WL_pass rfl rfl (lk4 rfl <| lk0) (.inl (congrArg Value.bool (decide_eq_false hf))) rfl ?_
      refine WL_pass rfl rfl (lk4 rfl <| lk1 rfl <| lk0) (.inl (congrArg Value.bool (decide_eq_false hf))) rfl ?_
      refine WL_pass rfl rfl (lk4 rfl <| lk2 rfl <| lk0) (.inl (congrArg Value.bool (decide_eq_false hf))) rfl ?_
      refine WL_q rfl (q_pick_false (lk4 rfl <| lk2 rfl <| lk1 rfl <| lk0) (decide_eq_false hf) lk_const) ?_
      refine WL_nil ?_
      refine then_n ?_
      refine WC_if_false (lk0) (by simp [hf]) ?_
      refine WC_skip ?_
      refine then_n ?_
      refine WC_seq ?_
      refine WC_seq ?_
      refine WC_reg fun ds => ?_
      refine WL_q rfl (q_move (lk16 rfl <| lk4 rfl <| lk0)) ?_
      refine WL_q rfl (q_eql (lk0) lk_const) ?_
      refine WL_nil ?_
      refine then_n ?_
      refine WC_if_false (lk0) (by simp [hf]) ?_
      refine WC_skip ?_
      refine then_n ?_
      refine WC_seq ?_
      refine WC_reg fun ds => ?_
      refine WL_q rfl (q_move (lk16 rfl <| lk4 rfl <| lk2 rfl <| lk0)) ?_
      refine WL_q rfl (q_neq (lk0) lk_const) ?_
      refine WL_nil ?_
      refine then_n ?_
      refine WC_if_true (lk0) (by simp [hf]) ?_
      refine WC_seq ?_
      refine WC_reg fun ds => ?_
      refine WL_q rfl (q_move (lk32 rfl <| lk4 rfl <| lk_in rfl hs5)) ?_
      refine WL_q rfl (q_move (lk16 rfl <| lk8 rfl <| lk1 rfl <| lk0)) ?_
      refine WL_q rfl (q_assign (lk1 rfl <| lk0)) ?_
      refine WL_q rfl (q_assign (lk1 rfl <| lk0)) ?_
      refine WL_nil ?_
      refine then_n ?_
      refine WC_ret ?_
      refine block_r (then_r (then_r (block_r (then_r ?_))))
      refine post_ret rfl (.tmp (lk1 rfl <| lk0) (.tmp (lk0) .nil)) ?_
      show _ = _
      rw [checkBooks_bad h1 hlt hno (bookErr_fresh hlt hf) hf]; rfl
    ·
     refine WC_seq ?_
     refine WC_seq ?_
     refine WC_reg fun ds => ?_
     refine WL_q rfl (q_move (lk_in rfl hs5)) ?_
     refine WL_q rfl (q_move (lk1 rfl <| lk_off rfl <| lk4 rfl <| lk2 rfl <| lk1 rfl <| lk_entry rfl)) ?_
     refine WL_q rfl (q_lenP sl_22 (lk0) h.plain) ?_
     refine WL_q rfl (q_lss (lk2 rfl <| lk0) (lk0)) ?_
     refine WL_nil ?_
     refine then_n ?_
     refine WC_if_false (lk0) (by first | rfl | exact decide_eq_false (by omega)) ?_
     refine WC_exit ?_
     refine then_x (then_x (exit_here ?_))
     refine then_n ?_
     refine WC_seq ?_
     refine WC_reg fun ds => ?_
     refine WL_q rfl (q_assign lk_const) ?_
     refine WL_q rfl (q_assign lk_const) ?_
     refine WL_nil ?_
     refine then_n ?_
     refine WC_ret ?_
     refine post_ret rfl (.tmp (lk1 rfl <| lk0) (.tmp (lk0) .nil)) ?_
     show _ = _
     rw [checkBooks_ok h1 fun j hj => hno j (by omega)]; rfl
set_option maxRecDepth 100000 in
theorem refReaders_ok {F : Heap} {v : Value} {bs : List Rdr} (h : Sl F v 2 Rdr.enc bs) : Ok Try.prog 55 [v].toArray F fun r _ => r = optV (checkRdrs bs) := by
  refine Ok.intro Try.func55 rfl Try.ntmps55 rfl fun w0 => ?_
  have hlen := h.plain.lt
  by_cases h1 : 8 < bs.length
  ·
   refine WC_seq ?_
   refine WC_reg fun ds => ?_
   refine WL_q rfl (q_assign lk_const) ?_
   refine WL_q rfl (q_assign lk_const) ?_
   refine WL_nil ?_
   refine then_n ?_
   refine WC_seq ?_
   refine WC_seq ?_
   refine WC_reg fun ds => ?_
   refine WL_q rfl (q_move (lk2 rfl <| lk_entry rfl)) ?_
   refine WL_q rfl (q_lenP sl_23 (lk0) h.plain) ?_
   refine WL_q rfl (q_gtr (lk0) lk_const) ?_
   refine WL_nil ?_
   refine then_n ?_
   refine WC_if_true (lk0) (by first | rfl | exact decide_eq_true (by omega)) ?_
   refine WC_seq ?_
   refine WC_reg fun ds => ?_
   refine WL_q rfl (q_assign lk_const) ?_
   refine WL_q rfl (q_assign lk_const) ?_
   refine WL_nil ?_
   refine then_n ?_
   refine WC_ret ?_
   refine then_r ?_
   refine post_ret rfl (.tmp (lk1 rfl <| lk0) (.tmp (lk0) .nil)) ?_
   show _ = _
   rw [checkRdrs_long h1]; rfl
  ·
   refine WC_seq ?_
   refine WC_reg fun ds => ?_
   refine WL_q rfl (q_assign lk_const) ?_
   refine WL_q rfl (q_assign lk_const) ?_
   refine WL_nil ?_
   refine then_n ?_
   refine WC_seq ?_
   refine WC_seq ?_
   refine WC_reg fun ds => ?_
   refine WL_q rfl (q_move (lk2 rfl <| lk_entry rfl)) ?_
   refine WL_q rfl (q_lenP sl_23 (lk0) h.plain) ?_
   refine WL_q rfl (q_gtr (lk0) lk_const) ?_
   refine WL_nil ?_
   refine then_n ?_
   refine WC_if_false (lk0) (by first | rfl | exact decide_eq_false (by omega)) ?_
   refine WC_skip ?_
   refine then_n ?_
   refine WC_seq ?_
   refine WC_reg fun ds => ?_
   refine WL_q rfl (q_assign lk_const) ?_
   refine WL_nil ?_
   refine then_n ?_
   refine WC_seq ?_
   refine WC_seq ?_
   refine WC_reg fun ds => ?_
   refine WL_q rfl (q_assign lk_const) ?_
   refine WL_nil ?_
   refine then_n ?_
   refine WC_block ?_
   refine WC_loopN [2, 3, 4, 5, 6, 10, 11, 12, 13, 14, 15, 16, 17, 18, 19, 20, 21, 22, 23, 24, 25, 26, 27, 28, 29, 30, 31, 32, 33, 34, 35, 36, 37, 38, 39, 40, 41, 42, 43, 44, 45] (fun m e σ => ∃ k : Nat, m + k = bs.length ∧ e 5 = .int .i64 k ∧ ∃ v R, e 4 = v ∧ Own 9 1 v (rnames bs k).length ((rnames bs k).flatMap strE) R ∧ σ = ⟨F, R⟩ ∧ ∀ j, j < k → rdrErr bs j = 0) (bs.length) ?_ ?_
   · exact ⟨0, by omega, (lk0), _, _, (lk1 rfl <| lk0), Own.nil, rfl, fun j h => absurd h (by omega)⟩
   ·
    rintro m e _ ⟨k, hm, hs5, v4, R4, hs4, ho, rfl, hno⟩
    by_cases hlt : k < bs.length
    ·
     have hnl := rnames_length (Nat.le_of_lt hlt)
     refine WC_seq ?_
     refine WC_seq ?_
     refine WC_reg fun ds => ?_
     refine WL_q rfl (q_move (lk_in rfl hs5)) ?_
     refine WL_q rfl (q_move (lk1 rfl <| lk_off rfl <| lk4 rfl <| lk2 rfl <| lk1 rfl <| lk_entry rfl)) ?_
     refine WL_q rfl (q_lenP sl_23 (lk0) h.plain) ?_
     refine WL_q rfl (q_lss (lk2 rfl <| lk0) (lk0)) ?_
     refine WL_nil ?_
     refine then_n ?_
     refine WC_if_true (lk0) (by first | rfl | exact decide_eq_true (by omega)) ?_
     by_cases hf : freshE bs[k].name (rnames bs k) = 0
     ·
      refine WC_skip ?_
      refine then_n ?_
      refine WC_seq ?_
      refine WC_block ?_
      refine WC_seq ?_
      refine WC_reg fun ds => ?_
      refine WL_q rfl (q_move (lk4 rfl <| lk_off rfl <| lk4 rfl <| lk2 rfl <| lk1 rfl <| lk_entry rfl)) ?_
      refine WL_q rfl (q_move (lk4 rfl <| lk1 rfl <| lk_in rfl hs5)) ?_
      refine WL_q rfl (q_index  sl_23 (lk1 rfl <| lk0) h.plain (lk0) rfl (by omega)) ?_
      refine WL_q rfl (q_fieldAddr fd_64_0 (lk0)) ?_
      refine WL_q rfl (q_load1 one_9 (lk0) (h.cell (by omega) rfl)) ?_
      refine WL_q rfl (q_move (lk8 rfl <| lk1 rfl <| lk_in rfl hs4)) ?_
      refine WL_c rfl (q_callH bd_86 lk_func (.cons (lk1 rfl <| lk0) (.cons (lk0) .nil)) (fun G _ hG => fresh_ok (ho.sl (fun _ => rfl) (fun p hp => hG p (by simpa using hp)) (by omega)) _) (fun _ _ h => h)) ?_
      refine WL_q rfl (q_assign (lk0)) ?_
      refine WL_nil ?_
      refine then_n ?_
      refine WC_seq ?_
      refine WC_reg fun ds => ?_
      refine WL_q rfl (q_move (lk8 rfl <| lk4 rfl <| lk_in rfl hs4)) ?_
      refine WL_q rfl (q_move (lk8 rfl <| lk4 rfl <| lk1 rfl <| lk_off rfl <| lk4 rfl <| lk2 rfl <| lk1 rfl <| lk_entry rfl)) ?_
      refine WL_q rfl (q_move (lk8 rfl <| lk4 rfl <| lk2 rfl <| lk_in rfl hs5)) ?_
      refine WL_q rfl (q_index  sl_23 (lk1 rfl <| lk0) h.plain (lk0) rfl (by omega)) ?_
      refine WL_q rfl (q_fieldAddr fd_64_0 (lk0)) ?_
      refine WL_q rfl (q_load1 one_9 (lk0) (h.cell (by omega) rfl)) ?_
      refine WL_x rfl (x_build sl_136 zr_9 rfl (.cons (lk0) .nil) rfl rfl (by decide) (by simp [Value.oneCell']) fun b2 hb2 nb2 => ?_)
      refine WL_x rfl (x_append sl_136 el_9 (lk4 rfl <| lk2 rfl <| lk0) ho (lk0) (src_box (s := 1) 0 rfl rfl (by simp [Value.oneCell'])) (by rw [hnl]; omega) (by rw [hnl]; omega) (.s <| .z) .last fun v3 R4 ho5 => ?_)
      have ho2 := ho5.snoc rfl rfl
      rw [← rnames_succ hlt] at ho2
      clear ho5
      refine WL_q rfl (q_assign (lk0)) ?_
      refine WL_nil ?_
      refine then_n ?_
      refine WC_seq ?_
      refine WC_seq ?_
      refine WC_reg fun ds => ?_
      refine WL_q rfl (q_move (lk8 rfl <| lk1 rfl <| lk0)) ?_
      refine WL_q rfl (q_eql (lk0) lk_const) ?_
      refine WL_q rfl (q_move (lk0)) ?_
      refine WL_want rfl rfl (lk0) (decide_eq_true hf) ?_
      refine WL_q rfl (q_move (lk16 rfl <| lk8 rfl <| lk_off rfl <| lk4 rfl <| lk2 rfl <| lk1 rfl <| lk_entry rfl)) ?_
      refine WL_want rfl rfl (lk1 rfl <| lk0) (decide_eq_true hf) ?_
      refine WL_q rfl (q_move (lk16 rfl <| lk8 rfl <| lk1 rfl <| lk_in rfl hs5)) ?_
      refine WL_want rfl rfl (lk2 rfl <| lk0) (decide_eq_true hf) ?_
      refine WL_q rfl (q_index  sl_23 (lk1 rfl <| lk0) h.plain (lk0) rfl (by omega)) ?_
      refine WL_want rfl rfl (lk2 rfl <| lk1 rfl <| lk0) (decide_eq_true hf) ?_
      refine WL_q rfl (q_fieldAddr fd_64_1 (lk0)) ?_
      refine WL_want rfl rfl (lk4 rfl <| lk0) (decide_eq_true hf) ?_
      refine WL_q rfl (q_load1 one_3 (lk0) (h.cell (by omega) rfl)) ?_
      refine WL_want rfl rfl (lk4 rfl <| lk1 rfl <| lk0) (decide_eq_true hf) ?_
      refine WL_c rfl (q_call bd_56 lk_func (.cons (lk0) (.cons lk_const (.cons lk_const .nil))) (in10_ok _ _ _) (fun _ _ h => h)) ?_
      refine WL_want rfl rfl (lk4 rfl <| lk2 rfl <| lk0) (decide_eq_true hf) ?_
      refine WL_q rfl (q_not (lk0)) ?_
      refine WL_q rfl (q_pick_true (lk4 rfl <| lk2 rfl <| lk1 rfl <| lk0) (decide_eq_true hf) (lk0)) ?_
      refine WL_nil ?_
      refine then_n ?_
      by_cases hc : inB 0 5 bs[k].permit = true
      ·
       refine WC_if_false (lk0) (by simp [hc]) ?_
       refine WC_skip ?_
       refine then_n ?_
       refine WC_seq ?_
       refine WC_reg fun ds => ?_
       refine WL_q rfl (q_move (lk16 rfl <| lk4 rfl <| lk0)) ?_
       refine WL_q rfl (q_neq (lk0) lk_const) ?_
       refine WL_nil ?_
       refine then_n ?_
       refine WC_if_false (lk0) (by simp [hf]) ?_
       refine WC_skip ?_
       refine block_n (then_n ?_)
       refine WC_imp (fun _ _ h => h.drop (.cons _ <| .refl _)) ?_
       refine WC_reg fun ds => ?_
       refine WL_q rfl (q_move (lk32 rfl <| lk2 rfl <| lk_in rfl hs5)) ?_
       refine WL_q rfl (q_add (lk0) lk_const rfl (by omega) (by omega)) ?_
       refine WL_q rfl (q_assign (lk0)) ?_
       refine WL_nil ?_
       refine then_n ⟨_, m - 1, Off.eq (ou32 rfl <| ou4 rfl <| ou1 rfl <| off_over), by omega, ?_⟩
       refine ⟨k + 1, by omega, (lk0), _, _, (lk16 rfl <| lk0), ho2, rfl, fun j hjk => ?_⟩
       rcases Nat.lt_succ_iff_lt_or_eq.1 hjk with hjk | rfl
       · exact hno j hjk
       · rw [rdrErr_rest hlt hf, hc]; rfl
      ·
       replace hc : inB 0 5 bs[k].permit = false := by simpa using hc
       refine WC_if_true (lk0) (by simp [hc]) ?_
       refine WC_reg fun ds => ?_
       refine WL_q rfl (q_assign lk_const) ?_
       refine WL_nil ?_
       refine then_n ?_
       refine WC_seq ?_
       refine WC_reg fun ds => ?_
       refine WL_q rfl (q_move (lk0)) ?_
       refine WL_q rfl (q_neq (lk0) lk_const) ?_
       refine WL_nil ?_
       refine then_n ?_
       refine WC_if_true (lk0) (by first | rfl | decide) ?_
       refine WC_seq ?_
       refine WC_reg fun ds => ?_
       refine WL_q rfl (q_move (lk32 rfl <| lk2 rfl <| lk1 rfl <| lk_in rfl hs5)) ?_
       refine WL_q rfl (q_move (lk2 rfl <| lk1 rfl <| lk0)) ?_
       refine WL_q rfl (q_assign (lk1 rfl <| lk0)) ?_
       refine WL_q rfl (q_assign (lk1 rfl <| lk0)) ?_
       refine WL_nil ?_
       refine then_n ?_
       refine WC_ret ?_
       refine block_r (then_r (then_r (block_r (then_r ?_))))
       refine post_ret rfl (.tmp (lk1 rfl <| lk0) (.tmp (lk0) .nil)) ?_
       show _ = _
       rw [checkRdrs_bad h1 hlt hno (e := 7) (by rw [rdrErr_rest hlt hf, hc]; rfl) (by decide)]; rfl
     ·
      refine WC_skip ?_
      refine then_n ?_
      refine WC_seq ?_
      refine WC_block ?_
      refine WC_seq ?_
      refine WC_reg fun ds => ?_
      refine WL_q rfl (q_move (lk4 rfl <| lk_off rfl <| lk4 rfl <| lk2 rfl <| lk1 rfl <| lk_entry rfl)) ?_
      refine WL_q rfl (q_move (lk4 rfl <| lk1 rfl <| lk_in rfl hs5)) ?_
      refine WL_q rfl (q_index  sl_23 (lk1 rfl <| lk0) h.plain (lk0) rfl (by omega)) ?_
      refine WL_q rfl (q_fieldAddr fd_64_0 (lk0)) ?_
      refine WL_q rfl (q_load1 one_9 (lk0) (h.cell (by omega) rfl)) ?_
      refine WL_q rfl (q_move (lk8 rfl <| lk1 rfl <| lk_in rfl hs4)) ?_
      refine WL_c rfl (q_callH bd_86 lk_func (.cons (lk1 rfl <| lk0) (.cons (lk0) .nil)) (fun G _ hG => fresh_ok (ho.sl (fun _ => rfl) (fun p hp => hG p (by simpa using hp)) (by omega)) _) (fun _ _ h => h)) ?_
      refine WL_q rfl (q_assign (lk0)) ?_
      refine WL_nil ?_
      refine then_n ?_
      refine WC_seq ?_
      refine WC_reg fun ds => ?_
      refine WL_q rfl (q_move (lk8 rfl <| lk4 rfl <| lk_in rfl hs4)) ?_
      refine WL_q rfl (q_move (lk8 rfl <| lk4 rfl <| lk1 rfl <| lk_off rfl <| lk4 rfl <| lk2 rfl <| lk1 rfl <| lk_entry rfl)) ?_
      refine WL_q rfl (q_move (lk8 rfl <| lk4 rfl <| lk2 rfl <| lk_in rfl hs5)) ?_
      refine WL_q rfl (q_index  sl_23 (lk1 rfl <| lk0) h.plain (lk0) rfl (by omega)) ?_
      refine WL_q rfl (q_fieldAddr fd_64_0 (lk0)) ?_
      refine WL_q rfl (q_load1 one_9 (lk0) (h.cell (by omega) rfl)) ?_
      refine WL_x rfl (x_build sl_136 zr_9 rfl (.cons (lk0) .nil) rfl rfl (by decide) (by simp [Value.oneCell']) fun b6 hb6 nb6 => ?_)
      refine WL_x rfl (x_append sl_136 el_9 (lk4 rfl <| lk2 rfl <| lk0) ho (lk0) (src_box (s := 1) 0 rfl rfl (by simp [Value.oneCell'])) (by rw [hnl]; omega) (by rw [hnl]; omega) (.s <| .z) .last fun v7 R8 ho9 => ?_)
      have ho2 := ho9.snoc rfl rfl
      rw [← rnames_succ hlt] at ho2
      clear ho9
      refine WL_q rfl (q_assign (lk0)) ?_
      refine WL_nil ?_
      refine then_n ?_
      refine WC_seq ?_
      refine WC_seq ?_
      refine WC_reg fun ds => ?_
      refine WL_q rfl (q_move (lk8 rfl <| lk1 rfl <| lk0)) ?_
      refine WL_q rfl (q_eql (lk0) lk_const) ?_
      refine WL_q rfl (q_move (lk0)) ?_
      refine WL_pass rfl rfl (lk0) (.inl (congrArg Value.bool (decide_eq_false hf))) rfl ?_
      refine WL_pass rfl rfl (lk1 rfl <| lk0) (.inl (congrArg Value.bool (decide_eq_false hf))) rfl ?_
      refine WL_pass rfl rfl (lk2 rfl <| lk0) (.inl (congrArg Value.bool (decide_eq_false hf))) rfl ?_
      refine WL_pass rfl rfl (lk2 rfl <| lk1 rfl <| lk0) (.inl (congrArg Value.bool (decide_eq_false hf))) rfl ?_
      refine WL_pass rfl rfl (lk4 rfl <| lk0) (.inl (congrArg Value.bool (decide_eq_false hf))) rfl ?_
      refine WL_pass rfl rfl (lk4 rfl <| lk1 rfl <| lk0) (.inl (congrArg Value.bool (decide_eq_false hf))) rfl ?_
      refine WL_pass rfl rfl (lk4 rfl <| lk2 rfl <| lk0) (.inl (congrArg Value.bool (decide_eq_false hf))) rfl ?_
      refine WL_q rfl (q_pick_false (lk4 rfl <| lk2 rfl <| lk1 rfl <| lk0) (decide_eq_false hf) lk_const) ?_
      refine WL_nil ?_
      refine then_n ?_
      refine WC_if_false (lk0) (by simp [hf]) ?_
      refine WC_skip ?_
      refine then_n ?_
      refine WC_seq ?_
      refine WC_reg fun ds => ?_
      refine WL_q rfl (q_move (lk16 rfl <| lk4 rfl <| lk0)) ?_
      refine WL_q rfl (q_neq (lk0) lk_const) ?_
      refine WL_nil ?_
      refine then_n ?_
      refine WC_if_true (lk0) (by simp [hf]) ?_
      refine WC_seq ?_
      refine WC_reg fun ds => ?_
      refine WL_q rfl (q_move (lk32 rfl <| lk2 rfl <| lk_in rfl hs5)) ?_
      refine WL_q rfl (q_move (lk16 rfl <| lk4 rfl <| lk2 rfl <| lk1 rfl <| lk0)) ?_
      refine WL_q rfl (q_assign (lk1 rfl <| lk0)) ?_
      refine WL_q rfl (q_assign (lk1 rfl <| lk0)) ?_
      refine WL_nil ?_
      refine then_n ?_
      refine WC_ret ?_
      refine block_r (then_r (then_r (block_r (then_r ?_))))
      refine post_ret rfl (.tmp (lk1 rfl <| lk0) (.tmp (lk0) .nil)) ?_
      show _ = _
      rw [checkRdrs_bad h1 hlt hno (rdrErr_fresh hlt hf) hf]; rfl
    ·
     refine WC_seq ?_
     refine WC_seq ?_
     refine WC_reg fun ds => ?_
     refine WL_q rfl (q_move (lk_in rfl hs5)) ?_
     refine WL_q rfl (q_move (lk1 rfl <| lk_off rfl <| lk4 rfl <| lk2 rfl <| lk1 rfl <| lk_entry rfl)) ?_
     refine WL_q rfl (q_lenP sl_23 (lk0) h.plain) ?_
     refine WL_q rfl (q_lss (lk2 rfl <| lk0) (lk0)) ?_
     refine WL_nil ?_
     refine then_n ?_
     refine WC_if_false (lk0) (by first | rfl | exact decide_eq_false (by omega)) ?_
     refine WC_exit ?_
     refine then_x (then_x (exit_here ?_))
     refine then_n ?_
     refine WC_seq ?_
     refine WC_reg fun ds => ?_
     refine WL_q rfl (q_assign lk_const) ?_
     refine WL_q rfl (q_assign lk_const) ?_
     refine WL_nil ?_
     refine then_n ?_
     refine WC_ret ?_
     refine post_ret rfl (.tmp (lk1 rfl <| lk0) (.tmp (lk0) .nil)) ?_
     show _ = _
     rw [checkRdrs_ok h1 fun j hj => hno j (by omega)]; rfl
end Go.Proofs.Ytbcjfkcpfjccdaa
namespace Go.Proofs.Ytbcjfkcpfjccdaa
open Go.RowKit
theorem bd_54 : Body Try.prog 54 := body_of (by kernel_rfl)
theorem bd_55 : Body Try.prog 55 := body_of (by kernel_rfl)
set_option maxRecDepth 100000 in
theorem refCheck_ok {F : Heap} {vb vr vs vq : Value} {r : Room} (hr : RoomR F vb vr vs vq r) : Ok Try.prog 16 [.agg #[vb, vr, vs, vq]].toArray F fun v _ => v = checkV r := by
  refine Ok.intro Try.func16 rfl Try.ntmps16 rfl fun w0 => ?_
  rcases hB : checkBooks r.books with _ | ⟨i1, e1⟩
  ·
   refine WC_seq ?_
   refine WC_reg fun ds => ?_
   refine WL_x rfl (x_box (lk_entry rfl) rfl fun b1 hb1 nb1 => ?_)
   refine WL_q rfl (q_assign lk_const) ?_
   refine WL_q rfl (q_assign lk_const) ?_
   refine WL_q rfl (q_assign lk_const) ?_
   refine WL_nil ?_
   refine then_n ?_
   refine WC_seq ?_
   refine WC_reg fun ds => ?_
   refine WL_q rfl (q_fieldAddrB fd_27_0 (lk2 rfl <| lk1 rfl <| lk0)) ?_
   refine WL_q rfl (q_load1 one_22 (lk0) (Cell.own 0 rfl rfl)) ?_
   refine WL_c rfl (q_call bd_54 lk_func (.cons (lk0) .nil) (refBooks_ok hr.books) (fun _ _ h => h.trans (by rw [hB]))) ?_
   refine WL_q rfl (q_move (lk0)) ?_
   refine WL_q rfl (q_extract (lk0) rfl) ?_
   refine WL_q rfl (q_extract (lk1 rfl <| lk0) rfl) ?_
   refine WL_q rfl (q_assign (lk1 rfl <| lk0)) ?_
   refine WL_q rfl (q_assign (lk1 rfl <| lk0)) ?_
   refine WL_nil ?_
   refine then_n ?_
   refine WC_seq ?_
   refine WC_seq ?_
   refine WC_reg fun ds => ?_
   refine WL_q rfl (q_move (lk0)) ?_
   refine WL_q rfl (q_neq (lk0) lk_const) ?_
   refine WL_nil ?_
   refine then_n ?_
   refine WC_if_false (lk0) (by simp) ?_
   rcases hR : checkRdrs r.readers with _ | ⟨i2, e2⟩
   ·
    refine WC_skip ?_
    refine then_n ?_
    refine WC_seq ?_
    refine WC_reg fun ds => ?_
    refine WL_q rfl (q_fieldAddrB fd_27_1 (lk8 rfl <| lk4 rfl <| lk1 rfl <| lk0)) ?_
    refine WL_q rfl (q_load1 one_23 (lk0) (Cell.own 0 rfl rfl)) ?_
    refine WL_c rfl (q_call bd_55 lk_func (.cons (lk0) .nil) (refReaders_ok hr.readers) (fun _ _ h => h.trans (by rw [hR]))) ?_
    refine WL_q rfl (q_move (lk0)) ?_
    refine WL_q rfl (q_extract (lk0) rfl) ?_
    refine WL_q rfl (q_extract (lk1 rfl <| lk0) rfl) ?_
    refine WL_q rfl (q_assign (lk1 rfl <| lk0)) ?_
    refine WL_q rfl (q_assign (lk1 rfl <| lk0)) ?_
    refine WL_nil ?_
    refine then_n ?_
    refine WC_seq ?_
    refine WC_seq ?_
    refine WC_reg fun ds => ?_
    refine WL_q rfl (q_move (lk0)) ?_
    refine WL_q rfl (q_neq (lk0) lk_const) ?_
    refine WL_nil ?_
    refine then_n ?_
    refine WC_if_false (lk0) (by simp) ?_
    by_cases h3 : 6 < r.seats.length
    ·
     refine WC_skip ?_
     refine then_n ?_
     refine WC_seq ?_
     refine WC_seq ?_
     refine WC_reg fun ds => ?_
     refine WL_q rfl (q_fieldAddrB fd_27_2 (lk16 rfl <| lk4 rfl <| lk2 rfl <| lk1 rfl <| lk0)) ?_
     refine WL_q rfl (q_load1 one_24 (lk0) (Cell.own 0 rfl rfl)) ?_
     refine WL_q rfl (q_lenP sl_24 (lk0) hr.seats.plain) ?_
     refine WL_q rfl (q_gtr (lk0) lk_const) ?_
     refine WL_nil ?_
     refine then_n ?_
     refine WC_if_true (lk0) (by first | rfl | exact decide_eq_true (by omega)) ?_
     refine WC_seq ?_
     refine WC_reg fun ds => ?_
     refine WL_q rfl (q_assign lk_const) ?_
     refine WL_q rfl (q_assign lk_const) ?_
     refine WL_q rfl (q_assign lk_const) ?_
     refine WL_nil ?_
     refine then_n ?_
     refine WC_ret ?_
     refine then_r ?_
     refine post_ret rfl (.tmp (lk2 rfl <| lk0) (.tmp (lk1 rfl <| lk0) (.tmp (lk0) .nil))) ?_
     show _ = _
     exact (checkV3 hB hR (checkSeats_long h3)).symm
    ·
     refine WC_skip ?_
     refine then_n ?_
     refine WC_seq ?_
     refine WC_seq ?_
     refine WC_reg fun ds => ?_
     refine WL_q rfl (q_fieldAddrB fd_27_2 (lk16 rfl <| lk4 rfl <| lk2 rfl <| lk1 rfl <| lk0)) ?_
     refine WL_q rfl (q_load1 one_24 (lk0) (Cell.own 0 rfl rfl)) ?_
     refine WL_q rfl (q_lenP sl_24 (lk0) hr.seats.plain) ?_
     refine WL_q rfl (q_gtr (lk0) lk_const) ?_
     refine WL_nil ?_
     refine then_n ?_
     refine WC_if_false (lk0) (by first | rfl | exact decide_eq_false (by omega)) ?_
     refine WC_skip ?_
     refine then_n ?_
     refine WC_seq ?_
     refine WC_seq ?_
     refine WC_reg fun ds => ?_
     refine WL_q rfl (q_assign lk_const) ?_
     refine WL_nil ?_
     refine then_n ?_
     refine WC_block ?_
     refine WC_loopN [2, 3, 4, 7, 34, 35, 36, 37, 38, 39, 40, 41, 42, 43, 44, 45, 46, 47, 48, 49] (fun m e σ => ∃ k : Nat, m + k = r.seats.length ∧ e 7 = .int .i64 k ∧ σ = ⟨F, [(b1, bx 27 [vb, vr, vs, vq])]⟩ ∧ ∀ j, j < k → seatErr r.seats j = 0) (r.seats.length) ?_ ?_
     · exact ⟨0, by omega, (lk0), rfl, fun j h => absurd h (by omega)⟩
     ·
      rintro m e _ ⟨k, hm, hs7, rfl, hno⟩
      by_cases hlt : k < r.seats.length
      ·
       refine WC_seq ?_
       refine WC_seq ?_
       refine WC_reg fun ds => ?_
       refine WL_q rfl (q_move (lk_in rfl hs7)) ?_
       refine WL_q rfl (q_fieldAddrB fd_27_2 (lk1 rfl <| lk_off rfl <| lk16 rfl <| lk8 rfl <| lk4 rfl <| lk0)) ?_
       refine WL_q rfl (q_load1 one_24 (lk0) (Cell.own 0 rfl rfl)) ?_
       refine WL_q rfl (q_lenP sl_24 (lk0) hr.seats.plain) ?_
       refine WL_q rfl (q_lss (lk2 rfl <| lk1 rfl <| lk0) (lk0)) ?_
       refine WL_nil ?_
       refine then_n ?_
       refine WC_if_true (lk0) (by first | rfl | exact decide_eq_true (by omega)) ?_
       by_cases h1c : inB 0 100 r.seats[k].light = true
       ·
        refine WC_skip ?_
        refine then_n ?_
        refine WC_seq ?_
        refine WC_block ?_
        refine WC_seq ?_
        refine WC_reg fun ds => ?_
        refine WL_q rfl (q_fieldAddrB fd_27_2 (lk4 rfl <| lk1 rfl <| lk_off rfl <| lk16 rfl <| lk8 rfl <| lk4 rfl <| lk0)) ?_
        refine WL_q rfl (q_load1 one_24 (lk0) (Cell.own 0 rfl rfl)) ?_
        refine WL_q rfl (q_move (lk4 rfl <| lk2 rfl <| lk1 rfl <| lk_in rfl hs7)) ?_
        refine WL_q rfl (q_index  sl_24 (lk1 rfl <| lk0) hr.seats.plain (lk0) rfl (by omega)) ?_
        refine WL_q rfl (q_fieldAddr fd_66_0 (lk0)) ?_
        refine WL_q rfl (q_load1 one_3 (lk0) (hr.seats.cell (by omega) rfl)) ?_
        refine WL_c rfl (q_call bd_56 lk_func (.cons (lk0) (.cons lk_const (.cons lk_const .nil))) (in10_ok _ _ _) (fun _ _ h => h)) ?_
        refine WL_q rfl (q_not (lk0)) ?_
        refine WL_nil ?_
        refine then_n ?_
        refine WC_if_false (lk0) (by first | rfl | (simp [h1c]; done)) ?_
        refine WC_skip ?_
        refine block_n (then_n ?_)
        refine WC_reg fun ds => ?_
        refine WL_q rfl (q_move (lk8 rfl <| lk4 rfl <| lk1 rfl <| lk_in rfl hs7)) ?_
        refine WL_q rfl (q_add (lk0) lk_const rfl (by omega) (by omega)) ?_
        refine WL_q rfl (q_assign (lk0)) ?_
        refine WL_nil ?_
        refine then_n ⟨_, m - 1, Off.eq (ou16 rfl <| off_over), by omega, ?_⟩
        refine ⟨k + 1, by omega, (lk0), rfl, fun j hjk => ?_⟩
        rcases Nat.lt_succ_iff_lt_or_eq.1 hjk with hjk | rfl
        · exact hno j hjk
        · rw [seatErr_at hlt]; simp [h1c]
       ·
        replace h1c : inB 0 100 r.seats[k].light = false := by simpa using h1c
        refine WC_skip ?_
        refine then_n ?_
        refine WC_seq ?_
        refine WC_block ?_
        refine WC_seq ?_
        refine WC_reg fun ds => ?_
        refine WL_q rfl (q_fieldAddrB fd_27_2 (lk4 rfl <| lk1 rfl <| lk_off rfl <| lk16 rfl <| lk8 rfl <| lk4 rfl <| lk0)) ?_
        refine WL_q rfl (q_load1 one_24 (lk0) (Cell.own 0 rfl rfl)) ?_
        refine WL_q rfl (q_move (lk4 rfl <| lk2 rfl <| lk1 rfl <| lk_in rfl hs7)) ?_
        refine WL_q rfl (q_index  sl_24 (lk1 rfl <| lk0) hr.seats.plain (lk0) rfl (by omega)) ?_
        refine WL_q rfl (q_fieldAddr fd_66_0 (lk0)) ?_
        refine WL_q rfl (q_load1 one_3 (lk0) (hr.seats.cell (by omega) rfl)) ?_
        refine WL_c rfl (q_call bd_56 lk_func (.cons (lk0) (.cons lk_const (.cons lk_const .nil))) (in10_ok _ _ _) (fun _ _ h => h)) ?_
        refine WL_q rfl (q_not (lk0)) ?_
        refine WL_nil ?_
        refine then_n ?_
        refine WC_if_true (lk0) (by first | rfl | (simp [h1c]; done)) ?_
        refine WC_seq ?_
        refine WC_reg fun ds => ?_
        refine WL_q rfl (q_move (lk8 rfl <| lk4 rfl <| lk1 rfl <| lk_in rfl hs7)) ?_
        refine WL_q rfl (q_assign lk_const) ?_
        refine WL_q rfl (q_assign (lk1 rfl <| lk0)) ?_
        refine WL_q rfl (q_assign lk_const) ?_
        refine WL_nil ?_
        refine then_n ?_
        refine WC_ret ?_
        refine block_r (then_r (then_r (block_r (then_r ?_))))
        refine post_ret rfl (.tmp (lk2 rfl <| lk0) (.tmp (lk1 rfl <| lk0) (.tmp (lk0) .nil))) ?_
        show _ = _
        exact (checkV3 hB hR (checkSeats_bad h3 hlt hno (by rw [seatErr_at hlt]; simp [h1c]) (by decide))).symm
      ·
       refine WC_seq ?_
       refine WC_seq ?_
       refine WC_reg fun ds => ?_
       refine WL_q rfl (q_move (lk_in rfl hs7)) ?_
       refine WL_q rfl (q_fieldAddrB fd_27_2 (lk1 rfl <| lk_off rfl <| lk16 rfl <| lk8 rfl <| lk4 rfl <| lk0)) ?_
       refine WL_q rfl (q_load1 one_24 (lk0) (Cell.own 0 rfl rfl)) ?_
       refine WL_q rfl (q_lenP sl_24 (lk0) hr.seats.plain) ?_
       refine WL_q rfl (q_lss (lk2 rfl <| lk1 rfl <| lk0) (lk0)) ?_
       refine WL_nil ?_
       refine then_n ?_
       refine WC_if_false (lk0) (by first | rfl | exact decide_eq_false (by omega)) ?_
       have hS := checkSeats_ok h3 fun j hj => hno j (by omega)
       by_cases h4 : 8 < r.reqs.length
       ·
        refine WC_exit ?_
        refine then_x (then_x (exit_here ?_))
        refine then_n ?_
        refine WC_seq ?_
        refine WC_seq ?_
        refine WC_reg fun ds => ?_
        refine WL_q rfl (q_fieldAddrB fd_27_3 (lk4 rfl <| lk1 rfl <| lk_off rfl <| lk16 rfl <| lk8 rfl <| lk4 rfl <| lk0)) ?_
        refine WL_q rfl (q_load1 one_25 (lk0) (Cell.own 0 rfl rfl)) ?_
        refine WL_q rfl (q_lenP sl_25 (lk0) hr.reqs.plain) ?_
        refine WL_q rfl (q_gtr (lk0) lk_const) ?_
        refine WL_nil ?_
        refine then_n ?_
        refine WC_if_true (lk0) (by first | rfl | exact decide_eq_true (by omega)) ?_
        refine WC_seq ?_
        refine WC_reg fun ds => ?_
        refine WL_q rfl (q_assign lk_const) ?_
        refine WL_q rfl (q_assign lk_const) ?_
        refine WL_q rfl (q_assign lk_const) ?_
        refine WL_nil ?_
        refine then_n ?_
        refine WC_ret ?_
        refine then_r ?_
        refine post_ret rfl (.tmp (lk2 rfl <| lk0) (.tmp (lk1 rfl <| lk0) (.tmp (lk0) .nil))) ?_
        show _ = _
        exact (checkV4 hB hR hS (checkReqs_long h4)).symm
       ·
        refine WC_exit ?_
        refine then_x (then_x (exit_here ?_))
        refine then_n ?_
        refine WC_seq ?_
        refine WC_seq ?_
        refine WC_reg fun ds => ?_
        refine WL_q rfl (q_fieldAddrB fd_27_3 (lk4 rfl <| lk1 rfl <| lk_off rfl <| lk16 rfl <| lk8 rfl <| lk4 rfl <| lk0)) ?_
        refine WL_q rfl (q_load1 one_25 (lk0) (Cell.own 0 rfl rfl)) ?_
        refine WL_q rfl (q_lenP sl_25 (lk0) hr.reqs.plain) ?_
        refine WL_q rfl (q_gtr (lk0) lk_const) ?_
        refine WL_nil ?_
        refine then_n ?_
        refine WC_if_false (lk0) (by first | rfl | exact decide_eq_false (by omega)) ?_
        refine WC_skip ?_
        refine then_n ?_
        refine WC_seq ?_
        refine WC_seq ?_
        refine WC_reg fun ds => ?_
        refine WL_q rfl (q_assign lk_const) ?_
        refine WL_nil ?_
        refine then_n ?_
        refine WC_block ?_
        refine WC_loopN [2, 3, 4, 8, 9, 54, 55, 56, 57, 58, 59, 60, 61, 62, 63, 64, 65, 66, 67, 68, 69, 70, 71, 72, 73, 74, 75, 76, 77, 78, 79, 80, 81, 82, 83, 84, 85, 86, 87, 88, 89, 90, 91, 92, 93, 94, 95] (fun m e σ => ∃ k : Nat, m + k = r.reqs.length ∧ e 8 = .int .i64 k ∧ σ = ⟨F, [(b1, bx 27 [vb, vr, vs, vq])]⟩ ∧ ∀ j, j < k → reqErr r j = 0) (r.reqs.length) ?_ ?_
        · exact ⟨0, by omega, (lk0), rfl, fun j h => absurd h (by omega)⟩
        ·
         rintro m e _ ⟨k, hm, hs8, rfl, hno⟩
         by_cases hlt : k < r.reqs.length
         ·
          have hL1 := hr.readers.plain.lt
          have hL2 := hr.books.plain.lt
          refine WC_seq ?_
          refine WC_seq ?_
          refine WC_reg fun ds => ?_
          refine WL_q rfl (q_move (lk_in rfl hs8)) ?_
          refine WL_q rfl (q_fieldAddrB fd_27_3 (lk1 rfl <| lk_off rfl <| lk8 rfl <| lk2 rfl <| lk_off rfl <| lk16 rfl <| lk8 rfl <| lk4 rfl <| lk0)) ?_
          refine WL_q rfl (q_load1 one_25 (lk0) (Cell.own 0 rfl rfl)) ?_
          refine WL_q rfl (q_lenP sl_25 (lk0) hr.reqs.plain) ?_
          refine WL_q rfl (q_lss (lk2 rfl <| lk1 rfl <| lk0) (lk0)) ?_
          refine WL_nil ?_
          refine then_n ?_
          refine WC_if_true (lk0) (by first | rfl | exact decide_eq_true (by omega)) ?_
          by_cases h1 : inB 0 (r.readers.length - 1) r.reqs[k].reader = true
          ·
           refine WC_skip ?_
           refine then_n ?_
           refine WC_seq ?_
           refine WC_block ?_
           refine WC_seq ?_
           refine WC_reg fun ds => ?_
           refine WL_q rfl (q_fieldAddrB fd_27_3 (lk4 rfl <| lk1 rfl <| lk_off rfl <| lk8 rfl <| lk2 rfl <| lk_off rfl <| lk16 rfl <| lk8 rfl <| lk4 rfl <| lk0)) ?_
           refine WL_q rfl (q_load1 one_25 (lk0) (Cell.own 0 rfl rfl)) ?_
           refine WL_q rfl (q_move (lk4 rfl <| lk2 rfl <| lk1 rfl <| lk_in rfl hs8)) ?_
           refine WL_q rfl (q_index  sl_25 (lk1 rfl <| lk0) hr.reqs.plain (lk0) rfl (by omega)) ?_
           refine WL_q rfl (q_loadN agg_58 (lk0) rfl rfl (hr.reqs.whole (by omega))) ?_
           refine WL_x rfl (x_alloc zr_58 rfl fun b4 hb4 nb4 => ?_)
           refine WL_x0 (x_storeA sz_58 (lk0) (lk1 rfl <| lk0) (i := 0) rfl rfl rfl rfl Req.enc_one (.here) ?_)
           refine WL_nil ?_
           refine then_n ?_
           refine WC_seq ?_
           refine WC_seq ?_
           refine WC_reg fun ds => ?_
           refine WL_q rfl (q_fieldAddrB fd_58_0 (lk0)) ?_
           refine WL_q rfl (q_load1 one_3 (lk0) (Cell.own 0 rfl rfl)) ?_
           refine WL_q rfl (q_fieldAddrB fd_27_1 (lk8 rfl <| lk4 rfl <| lk1 rfl <| lk_off rfl <| lk8 rfl <| lk2 rfl <| lk_off rfl <| lk16 rfl <| lk8 rfl <| lk4 rfl <| lk0)) ?_
           refine WL_q rfl (q_load1 one_23 (lk0) (Cell.own 1 rfl rfl)) ?_
           refine WL_q rfl (q_lenP sl_23 (lk0) hr.readers.plain) ?_
           refine WL_q rfl (q_sub (lk0) lk_const rfl (by omega) (by omega)) ?_
           refine WL_c rfl (q_call bd_56 lk_func (.cons (lk4 rfl <| lk0) (.cons lk_const (.cons (lk0) .nil))) (in10_ok _ _ _) (fun _ _ h => h)) ?_
           refine WL_q rfl (q_not (lk0)) ?_
           refine WL_q rfl (q_move (lk0)) ?_
           refine WL_want rfl rfl (lk0) (by first | rfl | (simp [h1]; done)) ?_
           refine WL_q rfl (q_fieldAddrB fd_58_1 (lk8 rfl <| lk1 rfl <| lk0)) ?_
           refine WL_want rfl rfl (lk1 rfl <| lk0) (by first | rfl | (simp [h1]; done)) ?_
           refine WL_q rfl (q_load1 one_3 (lk0) (Cell.own 0 rfl rfl)) ?_
           refine WL_want rfl rfl (lk2 rfl <| lk0) (by first | rfl | (simp [h1]; done)) ?_
           refine WL_q rfl (q_fieldAddrB fd_27_0 (lk16 rfl <| lk4 rfl <| lk2 rfl <| lk_off rfl <| lk8 rfl <| lk2 rfl <| lk_off rfl <| lk16 rfl <| lk8 rfl <| lk4 rfl <| lk0)) ?_
           refine WL_want rfl rfl (lk2 rfl <| lk1 rfl <| lk0) (by first | rfl | (simp [h1]; done)) ?_
           refine WL_q rfl (q_load1 one_22 (lk0) (Cell.own 1 rfl rfl)) ?_
           refine WL_want rfl rfl (lk4 rfl <| lk0) (by first | rfl | (simp [h1]; done)) ?_
           refine WL_q rfl (q_lenP sl_22 (lk0) hr.books.plain) ?_
           refine WL_want rfl rfl (lk4 rfl <| lk1 rfl <| lk0) (by first | rfl | (simp [h1]; done)) ?_
           refine WL_q rfl (q_sub (lk0) lk_const rfl (by omega) (by omega)) ?_
           refine WL_want rfl rfl (lk4 rfl <| lk2 rfl <| lk0) (by first | rfl | (simp [h1]; done)) ?_
           refine WL_c rfl (q_call bd_56 lk_func (.cons (lk4 rfl <| lk0) (.cons lk_const (.cons (lk0) .nil))) (in10_ok _ _ _) (fun _ _ h => h)) ?_
           refine WL_want rfl rfl (lk4 rfl <| lk2 rfl <| lk1 rfl <| lk0) (by first | rfl | (simp [h1]; done)) ?_
           refine WL_q rfl (q_not (lk0)) ?_
           refine WL_q rfl (q_pick_false (lk8 rfl <| lk0) (by first | rfl | (simp [h1]; done)) (lk0)) ?_
           refine WL_nil ?_
           refine then_n ?_
           by_cases h2 : inB 0 (r.books.length - 1) r.reqs[k].book = true
           ·
            refine WC_if_false (lk0) (by first | rfl | (simp [h2]; done)) ?_
            by_cases h3 : inB 1 12 r.reqs[k].hours = true
            ·
             refine WC_skip ?_
             refine then_n ?_
             refine WC_seq ?_
             refine WC_reg fun ds => ?_
             refine WL_q rfl (q_fieldAddrB fd_58_2 (lk16 rfl <| lk2 rfl <| lk0)) ?_
             refine WL_q rfl (q_load1 one_3 (lk0) (Cell.own 0 rfl rfl)) ?_
             refine WL_c rfl (q_call bd_56 lk_func (.cons (lk0) (.cons lk_const (.cons lk_const .nil))) (in10_ok _ _ _) (fun _ _ h => h)) ?_
             refine WL_q rfl (q_not (lk0)) ?_
             refine WL_q rfl (q_move (lk0)) ?_
             refine WL_want rfl rfl (lk0) (by first | rfl | (simp [h3]; done)) ?_
             refine WL_q rfl (q_fieldAddrB fd_58_3 (lk16 rfl <| lk4 rfl <| lk2 rfl <| lk1 rfl <| lk0)) ?_
             refine WL_want rfl rfl (lk1 rfl <| lk0) (by first | rfl | (simp [h3]; done)) ?_
             refine WL_q rfl (q_load1 one_3 (lk0) (Cell.own 0 rfl rfl)) ?_
             refine WL_want rfl rfl (lk2 rfl <| lk0) (by first | rfl | (simp [h3]; done)) ?_
             refine WL_c rfl (q_call bd_56 lk_func (.cons (lk0) (.cons lk_const (.cons lk_const .nil))) (in10_ok _ _ _) (fun _ _ h => h)) ?_
             refine WL_want rfl rfl (lk2 rfl <| lk1 rfl <| lk0) (by first | rfl | (simp [h3]; done)) ?_
             refine WL_q rfl (q_not (lk0)) ?_
             refine WL_q rfl (q_pick_false (lk4 rfl <| lk0) (by first | rfl | (simp [h3]; done)) (lk0)) ?_
             refine WL_nil ?_
             refine then_n ?_
             by_cases h5 : inB 0 100 r.reqs[k].worth = true
             ·
              refine WC_if_false (lk0) (by first | rfl | (simp [h5]; done)) ?_
              refine WC_skip ?_
              refine block_n (then_n ?_)
              refine WC_imp (fun _ _ h => h.drop (.cons _ <| .cons_cons _ <| .refl _)) ?_
              refine WC_reg fun ds => ?_
              refine WL_q rfl (q_move (lk32 rfl <| lk4 rfl <| lk2 rfl <| lk1 rfl <| lk_in rfl hs8)) ?_
              refine WL_q rfl (q_add (lk0) lk_const rfl (by omega) (by omega)) ?_
              refine WL_q rfl (q_assign (lk0)) ?_
              refine WL_nil ?_
              refine then_n ⟨_, m - 1, Off.eq (ou32 rfl <| ou8 rfl <| ou2 rfl <| off_over), by omega, ?_⟩
              refine ⟨k + 1, by omega, (lk0), rfl, fun j hjk => ?_⟩
              rcases Nat.lt_succ_iff_lt_or_eq.1 hjk with hjk | rfl
              · exact hno j hjk
              · rw [reqErr_at hlt]; simp [h1, h2, h3, h5]
             ·
              replace h5 : inB 0 100 r.reqs[k].worth = false := by simpa using h5
              refine WC_if_true (lk0) (by first | rfl | (simp [h5]; done)) ?_
              refine WC_seq ?_
              refine WC_reg fun ds => ?_
              refine WL_q rfl (q_move (lk32 rfl <| lk4 rfl <| lk2 rfl <| lk1 rfl <| lk_in rfl hs8)) ?_
              refine WL_q rfl (q_assign lk_const) ?_
              refine WL_q rfl (q_assign (lk1 rfl <| lk0)) ?_
              refine WL_q rfl (q_assign lk_const) ?_
              refine WL_nil ?_
              refine then_n ?_
              refine WC_ret ?_
              refine block_r (then_r (then_r (block_r (then_r ?_))))
              refine post_ret rfl (.tmp (lk2 rfl <| lk0) (.tmp (lk1 rfl <| lk0) (.tmp (lk0) .nil))) ?_
              show _ = _
              exact (checkV4 hB hR hS (checkReqs_bad h4 hlt hno (by rw [reqErr_at hlt]; simp [h1, h2, h3, h5]) (by decide))).symm
            ·
             replace h3 : inB 1 12 r.reqs[k].hours = false := by simpa using h3
             refine WC_skip ?_
             refine then_n ?_
             refine WC_seq ?_
             refine WC_reg fun ds => ?_
             refine WL_q rfl (q_fieldAddrB fd_58_2 (lk16 rfl <| lk2 rfl <| lk0)) ?_
             refine WL_q rfl (q_load1 one_3 (lk0) (Cell.own 0 rfl rfl)) ?_
             refine WL_c rfl (q_call bd_56 lk_func (.cons (lk0) (.cons lk_const (.cons lk_const .nil))) (in10_ok _ _ _) (fun _ _ h => h)) ?_
             refine WL_q rfl (q_not (lk0)) ?_
             refine WL_q rfl (q_move (lk0)) ?_
             refine WL_pass rfl rfl (lk0) (.inl (congrArg Value.bool (by first | rfl | (simp [h3]; done)))) rfl ?_
             refine WL_pass rfl rfl (lk1 rfl <| lk0) (.inl (congrArg Value.bool (by first | rfl | (simp [h3]; done)))) rfl ?_
             refine WL_pass rfl rfl (lk2 rfl <| lk0) (.inl (congrArg Value.bool (by first | rfl | (simp [h3]; done)))) rfl ?_
             refine WL_pass rfl rfl (lk2 rfl <| lk1 rfl <| lk0) (.inl (congrArg Value.bool (by first | rfl | (simp [h3]; done)))) rfl ?_
             refine WL_q rfl (q_pick_true (lk4 rfl <| lk0) (by first | rfl | (simp [h3]; done)) lk_const) ?_
             refine WL_nil ?_
             refine then_n ?_
             refine WC_if_true (lk0) (by first | rfl | (simp [h3]; done)) ?_
             refine WC_seq ?_
             refine WC_reg fun ds => ?_
             refine WL_q rfl (q_move (lk32 rfl <| lk4 rfl <| lk2 rfl <| lk1 rfl <| lk_in rfl hs8)) ?_
             refine WL_q rfl (q_assign lk_const) ?_
             refine WL_q rfl (q_assign (lk1 rfl <| lk0)) ?_
             refine WL_q rfl (q_assign lk_const) ?_
             refine WL_nil ?_
             refine then_n ?_
             refine WC_ret ?_
             refine block_r (then_r (then_r (block_r (then_r ?_))))
             refine post_ret rfl (.tmp (lk2 rfl <| lk0) (.tmp (lk1 rfl <| lk0) (.tmp (lk0) .nil))) ?_
             show _ = _
             exact (checkV4 hB hR hS (checkReqs_bad h4 hlt hno (by rw [reqErr_at hlt]; simp [h1, h2, h3]) (by decide))).symm
           ·
            replace h2 : inB 0 (r.books.length - 1) r.reqs[k].book = false := by simpa using h2
            refine WC_if_true (lk0) (by first | rfl | (simp [h2]; done)) ?_
            refine WC_seq ?_
            refine WC_reg fun ds => ?_
            refine WL_q rfl (q_move (lk16 rfl <| lk8 rfl <| lk4 rfl <| lk1 rfl <| lk_in rfl hs8)) ?_
            refine WL_q rfl (q_assign lk_const) ?_
            refine WL_q rfl (q_assign (lk1 rfl <| lk0)) ?_
            refine WL_q rfl (q_assign lk_const) ?_
            refine WL_nil ?_
            refine then_n ?_
            refine WC_ret ?_
            refine then_r (block_r (then_r (then_r (block_r (then_r ?_)))))
            refine post_ret rfl (.tmp (lk2 rfl <| lk0) (.tmp (lk1 rfl <| lk0) (.tmp (lk0) .nil))) ?_
            show _ = _
            exact (checkV4 hB hR hS (checkReqs_bad h4 hlt hno (by rw [reqErr_at hlt]; simp [h1, h2]) (by decide))).symm
          ·
           replace h1 : inB 0 (r.readers.length - 1) r.reqs[k].reader = false := by simpa using h1
           refine WC_skip ?_
           refine then_n ?_
           refine WC_seq ?_
           refine WC_block ?_
           refine WC_seq ?_
           refine WC_reg fun ds => ?_
           refine WL_q rfl (q_fieldAddrB fd_27_3 (lk4 rfl <| lk1 rfl <| lk_off rfl <| lk8 rfl <| lk2 rfl <| lk_off rfl <| lk16 rfl <| lk8 rfl <| lk4 rfl <| lk0)) ?_
           refine WL_q rfl (q_load1 one_25 (lk0) (Cell.own 0 rfl rfl)) ?_
           refine WL_q rfl (q_move (lk4 rfl <| lk2 rfl <| lk1 rfl <| lk_in rfl hs8)) ?_
           refine WL_q rfl (q_index  sl_25 (lk1 rfl <| lk0) hr.reqs.plain (lk0) rfl (by omega)) ?_
           refine WL_q rfl (q_loadN agg_58 (lk0) rfl rfl (hr.reqs.whole (by omega))) ?_
           refine WL_x rfl (x_alloc zr_58 rfl fun b5 hb5 nb5 => ?_)
           refine WL_x0 (x_storeA sz_58 (lk0) (lk1 rfl <| lk0) (i := 0) rfl rfl rfl rfl Req.enc_one (.here) ?_)
           refine WL_nil ?_
           refine then_n ?_
           refine WC_seq ?_
           refine WC_seq ?_
           refine WC_reg fun ds => ?_
           refine WL_q rfl (q_fieldAddrB fd_58_0 (lk0)) ?_
           refine WL_q rfl (q_load1 one_3 (lk0) (Cell.own 0 rfl rfl)) ?_
           refine WL_q rfl (q_fieldAddrB fd_27_1 (lk8 rfl <| lk4 rfl <| lk1 rfl <| lk_off rfl <| lk8 rfl <| lk2 rfl <| lk_off rfl <| lk16 rfl <| lk8 rfl <| lk4 rfl <| lk0)) ?_
           refine WL_q rfl (q_load1 one_23 (lk0) (Cell.own 1 rfl rfl)) ?_
           refine WL_q rfl (q_lenP sl_23 (lk0) hr.readers.plain) ?_
           refine WL_q rfl (q_sub (lk0) lk_const rfl (by omega) (by omega)) ?_
           refine WL_c rfl (q_call bd_56 lk_func (.cons (lk4 rfl <| lk0) (.cons lk_const (.cons (lk0) .nil))) (in10_ok _ _ _) (fun _ _ h => h)) ?_
           refine WL_q rfl (q_not (lk0)) ?_
           refine WL_q rfl (q_move (lk0)) ?_
           refine WL_pass rfl rfl (lk0) (.inl (congrArg Value.bool (by first | rfl | (simp [h1]; done)))) rfl ?_
           refine WL_pass rfl rfl (lk1 rfl <| lk0) (.inl (congrArg Value.bool (by first | rfl | (simp [h1]; done)))) rfl ?_
           refine WL_pass rfl rfl (lk2 rfl <| lk0) (.inl (congrArg Value.bool (by first | rfl | (simp [h1]; done)))) rfl ?_
           refine WL_pass rfl rfl (lk2 rfl <| lk1 rfl <| lk0) (.inl (congrArg Value.bool (by first | rfl | (simp [h1]; done)))) rfl ?_
           refine WL_pass rfl rfl (lk4 rfl <| lk0) (.inl (congrArg Value.bool (by first | rfl | (simp [h1]; done)))) rfl ?_
           refine WL_pass rfl rfl (lk4 rfl <| lk1 rfl <| lk0) (.inl (congrArg Value.bool (by first | rfl | (simp [h1]; done)))) rfl ?_
           refine WL_pass rfl rfl (lk4 rfl <| lk2 rfl <| lk0) (.inl (congrArg Value.bool (by first | rfl | (simp [h1]; done)))) rfl ?_
           refine WL_pass rfl rfl (lk4 rfl <| lk2 rfl <| lk1 rfl <| lk0) (.inl (congrArg Value.bool (by first | rfl | (simp [h1]; done)))) rfl ?_
           refine WL_q rfl (q_pick_true (lk8 rfl <| lk0) (by first | rfl | (simp [h1]; done)) lk_const) ?_
           refine WL_nil ?_
           refine then_n ?_
           refine WC_if_true (lk0) (by first | rfl | (simp [h1]; done)) ?_
           refine WC_seq ?_
           refine WC_reg fun ds => ?_
           refine WL_q rfl (q_move (lk16 rfl <| lk8 rfl <| lk4 rfl <| lk1 rfl <| lk_in rfl hs8)) ?_
           refine WL_q rfl (q_assign lk_const) ?_
           refine WL_q rfl (q_assign (lk1 rfl <| lk0)) ?_
           refine WL_q rfl (q_assign lk_const) ?_
           refine WL_nil ?_
           refine then_n ?_
           refine WC_ret ?_
           refine then_r (block_r (then_r (then_r (block_r (then_r ?_)))))
           refine post_ret rfl (.tmp (lk2 rfl <| lk0) (.tmp (lk1 rfl <| lk0) (.tmp (lk0) .nil))) ?_
           show _ = _
           exact (checkV4 hB hR hS (checkReqs_bad h4 hlt hno (by rw [reqErr_at hlt]; simp [h1]) (by decide))).symm
         ·
          refine WC_seq ?_
          refine WC_seq ?_
          refine WC_reg fun ds => ?_
          refine WL_q rfl (q_move (lk_in rfl hs8)) ?_
          refine WL_q rfl (q_fieldAddrB fd_27_3 (lk1 rfl <| lk_off rfl <| lk8 rfl <| lk2 rfl <| lk_off rfl <| lk16 rfl <| lk8 rfl <| lk4 rfl <| lk0)) ?_
          refine WL_q rfl (q_load1 one_25 (lk0) (Cell.own 0 rfl rfl)) ?_
          refine WL_q rfl (q_lenP sl_25 (lk0) hr.reqs.plain) ?_
          refine WL_q rfl (q_lss (lk2 rfl <| lk1 rfl <| lk0) (lk0)) ?_
          refine WL_nil ?_
          refine then_n ?_
          refine WC_if_false (lk0) (by first | rfl | exact decide_eq_false (by omega)) ?_
          refine WC_exit ?_
          refine then_x (then_x (exit_here ?_))
          refine then_n ?_
          refine WC_seq ?_
          refine WC_reg fun ds => ?_
          refine WL_q rfl (q_assign lk_const) ?_
          refine WL_q rfl (q_assign lk_const) ?_
          refine WL_q rfl (q_assign lk_const) ?_
          refine WL_nil ?_
          refine then_n ?_
          refine WC_ret ?_
          refine post_ret rfl (.tmp (lk2 rfl <| lk0) (.tmp (lk1 rfl <| lk0) (.tmp (lk0) .nil))) ?_
          show _ = _
          exact (checkV0 hB hR hS (checkReqs_ok h4 fun j hj => hno j (by omega))).symm
   ·
    refine WC_skip ?_
    refine then_n ?_
    refine WC_seq ?_
    refine WC_reg fun ds => ?_
    refine WL_q rfl (q_fieldAddrB fd_27_1 (lk8 rfl <| lk4 rfl <| lk1 rfl <| lk0)) ?_
    refine WL_q rfl (q_load1 one_23 (lk0) (Cell.own 0 rfl rfl)) ?_
    refine WL_c rfl (q_call bd_55 lk_func (.cons (lk0) .nil) (refReaders_ok hr.readers) (fun _ _ h => h.trans (by rw [hR]))) ?_
    refine WL_q rfl (q_move (lk0)) ?_
    refine WL_q rfl (q_extract (lk0) rfl) ?_
    refine WL_q rfl (q_extract (lk1 rfl <| lk0) rfl) ?_
    refine WL_q rfl (q_assign (lk1 rfl <| lk0)) ?_
    refine WL_q rfl (q_assign (lk1 rfl <| lk0)) ?_
    refine WL_nil ?_
    refine then_n ?_
    refine WC_seq ?_
    refine WC_seq ?_
    refine WC_reg fun ds => ?_
    refine WL_q rfl (q_move (lk0)) ?_
    refine WL_q rfl (q_neq (lk0) lk_const) ?_
    refine WL_nil ?_
    refine then_n ?_
    refine WC_if_true (lk0) (by simpa using checkE_rdrs hR) ?_
    refine WC_seq ?_
    refine WC_reg fun ds => ?_
    refine WL_q rfl (q_move (lk2 rfl <| lk1 rfl <| lk0)) ?_
    refine WL_q rfl (q_move (lk2 rfl <| lk1 rfl <| lk0)) ?_
    refine WL_q rfl (q_assign lk_const) ?_
    refine WL_q rfl (q_assign (lk2 rfl <| lk0)) ?_
    refine WL_q rfl (q_assign (lk2 rfl <| lk0)) ?_
    refine WL_nil ?_
    refine then_n ?_
    refine WC_ret ?_
    refine then_r ?_
    refine post_ret rfl (.tmp (lk2 rfl <| lk0) (.tmp (lk1 rfl <| lk0) (.tmp (lk0) .nil))) ?_
    show _ = _
    exact (checkV2 hB hR).symm
  ·
   refine WC_seq ?_
   refine WC_reg fun ds => ?_
   refine WL_x rfl (x_box (lk_entry rfl) rfl fun b6 hb6 nb6 => ?_)
   refine WL_q rfl (q_assign lk_const) ?_
   refine WL_q rfl (q_assign lk_const) ?_
   refine WL_q rfl (q_assign lk_const) ?_
   refine WL_nil ?_
   refine then_n ?_
   refine WC_seq ?_
   refine WC_reg fun ds => ?_
   refine WL_q rfl (q_fieldAddrB fd_27_0 (lk2 rfl <| lk1 rfl <| lk0)) ?_
   refine WL_q rfl (q_load1 one_22 (lk0) (Cell.own 0 rfl rfl)) ?_
   refine WL_c rfl (q_call bd_54 lk_func (.cons (lk0) .nil) (refBooks_ok hr.books) (fun _ _ h => h.trans (by rw [hB]))) ?_
   refine WL_q rfl (q_move (lk0)) ?_
   refine WL_q rfl (q_extract (lk0) rfl) ?_
   refine WL_q rfl (q_extract (lk1 rfl <| lk0) rfl) ?_
   refine WL_q rfl (q_assign (lk1 rfl <| lk0)) ?_
   refine WL_q rfl (q_assign (lk1 rfl <| lk0)) ?_
   refine WL_nil ?_
   refine then_n ?_
   refine WC_seq ?_
   refine WC_seq ?_
   refine WC_reg fun ds => ?_
   refine WL_q rfl (q_move (lk0)) ?_
   refine WL_q rfl (q_neq (lk0) lk_const) ?_
   refine WL_nil ?_
   refine then_n ?_
   refine WC_if_true (lk0) (by simpa using checkE_books hB) ?_
   refine WC_seq ?_
   refine WC_reg fun ds => ?_
   refine WL_q rfl (q_move (lk2 rfl <| lk1 rfl <| lk0)) ?_
   refine WL_q rfl (q_move (lk2 rfl <| lk1 rfl <| lk0)) ?_
   refine WL_q rfl (q_assign lk_const) ?_
   refine WL_q rfl (q_assign (lk2 rfl <| lk0)) ?_
   refine WL_q rfl (q_assign (lk2 rfl <| lk0)) ?_
   refine WL_nil ?_
   refine then_n ?_
   refine WC_ret ?_
   refine then_r ?_
   refine post_ret rfl (.tmp (lk2 rfl <| lk0) (.tmp (lk1 rfl <| lk0) (.tmp (lk0) .nil))) ?_
   show _ = _
   exact (checkV1 hB).symm
end Go.Proofs.Ytbcjfkcpfjccdaa
namespace Go.Proofs.Ytbcjfkcpfjccdaa
open Go.RowKit
theorem agg_27 : AggT Try.prog 27 4 := aggT_of (by kernel_rfl)
theorem bd_16 : Body Try.prog 16 := body_of (by kernel_rfl)
theorem fd_66_1 : FieldT Try.prog 66 1 1 := fieldT_of (by kernel_rfl)
theorem one_4 : OneT Try.prog 4 := oneT_of (by kernel_rfl)
end Go.Proofs.Ytbcjfkcpfjccdaa
namespace Go.Proofs.Ytbcjfkcpfjccdaa
open Go.RowKit
theorem agg_141 : AggT Try.prog 141 2 := aggT_of (by kernel_rfl)
theorem ar_110 : ArrT Try.prog 110 6 3 1 := arrT_of (by kernel_rfl)
theorem ar_111 : ArrT Try.prog 111 8 110 6 := arrT_of (by kernel_rfl)
theorem bd_96 : Body Try.prog 96 := body_of (by kernel_rfl)
theorem bd_97 : Body Try.prog 97 := body_of (by kernel_rfl)
theorem bd_98 : Body Try.prog 98 := body_of (by kernel_rfl)
theorem bd_99 : Body Try.prog 99 := body_of (by kernel_rfl)
theorem fd_114_1 : FieldT Try.prog 114 1 4 := fieldT_of (by kernel_rfl)
theorem fd_114_2 : FieldT Try.prog 114 2 52 := fieldT_of (by kernel_rfl)
theorem fd_141_0 : FieldT Try.prog 141 0 0 := fieldT_of (by kernel_rfl)
theorem fd_141_1 : FieldT Try.prog 141 1 1 := fieldT_of (by kernel_rfl)
theorem one_112 : OneT Try.prog 112 := oneT_of (by kernel_rfl)
theorem one_139 : OneT Try.prog 139 := oneT_of (by kernel_rfl)
theorem one_150 : OneT Try.prog 150 := oneT_of (by kernel_rfl)
theorem one_98 : OneT Try.prog 98 := oneT_of (by kernel_rfl)
theorem pt_60_0 : PartT Try.prog 60 0 0 3 := partT_of (by kernel_rfl)
theorem pt_62_1 : PartT Try.prog 62 1 1 3 := partT_of (by kernel_rfl)
theorem pt_62_2 : PartT Try.prog 62 2 2 60 := partT_of (by kernel_rfl)
theorem pt_62_3 : PartT Try.prog 62 3 4 4 := partT_of (by kernel_rfl)
theorem sl_112 : SliceT Try.prog 112 141 2 := sliceT_of (by kernel_rfl)
theorem sz_141 : SizeT Try.prog 141 2 := sizeT_of (by kernel_rfl)
theorem zr_141 : ZeroT Try.prog 141 (.agg #[.int .i64 0, .nilFunc]) := zeroT_of (by kernel_rfl)
def num : Num := ⟨114, 27, 141, 150, 98, 96, 97, 98, 99⟩
set_option maxRecDepth 100000 in
theorem look1_ok {F : Heap} {b c1 c8 c3 : Nat} {vb vr vs vq vl : Value} {r : Room} (hX : RoomX num F b c1 c8 c3 vb vr vs vq vl r) (hv : Valid r) {i : Nat} (hi : i < r.reqs.length) : Ok Try.prog 96 [.int .i64 i, .pointer (some ⟨c1, 0, none⟩)].toArray F fun v _ => v = .agg (Book.enc (r.bk (r.book i))).toArray := by
  refine Ok.intro Try.func96 rfl Try.ntmps96 rfl fun w0 => ?_
  obtain ⟨eB, lB⟩ := hv.book hi
  refine WC_seq ?_
  refine WC_reg fun ds => ?_
  refine WL_x rfl (x_alloc zr_62 rfl fun b1 hb1 nb1 => ?_)
  refine WL_nil ?_
  refine then_n ?_
  refine WC_seq ?_
  refine WC_drawS (.inl rfl) (fun _ _ h => h) (.cons_cons _ <| .refl _) [10] (by kernel_rfl) fun ds => ?_
  refine WX_take 0 rfl (by kernel_rfl) (by kernel_rfl) (by kernel_rfl) (by kernel_rfl) rfl rfl (fun _ h => h.drop (.cons_cons _ <| .refl _)) (fun _ _ _ h => h) (q_fieldAddrB fd_27_0 (lk1 rfl <| lk_entry rfl)) ?_
  refine WX_take 1 rfl (by kernel_rfl) (by kernel_rfl) (by kernel_rfl) (by kernel_rfl) rfl rfl (fun _ h => h.drop (.cons_cons _ <| .refl _)) (fun _ _ _ h => h) (q_load1 one_22 (lk0) (CellF.own hX.box rfl).cell) ?_
  refine WX_take 2 rfl (by kernel_rfl) (by kernel_rfl) (by kernel_rfl) (by kernel_rfl) rfl rfl (fun _ h => h.drop (.cons_cons _ <| .refl _)) (fun _ _ _ h => h) (q_fieldAddrB fd_27_3 (lk2 rfl <| lk1 rfl <| lk_entry rfl)) ?_
  refine WX_take 3 rfl (by kernel_rfl) (by kernel_rfl) (by kernel_rfl) (by kernel_rfl) rfl rfl (fun _ h => h.drop (.cons_cons _ <| .refl _)) (fun _ _ _ h => h) (q_load1 one_25 (lk0) (CellF.own hX.box rfl).cell) ?_
  refine WX_take 4 rfl (by kernel_rfl) (by kernel_rfl) (by kernel_rfl) (by kernel_rfl) rfl rfl (fun _ h => h.drop (.cons_cons _ <| .refl _)) (fun _ _ _ h => h) (q_move (lk4 rfl <| lk1 rfl <| lk_entry rfl)) ?_
  refine WX_take 5 rfl (by kernel_rfl) (by kernel_rfl) (by kernel_rfl) (by kernel_rfl) rfl rfl (fun _ h => h.drop (.cons_cons _ <| .refl _)) (fun _ _ _ h => h) (q_index  sl_25 (lk1 rfl <| lk0) hX.room.reqs.plain (lk0) rfl hi) ?_
  refine WX_take 6 rfl (by kernel_rfl) (by kernel_rfl) (by kernel_rfl) (by kernel_rfl) rfl rfl (fun _ h => h.drop (.cons_cons _ <| .refl _)) (fun _ _ _ h => h) (q_fieldAddr fd_58_1 (lk0)) ?_
  refine WX_take 7 rfl (by kernel_rfl) (by kernel_rfl) (by kernel_rfl) (by kernel_rfl) rfl rfl (fun _ h => h.drop (.cons_cons _ <| .refl _)) (fun _ _ _ h => h) (q_load1 one_3 (lk0) (hX.room.reqs.cell hi rfl)) ?_
  refine WX_take 8 rfl (by kernel_rfl) (by kernel_rfl) (by kernel_rfl) (by kernel_rfl) rfl rfl (fun _ h => h.drop (.cons_cons _ <| .refl _)) (fun _ _ _ h => h) (q_index  sl_22 (lk4 rfl <| lk2 rfl <| lk0) hX.room.books.plain (lk0) eB lB) ?_
  refine WX_take 9 rfl (by kernel_rfl) (by kernel_rfl) (by kernel_rfl) (by kernel_rfl) rfl rfl (fun _ h => h.drop (.cons_cons _ <| .refl _)) (fun _ _ _ h => h) (q_loadN agg_62 (lk0) rfl rfl (hX.room.books.whole lB)) ?_
  refine WX_x0 10 rfl (by kernel_rfl) (x_storeA sz_62 (lk8 rfl <| lk2 rfl <| lk0) (lk0) (i := 0) rfl rfl rfl rfl Book.enc_one .here ⟨(fun h => nomatch h), ?_⟩)
  refine WX_done (by kernel_rfl) ?_ _
  refine then_n ?_
  refine WC_ret ?_
  refine post_ret rfl (.agg agg_62 (lk8 rfl <| lk2 rfl <| lk0) rfl rfl (own_whole 0 rfl) .nil) ?_
  show _ = _
  rw [← bk_at lB]; rfl
set_option maxRecDepth 100000 in
theorem look2_ok {F : Heap} {b c1 c8 c3 : Nat} {vb vr vs vq vl : Value} {r : Room} (hX : RoomX num F b c1 c8 c3 vb vr vs vq vl r) (hv : Valid r) {i : Nat} (hi : i < r.reqs.length) {s : Nat} (hs : s < r.seats.length) : Ok Try.prog 97 [.int .i64 i, .int .i64 s, .pointer (some ⟨c8, 0, none⟩), .pointer (some ⟨c1, 0, none⟩)].toArray F fun v _ => v = .bool (decide ((r.rd (r.reader i)).permit < (r.bk (r.book i)).cls)) := by
  refine Ok.intro Try.func97 rfl Try.ntmps97 rfl fun w0 => ?_
  obtain ⟨eR, lR⟩ := hv.reader hi
  refine WC_seq ?_
  refine WC_reg fun ds => ?_
  refine WL_q rfl (q_assign lk_const) ?_
  refine WL_nil ?_
  refine then_n ?_
  refine WC_seq ?_
  refine WC_draw (.inl rfl) (fun _ _ h => h) (by kernel_rfl) (by kernel_rfl) fun ds => ?_
  refine WQ_q rfl (q_load1 one_150 (lk1 rfl <| lk_entry rfl) (CellF.own hX.bk rfl).cell) ?_
  refine WQ_q rfl (q_move (lk2 rfl <| lk_entry rfl)) ?_
  refine WQ_c rfl (q_call bd_96 (lk1 rfl <| lk0) (.cons (lk0) .nil) (look1_ok hX hv hi) (fun _ _ h => h)) ?_
  refine WQ_q rfl (q_field1 pt_62_1 one_3 (lk0) rfl) ?_
  refine WQ_q rfl (q_fieldAddrB fd_27_1 (lk4 rfl <| lk1 rfl <| lk_entry rfl)) ?_
  refine WQ_q rfl (q_load1 one_23 (lk0) (CellF.own hX.box rfl).cell) ?_
  refine WQ_q rfl (q_fieldAddrB fd_27_3 (lk4 rfl <| lk2 rfl <| lk1 rfl <| lk_entry rfl)) ?_
  refine WQ_q rfl (q_load1 one_25 (lk0) (CellF.own hX.box rfl).cell) ?_
  refine WQ_q rfl (q_move (lk8 rfl <| lk1 rfl <| lk_entry rfl)) ?_
  refine WQ_q rfl (q_index  sl_25 (lk1 rfl <| lk0) hX.room.reqs.plain (lk0) rfl hi) ?_
  refine WQ_q rfl (q_fieldAddr fd_58_0 (lk0)) ?_
  refine WQ_q rfl (q_load1 one_3 (lk0) (hX.room.reqs.cell hi rfl)) ?_
  refine WQ_q rfl (q_index  sl_23 (lk4 rfl <| lk2 rfl <| lk0) hX.room.readers.plain (lk0) eR lR) ?_
  refine WQ_q rfl (q_fieldAddr fd_64_1 (lk0)) ?_
  refine WQ_q rfl (q_load1 one_3 (lk0) (hX.room.readers.cell lR rfl)) ?_
  refine WQ_q rfl (q_gtr (lk8 rfl <| lk2 rfl <| lk1 rfl <| lk0) (lk0)) ?_
  refine WQ_q rfl (q_assign (lk0)) ?_
  refine WQ_nil ?_
  refine then_n ?_
  refine WC_ret ?_
  refine post_ret rfl (.tmp (lk0) .nil) ?_
  show _ = _
  rw [← rd_at lR]; rfl
set_option maxRecDepth 100000 in
theorem look3_ok {F : Heap} {b c1 c8 c3 : Nat} {vb vr vs vq vl : Value} {r : Room} (hX : RoomX num F b c1 c8 c3 vb vr vs vq vl r) (hv : Valid r) {i : Nat} (hi : i < r.reqs.length) {s : Nat} (hs : s < r.seats.length) : Ok Try.prog 98 [.int .i64 i, .int .i64 s, .pointer (some ⟨c8, 0, none⟩), .pointer (some ⟨c1, 0, none⟩)].toArray F fun v _ => v = .bool ((r.bk (r.book i)).large && (r.seat s).small) := by
  refine Ok.intro Try.func98 rfl Try.ntmps98 rfl fun w0 => ?_
  by_cases hl : (r.bk (r.book i)).large = true
  ·
   refine WC_seq ?_
   refine WC_reg fun ds => ?_
   refine WL_q rfl (q_assign lk_const) ?_
   refine WL_nil ?_
   refine then_n ?_
   refine WC_seq ?_
   refine WC_reg fun ds => ?_
   refine WL_q rfl (q_load1 one_150 (lk1 rfl <| lk_entry rfl) (CellF.own hX.bk rfl).cell) ?_
   refine WL_q rfl (q_move (lk2 rfl <| lk_entry rfl)) ?_
   refine WL_c rfl (q_call bd_96 (lk1 rfl <| lk0) (.cons (lk0) .nil) (look1_ok hX hv hi) (fun _ _ h => h)) ?_
   refine WL_q rfl (q_field1 pt_62_3 one_4 (lk0) rfl) ?_
   refine WL_q rfl (q_move (lk0)) ?_
   refine WL_want rfl rfl (lk0) hl ?_
   refine WL_q rfl (q_fieldAddrB fd_27_2 (lk4 rfl <| lk2 rfl <| lk_entry rfl)) ?_
   refine WL_want rfl rfl (lk1 rfl <| lk0) hl ?_
   refine WL_q rfl (q_load1 one_24 (lk0) (CellF.own hX.box rfl).cell) ?_
   refine WL_want rfl rfl (lk2 rfl <| lk0) hl ?_
   refine WL_q rfl (q_move (lk8 rfl <| lk_entry rfl)) ?_
   refine WL_want rfl rfl (lk2 rfl <| lk1 rfl <| lk0) hl ?_
   refine WL_q rfl (q_index  sl_24 (lk1 rfl <| lk0) hX.room.seats.plain (lk0) rfl hs) ?_
   refine WL_want rfl rfl (lk4 rfl <| lk0) hl ?_
   refine WL_q rfl (q_fieldAddr fd_66_1 (lk0)) ?_
   refine WL_want rfl rfl (lk4 rfl <| lk1 rfl <| lk0) hl ?_
   refine WL_q rfl (q_load1 one_4 (lk0) (hX.room.seats.cell hs rfl)) ?_
   refine WL_q rfl (q_pick_true (lk4 rfl <| lk2 rfl <| lk0) hl (lk0)) ?_
   refine WL_q rfl (q_assign (lk0)) ?_
   refine WL_nil ?_
   refine then_n ?_
   refine WC_ret ?_
   refine post_ret rfl (.tmp (lk0) .nil) ?_
   show _ = _
   rw [hl, ← seat_at hs]; rfl
  ·
   replace hl : (r.bk (r.book i)).large = false := by simpa using hl
   refine WC_seq ?_
   refine WC_reg fun ds => ?_
   refine WL_q rfl (q_assign lk_const) ?_
   refine WL_nil ?_
   refine then_n ?_
   refine WC_seq ?_
   refine WC_reg fun ds => ?_
   refine WL_q rfl (q_load1 one_150 (lk1 rfl <| lk_entry rfl) (CellF.own hX.bk rfl).cell) ?_
   refine WL_q rfl (q_move (lk2 rfl <| lk_entry rfl)) ?_
   refine WL_c rfl (q_call bd_96 (lk1 rfl <| lk0) (.cons (lk0) .nil) (look1_ok hX hv hi) (fun _ _ h => h)) ?_
   refine WL_q rfl (q_field1 pt_62_3 one_4 (lk0) rfl) ?_
   refine WL_q rfl (q_move (lk0)) ?_
   refine WL_pass rfl rfl (lk0) (.inl (congrArg Value.bool hl)) rfl ?_
   refine WL_pass rfl rfl (lk1 rfl <| lk0) (.inl (congrArg Value.bool hl)) rfl ?_
   refine WL_pass rfl rfl (lk2 rfl <| lk0) (.inl (congrArg Value.bool hl)) rfl ?_
   refine WL_pass rfl rfl (lk2 rfl <| lk1 rfl <| lk0) (.inl (congrArg Value.bool hl)) rfl ?_
   refine WL_pass rfl rfl (lk4 rfl <| lk0) (.inl (congrArg Value.bool hl)) rfl ?_
   refine WL_pass rfl rfl (lk4 rfl <| lk1 rfl <| lk0) (.inl (congrArg Value.bool hl)) rfl ?_
   refine WL_q rfl (q_pick_false (lk4 rfl <| lk2 rfl <| lk0) hl lk_const) ?_
   refine WL_q rfl (q_assign (lk0)) ?_
   refine WL_nil ?_
   refine then_n ?_
   refine WC_ret ?_
   refine post_ret rfl (.tmp (lk0) .nil) ?_
   show _ = _
   rw [hl]; rfl
set_option maxRecDepth 100000 in
theorem look4_ok {F : Heap} {b c1 c8 c3 : Nat} {vb vr vs vq vl : Value} {r : Room} (hX : RoomX num F b c1 c8 c3 vb vr vs vq vl r) (hv : Valid r) {i : Nat} (hi : i < r.reqs.length) {s : Nat} (hs : s < r.seats.length) : Ok Try.prog 99 [.int .i64 i, .int .i64 s, .pointer (some ⟨c3, 0, none⟩), .pointer (some ⟨c8, 0, none⟩)].toArray F fun v _ => v = .bool (decide ((r.bk (r.book i)).lo < light r i s)) := by
  refine Ok.intro Try.func99 rfl Try.ntmps99 rfl fun w0 => ?_
  have h8 := hv.nq
  have h6 := hv.ns
  refine WC_seq ?_
  refine WC_reg fun ds => ?_
  refine WL_q rfl (q_assign lk_const) ?_
  refine WL_nil ?_
  refine then_n ?_
  refine WC_seq ?_
  refine WC_draw (.inl rfl) (fun _ _ h => h) (by kernel_rfl) (by kernel_rfl) fun ds => ?_
  refine WQ_q rfl (q_load1 one_98 (lk1 rfl <| lk_entry rfl) (CellF.own hX.me rfl).cell) ?_
  refine WQ_q rfl (q_move (lk2 rfl <| lk_entry rfl)) ?_
  refine WQ_q rfl (q_move (lk2 rfl <| lk1 rfl <| lk_entry rfl)) ?_
  refine WQ_q rfl (q_nilCheck (lk2 rfl <| lk0)) ?_
  refine WQ_q rfl (q_fieldAddrB fd_114_1 (lk0)) ?_
  refine WQ_q rfl (q_indexArrB  ar_111 (lk0) (lk2 rfl <| lk1 rfl <| lk0) rfl (by omega)) ?_
  refine WQ_q rfl (q_indexArrB  ar_110 (lk0) (lk2 rfl <| lk1 rfl <| lk0) rfl (by omega)) ?_
  refine WQ_q rfl (q_load1 one_3 (lk0) (hX.light_cell (by omega : i < 8) (by omega : s < 6)).cell) ?_
  refine WQ_q rfl (q_load1 one_150 (lk8 rfl <| lk1 rfl <| lk_entry rfl) (CellF.own hX.bk rfl).cell) ?_
  refine WQ_q rfl (q_move (lk8 rfl <| lk2 rfl <| lk_entry rfl)) ?_
  refine WQ_c rfl (q_call bd_96 (lk1 rfl <| lk0) (.cons (lk0) .nil) (look1_ok hX hv hi) (fun _ _ h => h)) ?_
  refine WQ_q rfl (q_fieldN pt_62_2 agg_60 (lk0) rfl) ?_
  refine WQ_q rfl (q_field1 pt_60_0 one_3 (lk0) rfl) ?_
  refine WQ_q rfl (q_gtr (lk4 rfl <| lk1 rfl <| lk0) (lk0)) ?_
  refine WQ_q rfl (q_assign (lk0)) ?_
  refine WQ_nil ?_
  refine then_n ?_
  refine WC_ret ?_
  refine post_ret rfl (.tmp (lk0) .nil) ?_
  rfl
set_option maxRecDepth 100000 in
theorem why_ok {F : Heap} {b c1 c8 c3 : Nat} {vb vr vs vq vl : Value} {r : Room} (hX : RoomX num F b c1 c8 c3 vb vr vs vq vl r) (hv : Valid r) {i : Nat} (hi : i < r.reqs.length) {s : Nat} (hs : s < r.seats.length) : Ok Try.prog 58 [.pointer (some ⟨b, 0, none⟩), .int .i64 i, .int .i64 s].toArray F fun v _ => v = .int .i64 (reason r i s) := by
  refine Ok.intro Try.func58 rfl Try.ntmps58 rfl fun w0 => ?_
  have hrl := hX.rules.plain.lt
  refine WC_seq ?_
  refine WC_reg fun ds => ?_
  refine WL_q rfl (q_assign lk_const) ?_
  refine WL_nil ?_
  refine then_n ?_
  refine WC_seq ?_
  refine WC_seq ?_
  refine WC_reg fun ds => ?_
  refine WL_q rfl (q_move (lk1 rfl <| lk_entry rfl)) ?_
  refine WL_q rfl (q_nilCheck (lk0)) ?_
  refine WL_q rfl (q_fieldAddrB fd_114_2 (lk0)) ?_
  refine WL_q rfl (q_load1 one_112 (lk0) hX.rule_cell.cell) ?_
  refine WL_q rfl (q_lenP sl_112 (lk0) hX.rules.plain) ?_
  refine WL_q rfl (q_move lk_const) ?_
  refine WL_nil ?_
  refine then_n ?_
  refine WC_block ?_
  refine WC_loopN [6, 8, 14, 15, 16, 17, 18, 19, 20, 21, 22, 23, 24, 25] (fun m e σ => ∃ k : Nat, m + k = 3 ∧ e 14 = .int .i64 k ∧ σ = ⟨F, []⟩ ∧ (0 < k → ¬ (r.rd (r.reader i)).permit < (r.bk (r.book i)).cls) ∧ (1 < k → ¬ ((r.bk (r.book i)).large = true ∧ (r.seat s).small = true)) ∧ (2 < k → ¬ (r.bk (r.book i)).lo < light r i s)) (3) ?_ ?_
  · exact ⟨0, by omega, (lk0), rfl, fun h => absurd h (by omega), fun h => absurd h (by omega), fun h => absurd h (by omega)⟩
  ·
   rintro m e _ ⟨k, hm, hs14, rfl, hA, hB, hC⟩
   rcases (show k = 0 ∨ k = 1 ∨ k = 2 ∨ k = 3 by omega) with hk | hk | hk | hk
   ·
    subst hk
    refine WC_seq ?_
    refine WC_reg fun ds => ?_
    refine WL_q rfl (q_lss (lk_in rfl hs14) (lk_off rfl <| lk1 rfl <| lk0)) ?_
    refine WL_nil ?_
    refine then_n ?_
    refine WC_seq ?_
    refine WC_if_true (lk0) (by first | rfl | exact decide_eq_true (by omega)) ?_
    by_cases h0 : (r.rd (r.reader i)).permit < (r.bk (r.book i)).cls
    ·
     refine WC_skip ?_
     refine then_n ?_
     refine WC_seq ?_
     refine WC_block ?_
     refine WC_seq ?_
     refine WC_reg fun ds => ?_
     refine WL_q rfl (q_index  sl_112 (lk1 rfl <| lk_off rfl <| lk2 rfl <| lk0) hX.rules.plain (lk1 rfl <| lk_in rfl hs14) rfl (by show _ < 3; omega)) ?_
     refine WL_q rfl (q_loadN agg_141 (lk0) rfl rfl (hX.rules.whole (by show _ < 3; omega))) ?_
     refine WL_x rfl (x_alloc zr_141 rfl fun b2 hb2 nb2 => ?_)
     refine WL_x0 (x_storeA sz_141 (lk0) (lk1 rfl <| lk0) (i := 0) rfl rfl rfl rfl (ruleE_one rfl) (.here) ?_)
     refine WL_nil ?_
     refine then_n ?_
     refine WC_seq ?_
     refine WC_reg fun ds => ?_
     refine WL_q rfl (q_fieldAddrB fd_141_1 (lk0)) ?_
     refine WL_q rfl (q_load1 one_139 (lk0) (Cell.own 0 rfl rfl)) ?_
     refine WL_q rfl (q_move (lk4 rfl <| lk2 rfl <| lk_off rfl <| lk4 rfl <| lk2 rfl <| lk1 rfl <| lk_entry rfl)) ?_
     refine WL_q rfl (q_move (lk4 rfl <| lk2 rfl <| lk1 rfl <| lk_off rfl <| lk4 rfl <| lk2 rfl <| lk1 rfl <| lk_entry rfl)) ?_
     refine WL_c rfl (q_call bd_97 (lk2 rfl <| lk0) (.cons (lk1 rfl <| lk0) (.cons (lk0) .nil)) (look2_ok hX hv hi hs) (fun _ _ h => h)) ?_
     refine WL_nil ?_
     refine then_n ?_
     refine WC_if_true (lk0) (decide_eq_true h0) ?_
     refine WC_seq ?_
     refine WC_reg fun ds => ?_
     refine WL_q rfl (q_fieldAddrB fd_141_0 (lk4 rfl <| lk1 rfl <| lk0)) ?_
     refine WL_q rfl (q_load1 one_3 (lk0) (Cell.own 0 rfl rfl)) ?_
     refine WL_q rfl (q_assign (lk0)) ?_
     refine WL_nil ?_
     refine then_n ?_
     refine WC_ret ?_
     refine block_r (then_r (then_r (block_r (then_r ?_))))
     refine post_ret rfl (.tmp (lk0) .nil) ?_
     show _ = _
     unfold reason; rw [if_pos h0]; rfl
    ·
     refine WC_skip ?_
     refine then_n ?_
     refine WC_seq ?_
     refine WC_block ?_
     refine WC_seq ?_
     refine WC_reg fun ds => ?_
     refine WL_q rfl (q_index  sl_112 (lk1 rfl <| lk_off rfl <| lk2 rfl <| lk0) hX.rules.plain (lk1 rfl <| lk_in rfl hs14) rfl (by show _ < 3; omega)) ?_
     refine WL_q rfl (q_loadN agg_141 (lk0) rfl rfl (hX.rules.whole (by show _ < 3; omega))) ?_
     refine WL_x rfl (x_alloc zr_141 rfl fun b3 hb3 nb3 => ?_)
     refine WL_x0 (x_storeA sz_141 (lk0) (lk1 rfl <| lk0) (i := 0) rfl rfl rfl rfl (ruleE_one rfl) (.here) ?_)
     refine WL_nil ?_
     refine then_n ?_
     refine WC_seq ?_
     refine WC_reg fun ds => ?_
     refine WL_q rfl (q_fieldAddrB fd_141_1 (lk0)) ?_
     refine WL_q rfl (q_load1 one_139 (lk0) (Cell.own 0 rfl rfl)) ?_
     refine WL_q rfl (q_move (lk4 rfl <| lk2 rfl <| lk_off rfl <| lk4 rfl <| lk2 rfl <| lk1 rfl <| lk_entry rfl)) ?_
     refine WL_q rfl (q_move (lk4 rfl <| lk2 rfl <| lk1 rfl <| lk_off rfl <| lk4 rfl <| lk2 rfl <| lk1 rfl <| lk_entry rfl)) ?_
     refine WL_c rfl (q_call bd_97 (lk2 rfl <| lk0) (.cons (lk1 rfl <| lk0) (.cons (lk0) .nil)) (look2_ok hX hv hi hs) (fun _ _ h => h)) ?_
     refine WL_nil ?_
     refine then_n ?_
     refine WC_if_false (lk0) (decide_eq_false h0) ?_
     refine WC_skip ?_
     refine block_n (then_n ?_)
     refine WC_imp (fun _ _ h => h.drop (.cons _ <| .refl _)) ?_
     refine WC_reg fun ds => ?_
     refine WL_q rfl (q_add (lk8 rfl <| lk1 rfl <| lk_in rfl hs14) lk_const rfl (by omega) (by omega)) ?_
     refine WL_q rfl (q_move (lk0)) ?_
     refine WL_nil ?_
     refine then_n ⟨_, m - 1, Off.eq (ou8 rfl <| ou2 rfl <| ou1 rfl <| off_over), by omega, ?_⟩
     refine ⟨1, by omega, (lk0), rfl, fun _ => h0, fun h => absurd h (by omega), fun h => absurd h (by omega)⟩
   ·
    subst hk
    refine WC_seq ?_
    refine WC_reg fun ds => ?_
    refine WL_q rfl (q_lss (lk_in rfl hs14) (lk_off rfl <| lk1 rfl <| lk0)) ?_
    refine WL_nil ?_
    refine then_n ?_
    refine WC_seq ?_
    refine WC_if_true (lk0) (by first | rfl | exact decide_eq_true (by omega)) ?_
    by_cases h0 : ((r.bk (r.book i)).large = true ∧ (r.seat s).small = true)
    ·
     refine WC_skip ?_
     refine then_n ?_
     refine WC_seq ?_
     refine WC_block ?_
     refine WC_seq ?_
     refine WC_reg fun ds => ?_
     refine WL_q rfl (q_index  sl_112 (lk1 rfl <| lk_off rfl <| lk2 rfl <| lk0) hX.rules.plain (lk1 rfl <| lk_in rfl hs14) rfl (by show _ < 3; omega)) ?_
     refine WL_q rfl (q_loadN agg_141 (lk0) rfl rfl (hX.rules.whole (by show _ < 3; omega))) ?_
     refine WL_x rfl (x_alloc zr_141 rfl fun b4 hb4 nb4 => ?_)
     refine WL_x0 (x_storeA sz_141 (lk0) (lk1 rfl <| lk0) (i := 0) rfl rfl rfl rfl (ruleE_one rfl) (.here) ?_)
     refine WL_nil ?_
     refine then_n ?_
     refine WC_seq ?_
     refine WC_reg fun ds => ?_
     refine WL_q rfl (q_fieldAddrB fd_141_1 (lk0)) ?_
     refine WL_q rfl (q_load1 one_139 (lk0) (Cell.own 0 rfl rfl)) ?_
     refine WL_q rfl (q_move (lk4 rfl <| lk2 rfl <| lk_off rfl <| lk4 rfl <| lk2 rfl <| lk1 rfl <| lk_entry rfl)) ?_
     refine WL_q rfl (q_move (lk4 rfl <| lk2 rfl <| lk1 rfl <| lk_off rfl <| lk4 rfl <| lk2 rfl <| lk1 rfl <| lk_entry rfl)) ?_
     refine WL_c rfl (q_call bd_98 (lk2 rfl <| lk0) (.cons (lk1 rfl <| lk0) (.cons (lk0) .nil)) (look3_ok hX hv hi hs) (fun _ _ h => h)) ?_
     refine WL_nil ?_
     refine then_n ?_
     refine WC_if_true (lk0) (by simp [h0]) ?_
     refine WC_seq ?_
     refine WC_reg fun ds => ?_
     refine WL_q rfl (q_fieldAddrB fd_141_0 (lk4 rfl <| lk1 rfl <| lk0)) ?_
     refine WL_q rfl (q_load1 one_3 (lk0) (Cell.own 0 rfl rfl)) ?_
     refine WL_q rfl (q_assign (lk0)) ?_
     refine WL_nil ?_
     refine then_n ?_
     refine WC_ret ?_
     refine block_r (then_r (then_r (block_r (then_r ?_))))
     refine post_ret rfl (.tmp (lk0) .nil) ?_
     show _ = _
     unfold reason; rw [if_neg (hA (by omega)), if_pos h0]; rfl
    ·
     refine WC_skip ?_
     refine then_n ?_
     refine WC_seq ?_
     refine WC_block ?_
     refine WC_seq ?_
     refine WC_reg fun ds => ?_
     refine WL_q rfl (q_index  sl_112 (lk1 rfl <| lk_off rfl <| lk2 rfl <| lk0) hX.rules.plain (lk1 rfl <| lk_in rfl hs14) rfl (by show _ < 3; omega)) ?_
     refine WL_q rfl (q_loadN agg_141 (lk0) rfl rfl (hX.rules.whole (by show _ < 3; omega))) ?_
     refine WL_x rfl (x_alloc zr_141 rfl fun b5 hb5 nb5 => ?_)
     refine WL_x0 (x_storeA sz_141 (lk0) (lk1 rfl <| lk0) (i := 0) rfl rfl rfl rfl (ruleE_one rfl) (.here) ?_)
     refine WL_nil ?_
     refine then_n ?_
     refine WC_seq ?_
     refine WC_reg fun ds => ?_
     refine WL_q rfl (q_fieldAddrB fd_141_1 (lk0)) ?_
     refine WL_q rfl (q_load1 one_139 (lk0) (Cell.own 0 rfl rfl)) ?_
     refine WL_q rfl (q_move (lk4 rfl <| lk2 rfl <| lk_off rfl <| lk4 rfl <| lk2 rfl <| lk1 rfl <| lk_entry rfl)) ?_
     refine WL_q rfl (q_move (lk4 rfl <| lk2 rfl <| lk1 rfl <| lk_off rfl <| lk4 rfl <| lk2 rfl <| lk1 rfl <| lk_entry rfl)) ?_
     refine WL_c rfl (q_call bd_98 (lk2 rfl <| lk0) (.cons (lk1 rfl <| lk0) (.cons (lk0) .nil)) (look3_ok hX hv hi hs) (fun _ _ h => h)) ?_
     refine WL_nil ?_
     refine then_n ?_
     refine WC_if_false (lk0) (by simp only [Bool.and_eq_false_iff]; rcases Decidable.not_and_iff_or_not.1 h0 with h | h; (exact .inl (by simpa using h)); (exact .inr (by simpa using h))) ?_
     refine WC_skip ?_
     refine block_n (then_n ?_)
     refine WC_imp (fun _ _ h => h.drop (.cons _ <| .refl _)) ?_
     refine WC_reg fun ds => ?_
     refine WL_q rfl (q_add (lk8 rfl <| lk1 rfl <| lk_in rfl hs14) lk_const rfl (by omega) (by omega)) ?_
     refine WL_q rfl (q_move (lk0)) ?_
     refine WL_nil ?_
     refine then_n ⟨_, m - 1, Off.eq (ou8 rfl <| ou2 rfl <| ou1 rfl <| off_over), by omega, ?_⟩
     refine ⟨2, by omega, (lk0), rfl, fun _ => hA (by omega), fun _ => h0, fun h => absurd h (by omega)⟩
   ·
    subst hk
    refine WC_seq ?_
    refine WC_reg fun ds => ?_
    refine WL_q rfl (q_lss (lk_in rfl hs14) (lk_off rfl <| lk1 rfl <| lk0)) ?_
    refine WL_nil ?_
    refine then_n ?_
    refine WC_seq ?_
    refine WC_if_true (lk0) (by first | rfl | exact decide_eq_true (by omega)) ?_
    by_cases h0 : (r.bk (r.book i)).lo < light r i s
    ·
     refine WC_skip ?_
     refine then_n ?_
     refine WC_seq ?_
     refine WC_block ?_
     refine WC_seq ?_
     refine WC_reg fun ds => ?_
     refine WL_q rfl (q_index  sl_112 (lk1 rfl <| lk_off rfl <| lk2 rfl <| lk0) hX.rules.plain (lk1 rfl <| lk_in rfl hs14) rfl (by show _ < 3; omega)) ?_
     refine WL_q rfl (q_loadN agg_141 (lk0) rfl rfl (hX.rules.whole (by show _ < 3; omega))) ?_
     refine WL_x rfl (x_alloc zr_141 rfl fun b6 hb6 nb6 => ?_)
     refine WL_x0 (x_storeA sz_141 (lk0) (lk1 rfl <| lk0) (i := 0) rfl rfl rfl rfl (ruleE_one rfl) (.here) ?_)
     refine WL_nil ?_
     refine then_n ?_
     refine WC_seq ?_
     refine WC_reg fun ds => ?_
     refine WL_q rfl (q_fieldAddrB fd_141_1 (lk0)) ?_
     refine WL_q rfl (q_load1 one_139 (lk0) (Cell.own 0 rfl rfl)) ?_
     refine WL_q rfl (q_move (lk4 rfl <| lk2 rfl <| lk_off rfl <| lk4 rfl <| lk2 rfl <| lk1 rfl <| lk_entry rfl)) ?_
     refine WL_q rfl (q_move (lk4 rfl <| lk2 rfl <| lk1 rfl <| lk_off rfl <| lk4 rfl <| lk2 rfl <| lk1 rfl <| lk_entry rfl)) ?_
     refine WL_c rfl (q_call bd_99 (lk2 rfl <| lk0) (.cons (lk1 rfl <| lk0) (.cons (lk0) .nil)) (look4_ok hX hv hi hs) (fun _ _ h => h)) ?_
     refine WL_nil ?_
     refine then_n ?_
     refine WC_if_true (lk0) (decide_eq_true h0) ?_
     refine WC_seq ?_
     refine WC_reg fun ds => ?_
     refine WL_q rfl (q_fieldAddrB fd_141_0 (lk4 rfl <| lk1 rfl <| lk0)) ?_
     refine WL_q rfl (q_load1 one_3 (lk0) (Cell.own 0 rfl rfl)) ?_
     refine WL_q rfl (q_assign (lk0)) ?_
     refine WL_nil ?_
     refine then_n ?_
     refine WC_ret ?_
     refine block_r (then_r (then_r (block_r (then_r ?_))))
     refine post_ret rfl (.tmp (lk0) .nil) ?_
     show _ = _
     unfold reason; rw [if_neg (hA (by omega)), if_neg (hB (by omega)), if_pos h0]; rfl
    ·
     refine WC_skip ?_
     refine then_n ?_
     refine WC_seq ?_
     refine WC_block ?_
     refine WC_seq ?_
     refine WC_reg fun ds => ?_
     refine WL_q rfl (q_index  sl_112 (lk1 rfl <| lk_off rfl <| lk2 rfl <| lk0) hX.rules.plain (lk1 rfl <| lk_in rfl hs14) rfl (by show _ < 3; omega)) ?_
     refine WL_q rfl (q_loadN agg_141 (lk0) rfl rfl (hX.rules.whole (by show _ < 3; omega))) ?_
     refine WL_x rfl (x_alloc zr_141 rfl fun b7 hb7 nb7 => ?_)
     refine WL_x0 (x_storeA sz_141 (lk0) (lk1 rfl <| lk0) (i := 0) rfl rfl rfl rfl (ruleE_one rfl) (.here) ?_)
     refine WL_nil ?_
     refine then_n ?_
     refine WC_seq ?_
     refine WC_reg fun ds => ?_
     refine WL_q rfl (q_fieldAddrB fd_141_1 (lk0)) ?_
     refine WL_q rfl (q_load1 one_139 (lk0) (Cell.own 0 rfl rfl)) ?_
     refine WL_q rfl (q_move (lk4 rfl <| lk2 rfl <| lk_off rfl <| lk4 rfl <| lk2 rfl <| lk1 rfl <| lk_entry rfl)) ?_
     refine WL_q rfl (q_move (lk4 rfl <| lk2 rfl <| lk1 rfl <| lk_off rfl <| lk4 rfl <| lk2 rfl <| lk1 rfl <| lk_entry rfl)) ?_
     refine WL_c rfl (q_call bd_99 (lk2 rfl <| lk0) (.cons (lk1 rfl <| lk0) (.cons (lk0) .nil)) (look4_ok hX hv hi hs) (fun _ _ h => h)) ?_
     refine WL_nil ?_
     refine then_n ?_
     refine WC_if_false (lk0) (decide_eq_false h0) ?_
     refine WC_skip ?_
     refine block_n (then_n ?_)
     refine WC_imp (fun _ _ h => h.drop (.cons _ <| .refl _)) ?_
     refine WC_reg fun ds => ?_
     refine WL_q rfl (q_add (lk8 rfl <| lk1 rfl <| lk_in rfl hs14) lk_const rfl (by omega) (by omega)) ?_
     refine WL_q rfl (q_move (lk0)) ?_
     refine WL_nil ?_
     refine then_n ⟨_, m - 1, Off.eq (ou8 rfl <| ou2 rfl <| ou1 rfl <| off_over), by omega, ?_⟩
     refine ⟨3, by omega, (lk0), rfl, fun _ => hA (by omega), fun _ => hB (by omega), fun _ => h0⟩
   ·
    subst hk
    refine WC_seq ?_
    refine WC_reg fun ds => ?_
    refine WL_q rfl (q_lss (lk_in rfl hs14) (lk_off rfl <| lk1 rfl <| lk0)) ?_
    refine WL_nil ?_
    refine then_n ?_
    refine WC_seq ?_
    refine WC_if_false (lk0) (by first | rfl | exact decide_eq_false (by omega)) ?_
    refine WC_exit ?_
    refine then_x (then_x (exit_here ?_))
    refine then_n ?_
    refine WC_seq ?_
    refine WC_reg fun ds => ?_
    refine WL_q rfl (q_assign lk_const) ?_
    refine WL_nil ?_
    refine then_n ?_
    refine WC_ret ?_
    refine post_ret rfl (.tmp (lk0) .nil) ?_
    show _ = _
    unfold reason; rw [if_neg (hA (by omega)), if_neg (hB (by omega)), if_neg (hC (by omega))]; rfl
end Go.Proofs.Ytbcjfkcpfjccdaa
namespace Go.Proofs.Ytbcjfkcpfjccdaa
open Go.RowKit
theorem sz_112 : SizeT Try.prog 112 1 := sizeT_of (by kernel_rfl)
theorem sz_150 : SizeT Try.prog 150 1 := sizeT_of (by kernel_rfl)
theorem sz_3 : SizeT Try.prog 3 1 := sizeT_of (by kernel_rfl)
theorem sz_98 : SizeT Try.prog 98 1 := sizeT_of (by kernel_rfl)
theorem zr_114 : ZeroT Try.prog 114 (.agg #[.slice none 0 0, .slice none 0 0, .slice none 0 0, .slice none 0 0, .int .i64 0, .int .i64 0, .int .i64 0, .int .i64 0, .int .i64 0, .int .i64 0, .int .i64 0, .int .i64 0, .int .i64 0, .int .i64 0, .int .i64 0, .int .i64 0, .int .i64 0, .int .i64 0, .int .i64 0, .int .i64 0, .int .i64 0, .int .i64 0, .int .i64 0, .int .i64 0, .int .i64 0, .int .i64 0, .int .i64 0, .int .i64 0, .int .i64 0, .int .i64 0, .int .i64 0, .int .i64 0, .int .i64 0, .int .i64 0, .int .i64 0, .int .i64 0, .int .i64 0, .int .i64 0, .int .i64 0, .int .i64 0, .int .i64 0, .int .i64 0, .int .i64 0, .int .i64 0, .int .i64 0, .int .i64 0, .int .i64 0, .int .i64 0, .int .i64 0, .int .i64 0, .int .i64 0, .int .i64 0, .slice none 0 0]) := zeroT_of (by kernel_rfl)
theorem zr_150 : ZeroT Try.prog 150 (.nilFunc) := zeroT_of (by kernel_rfl)
theorem zr_98 : ZeroT Try.prog 98 (.pointer none) := zeroT_of (by kernel_rfl)
theorem bt_114 : BuildT Try.prog 114 [.slice none 0 0, .slice none 0 0, .slice none 0 0, .slice none 0 0, .int .i64 0, .int .i64 0, .int .i64 0, .int .i64 0, .int .i64 0, .int .i64 0, .int .i64 0, .int .i64 0, .int .i64 0, .int .i64 0, .int .i64 0, .int .i64 0, .int .i64 0, .int .i64 0, .int .i64 0, .int .i64 0, .int .i64 0, .int .i64 0, .int .i64 0, .int .i64 0, .int .i64 0, .int .i64 0, .int .i64 0, .int .i64 0, .int .i64 0, .int .i64 0, .int .i64 0, .int .i64 0, .int .i64 0, .int .i64 0, .int .i64 0, .int .i64 0, .int .i64 0, .int .i64 0, .int .i64 0, .int .i64 0, .int .i64 0, .int .i64 0, .int .i64 0, .int .i64 0, .int .i64 0, .int .i64 0, .int .i64 0, .int .i64 0, .int .i64 0, .int .i64 0, .int .i64 0, .int .i64 0, .slice none 0 0] [(0, 4), (4, 48), (52, 1)] := buildT_of zr_114 (by kernel_rfl) (by decide)
theorem bt_141 : BuildT Try.prog 141 [.int .i64 0, .nilFunc] [(0, 1), (1, 1)] := buildT_of zr_141 (by kernel_rfl) (by decide)
set_option maxRecDepth 100000 in
theorem look_ok {F : Heap} {vb vr vs vq : Value} {r : Room} (hr : RoomR F vb vr vs vq r) (hv : Valid r) : Ok Try.prog 78 [.agg #[vb, vr, vs, vq]].toArray F fun v F' => Looked num F' v r := by
  refine Ok.intro Try.func78 rfl Try.ntmps78 rfl fun w0 => ?_
  have h8 := hv.nq
  have h6 := hv.ns
  have hL1 := hr.reqs.plain.lt
  have hL2 := hr.seats.plain.lt
  refine WC_seq ?_
  refine WC_reg fun ds => ?_
  refine WL_x rfl (x_box (lk_entry rfl) rfl fun b1 hb1 nb1 => ?_)
  refine WL_q rfl (q_assign lk_const) ?_
  refine WL_nil ?_
  refine then_n ?_
  refine WC_seq ?_
  refine WC_reg fun ds => ?_
  refine WL_q rfl (q_loadN agg_27 (lk1 rfl <| lk0) rfl rfl (own_whole 0 rfl)) ?_
  refine WL_q rfl (q_build bt_114 (.cons (lk0) rfl .nil) (.cons rfl rfl (Nat.le_of_ble_eq_true rfl) (.cons (.here) (.cons (.next <| .here) (.cons (.next <| .next <| .here) (.cons (.next <| .next <| .next <| .here) .nil)))) .nil)) ?_
  refine WL_x rfl (x_box (lk0) rfl fun b2 hb2 nb2 => ?_)
  refine WL_x rfl (x_alloc zr_98 rfl fun b3 hb3 nb3 => ?_)
  refine WL_x0 (x_store1 sz_98 (lk0) (lk1 rfl <| lk0) (i := 0) rfl (.here) rfl (.here) ?_)
  refine WL_nil ?_
  refine then_n ?_
  refine WC_seq ?_
  refine WC_seq ?_
  refine WC_reg fun ds => ?_
  refine WL_q rfl (q_fieldAddrB fd_27_3 (lk4 rfl <| lk1 rfl <| lk0)) ?_
  refine WL_q rfl (q_load1 one_25 (lk0) (Cell.own 2 rfl rfl)) ?_
  refine WL_q rfl (q_lenP sl_25 (lk0) hr.reqs.plain) ?_
  refine WL_q rfl (q_move lk_const) ?_
  refine WL_nil ?_
  refine then_n ?_
  refine WC_block ?_
  refine WC_loopN [4, 5, 6, 7, 15, 16, 17, 18, 19, 20, 21, 22, 23, 24, 25, 26, 27, 28, 29, 30, 31, 32, 33, 34, 35, 36, 37, 38, 39, 40, 41] (fun m e σ => ∃ k : Nat, m + k = r.reqs.length ∧ e 15 = .int .i64 k ∧ σ = ⟨F, [(b3, bx 98 [ptr b2]), (b2, bx 114 (roomCells vb vr vs vq (lightsAt r k 0) (.slice none 0 0))), (b1, bx 27 [vb, vr, vs, vq])]⟩) (r.reqs.length) ?_ ?_
  · (refine ⟨0, by omega, (lk0), ?_⟩; rw [lightsAt_zero]; rfl)
  ·
   rintro m e _ ⟨k, hm, hs15, rfl⟩
   by_cases hk : k < r.reqs.length
   ·
    refine WC_seq ?_
    refine WC_reg fun ds => ?_
    refine WL_q rfl (q_lss (lk_in rfl hs15) (lk_off rfl <| lk1 rfl <| lk0)) ?_
    refine WL_nil ?_
    refine then_n ?_
    refine WC_seq ?_
    refine WC_if_true (lk0) (by first | rfl | exact decide_eq_true (by omega)) ?_
    refine WC_skip ?_
    refine then_n ?_
    refine WC_seq ?_
    refine WC_block ?_
    refine WC_seq ?_
    refine WC_reg fun ds => ?_
    refine WL_q rfl (q_move (lk1 rfl <| lk_in rfl hs15)) ?_
    refine WL_q rfl (q_index  sl_25 (lk2 rfl <| lk_off rfl <| lk2 rfl <| lk0) hr.reqs.plain (lk2 rfl <| lk_in rfl hs15) rfl hk) ?_
    refine WL_q rfl (q_loadN agg_58 (lk0) rfl rfl (hr.reqs.whole hk)) ?_
    refine WL_x rfl (x_alloc zr_58 rfl fun b5 hb5 nb5 => ?_)
    refine WL_q rfl (q_assign (lk2 rfl <| lk1 rfl <| lk0)) ?_
    refine WL_x0 (x_storeA sz_58 (lk1 rfl <| lk0) (lk2 rfl <| lk0) (i := 0) rfl rfl rfl rfl Req.enc_one (.here) ?_)
    refine WL_nil ?_
    refine then_n ?_
    refine WC_seq ?_
    refine WC_reg fun ds => ?_
    refine WL_q rfl (q_fieldAddrB fd_27_2 (lk4 rfl <| lk2 rfl <| lk_off rfl <| lk8 rfl <| lk1 rfl <| lk0)) ?_
    refine WL_q rfl (q_load1 one_24 (lk0) (Cell.own 3 rfl rfl)) ?_
    refine WL_q rfl (q_lenP sl_24 (lk0) hr.seats.plain) ?_
    refine WL_q rfl (q_move lk_const) ?_
    refine WL_nil ?_
    refine then_n ?_
    refine WC_block ?_
    refine WC_loopN [6, 7, 23, 24, 25, 26, 27, 28, 29, 30, 31, 32, 33, 34, 35, 36, 37, 38, 39, 40] (fun m e σ => ∃ j : Nat, m + j = r.seats.length ∧ e 23 = .int .i64 j ∧ σ = ⟨F, [(b5, bx 58 (Req.enc r.reqs[k])), (b3, bx 98 [ptr b2]), (b2, bx 114 (roomCells vb vr vs vq (lightsAt r k j) (.slice none 0 0))), (b1, bx 27 [vb, vr, vs, vq])]⟩) (r.seats.length) ?_ ?_
    · exact ⟨0, by omega, (lk0), rfl⟩
    ·
     rintro m2 e2 _ ⟨j, hm2, ht23, rfl⟩
     by_cases hj : j < r.seats.length
     ·
      have hlb := light_bound hv hk hj
      refine WC_seq ?_
      refine WC_reg fun ds => ?_
      refine WL_q rfl (q_lss (lk_in rfl ht23) (lk_off rfl <| lk1 rfl <| lk0)) ?_
      refine WL_nil ?_
      refine then_n ?_
      refine WC_seq ?_
      refine WC_if_true (lk0) (by first | rfl | exact decide_eq_true (by omega)) ?_
      refine WC_skip ?_
      refine then_n ?_
      refine WC_seq ?_
      refine WC_block ?_
      refine WC_seq ?_
      refine WC_reg fun ds => ?_
      refine WL_q rfl (q_move (lk1 rfl <| lk_in rfl ht23)) ?_
      refine WL_q rfl (q_index  sl_24 (lk2 rfl <| lk_off rfl <| lk2 rfl <| lk0) hr.seats.plain (lk2 rfl <| lk_in rfl ht23) rfl hj) ?_
      refine WL_q rfl (q_loadN agg_66 (lk0) rfl rfl (hr.seats.whole hj)) ?_
      refine WL_x rfl (x_alloc zr_66 rfl fun b7 hb7 nb7 => ?_)
      refine WL_q rfl (q_assign (lk2 rfl <| lk1 rfl <| lk0)) ?_
      refine WL_x0 (x_storeA sz_66 (lk1 rfl <| lk0) (lk2 rfl <| lk0) (i := 0) rfl rfl rfl rfl Seat.enc_one (.here) ?_)
      refine WL_nil ?_
      refine then_n ?_
      refine WC_drawS (.inl rfl) (fun _ _ h => h) (.cons_cons _ <| .cons_cons _ <| .cons_cons _ <| .cons_cons _ <| .cons_cons _ <| .refl _) [12] (by kernel_rfl) fun ds => ?_
      refine WX_take 0 rfl (by kernel_rfl) (by kernel_rfl) (by kernel_rfl) (by kernel_rfl) rfl rfl (fun _ h => h.drop (.cons_cons _ <| .cons_cons _ <| .cons_cons _ <| .cons_cons _ <| .cons_cons _ <| .refl _)) (fun _ _ _ h => h) (q_load1 one_98 (lk4 rfl <| lk2 rfl <| lk_off rfl <| lk8 rfl <| lk2 rfl <| lk_off rfl <| lk4 rfl <| lk0) (Cell.own 2 rfl rfl)) ?_
      refine WX_take 1 rfl (by kernel_rfl) (by kernel_rfl) (by kernel_rfl) (by kernel_rfl) rfl rfl (fun _ h => h.drop (.cons_cons _ <| .cons_cons _ <| .cons_cons _ <| .cons_cons _ <| .cons_cons _ <| .refl _)) (fun _ _ _ h => h) (q_move (lk4 rfl <| lk2 rfl <| lk1 rfl <| lk_off rfl <| lk4 rfl <| lk0)) ?_
      refine WX_take 2 rfl (by kernel_rfl) (by kernel_rfl) (by kernel_rfl) (by kernel_rfl) rfl rfl (fun _ h => h.drop (.cons_cons _ <| .cons_cons _ <| .cons_cons _ <| .cons_cons _ <| .cons_cons _ <| .refl _)) (fun _ _ _ h => h) (q_move (lk2 rfl <| lk0)) ?_
      refine WX_take 3 rfl (by kernel_rfl) (by kernel_rfl) (by kernel_rfl) (by kernel_rfl) rfl rfl (fun _ h => h.drop (.cons_cons _ <| .cons_cons _ <| .cons_cons _ <| .cons_cons _ <| .cons_cons _ <| .refl _)) (fun _ _ _ h => h) (q_fieldAddrB fd_58_2 (lk8 rfl <| lk1 rfl <| lk_off rfl <| lk4 rfl <| lk1 rfl <| lk0)) ?_
      refine WX_take 4 rfl (by kernel_rfl) (by kernel_rfl) (by kernel_rfl) (by kernel_rfl) rfl rfl (fun _ h => h.drop (.cons_cons _ <| .cons_cons _ <| .cons_cons _ <| .cons_cons _ <| .cons_cons _ <| .refl _)) (fun _ _ _ h => h) (q_load1 one_3 (lk0) (Cell.own 1 rfl rfl)) ?_
      refine WX_take 5 rfl (by kernel_rfl) (by kernel_rfl) (by kernel_rfl) (by kernel_rfl) rfl rfl (fun _ h => h.drop (.cons_cons _ <| .cons_cons _ <| .cons_cons _ <| .cons_cons _ <| .cons_cons _ <| .refl _)) (fun _ _ _ h => h) (q_fieldAddrB fd_66_0 (lk4 rfl <| lk2 rfl <| lk0)) ?_
      refine WX_take 6 rfl (by kernel_rfl) (by kernel_rfl) (by kernel_rfl) (by kernel_rfl) rfl rfl (fun _ h => h.drop (.cons_cons _ <| .cons_cons _ <| .cons_cons _ <| .cons_cons _ <| .cons_cons _ <| .refl _)) (fun _ _ _ h => h) (q_load1 one_3 (lk0) (Cell.own 0 rfl rfl)) ?_
      refine WX_take 7 rfl (by kernel_rfl) (by kernel_rfl) (by kernel_rfl) (by kernel_rfl) rfl rfl (fun _ h => h.drop (.cons_cons _ <| .cons_cons _ <| .cons_cons _ <| .cons_cons _ <| .cons_cons _ <| .refl _)) (fun _ _ _ h => h) (q_mul (lk2 rfl <| lk0) (lk0) (show r.reqs[k].hours * r.seats[j].light = light r k j by rw [req_at, seat_at]; rfl) (by omega) (by omega)) ?_
      refine WX_take 8 rfl (by kernel_rfl) (by kernel_rfl) (by kernel_rfl) (by kernel_rfl) rfl rfl (fun _ h => h.drop (.cons_cons _ <| .cons_cons _ <| .cons_cons _ <| .cons_cons _ <| .cons_cons _ <| .refl _)) (fun _ _ _ h => h) (q_nilCheck (lk4 rfl <| lk2 rfl <| lk1 rfl <| lk0)) ?_
      refine WX_take 9 rfl (by kernel_rfl) (by kernel_rfl) (by kernel_rfl) (by kernel_rfl) rfl rfl (fun _ h => h.drop (.cons_cons _ <| .cons_cons _ <| .cons_cons _ <| .cons_cons _ <| .cons_cons _ <| .refl _)) (fun _ _ _ h => h) (q_fieldAddrB fd_114_1 (lk0)) ?_
      refine WX_take 10 rfl (by kernel_rfl) (by kernel_rfl) (by kernel_rfl) (by kernel_rfl) rfl rfl (fun _ h => h.drop (.cons_cons _ <| .cons_cons _ <| .cons_cons _ <| .cons_cons _ <| .cons_cons _ <| .refl _)) (fun _ _ _ h => h) (q_indexArrB  ar_111 (lk0) (lk8 rfl <| lk0) rfl (by omega)) ?_
      refine WX_take 11 rfl (by kernel_rfl) (by kernel_rfl) (by kernel_rfl) (by kernel_rfl) rfl rfl (fun _ h => h.drop (.cons_cons _ <| .cons_cons _ <| .cons_cons _ <| .cons_cons _ <| .cons_cons _ <| .refl _)) (fun _ _ _ h => h) (q_indexArrB  ar_110 (lk0) (lk8 rfl <| lk0) rfl (by omega)) ?_
      refine WX_x0 12 rfl (by kernel_rfl) (x_storeK sz_3 (lk0) rfl (lk4 rfl <| lk0) (i := 3) rfl (by rw [roomCells_length lightsAt_length]; omega) rfl (.next <| .next <| .next <| .here) ⟨(fun h => nomatch h), ?_⟩)
      refine WX_done (by kernel_rfl) ?_ _
      refine block_n (then_n ?_)
      refine WC_imp (fun _ _ h => h.drop (.cons _ <| .cons_cons _ <| .cons_cons _ <| .cons_cons _ <| .cons_cons _ <| .refl _)) ?_
      refine WC_reg fun ds => ?_
      refine WL_q rfl (q_add (lk16 rfl <| lk2 rfl <| lk_in rfl ht23) lk_const rfl (by omega) (by omega)) ?_
      refine WL_q rfl (q_move (lk0)) ?_
      refine WL_nil ?_
      refine then_n ⟨_, m2 - 1, Off.eq (ou16 rfl <| ou4 rfl <| off_over), by omega, ?_⟩
      refine ⟨j + 1, by omega, (lk0), ?_⟩
      rw [← roomCells_set (by omega) (by omega)]
     ·
      refine WC_seq ?_
      refine WC_reg fun ds => ?_
      refine WL_q rfl (q_lss (lk_in rfl ht23) (lk_off rfl <| lk1 rfl <| lk0)) ?_
      refine WL_nil ?_
      refine then_n ?_
      refine WC_seq ?_
      refine WC_if_false (lk0) (by first | rfl | exact decide_eq_false (by omega)) ?_
      refine WC_exit ?_
      refine then_x (then_x (exit_here ?_))
      refine block_n (then_n ?_)
      refine WC_imp (fun _ _ h => h.drop (.cons _ <| .cons_cons _ <| .cons_cons _ <| .cons_cons _ <| .refl _)) ?_
      refine WC_reg fun ds => ?_
      refine WL_q rfl (q_add (lk1 rfl <| lk_off rfl <| lk8 rfl <| lk2 rfl <| lk_in rfl hs15) lk_const rfl (by omega) (by omega)) ?_
      refine WL_q rfl (q_move (lk0)) ?_
      refine WL_nil ?_
      refine then_n ⟨_, m - 1, Off.eq (ou2 rfl <| ou1 rfl <| off_in rfl <| ou8 rfl <| ou2 rfl <| off_over), by omega, ?_⟩
      refine ⟨k + 1, by omega, (lk0), ?_⟩
      rw [lightsAt_row (show r.seats.length ≤ j by omega)]
   ·
    refine WC_seq ?_
    refine WC_reg fun ds => ?_
    refine WL_q rfl (q_lss (lk_in rfl hs15) (lk_off rfl <| lk1 rfl <| lk0)) ?_
    refine WL_nil ?_
    refine then_n ?_
    refine WC_seq ?_
    refine WC_if_false (lk0) (by first | rfl | exact decide_eq_false (by omega)) ?_
    rw [lightsAt_all (show r.reqs.length ≤ k by omega)]
    refine WC_exit ?_
    refine then_x (then_x (exit_here ?_))
    refine then_n ?_
    refine WC_seq ?_
    refine WC_reg fun ds => ?_
    refine WL_q rfl (q_makeFunc (.cons (lk1 rfl <| lk_off rfl <| lk8 rfl <| lk1 rfl <| lk0) .nil)) ?_
    refine WL_x rfl (x_alloc zr_150 rfl fun b8 hb8 nb8 => ?_)
    refine WL_x0 (x_store1 sz_150 (lk0) (lk1 rfl <| lk0) (i := 0) rfl (.here) rfl (.here) ?_)
    refine WL_nil ?_
    refine then_n ?_
    refine WC_seq ?_
    refine WC_reg fun ds => ?_
    refine WL_q rfl (q_load1 one_98 (lk2 rfl <| lk1 rfl <| lk_off rfl <| lk4 rfl <| lk0) (Cell.own 1 rfl rfl)) ?_
    refine WL_q rfl (q_makeFunc (.cons (lk1 rfl <| lk0) (.cons (lk4 rfl <| lk_off rfl <| lk8 rfl <| lk1 rfl <| lk0) .nil))) ?_
    refine WL_q rfl (q_build bt_141 (.cons lk_const rfl (.cons (lk0) rfl .nil)) (.cons rfl rfl (Nat.le_of_ble_eq_true rfl) (.cons (.here) .nil) (.cons rfl rfl (Nat.le_of_ble_eq_true rfl) (.cons (.next <| .here) .nil) .nil))) ?_
    refine WL_q rfl (q_makeFunc (.cons (lk2 rfl <| lk1 rfl <| lk0) (.cons (lk4 rfl <| lk2 rfl <| lk_off rfl <| lk8 rfl <| lk1 rfl <| lk0) .nil))) ?_
    refine WL_q rfl (q_build bt_141 (.cons lk_const rfl (.cons (lk0) rfl .nil)) (.cons rfl rfl (Nat.le_of_ble_eq_true rfl) (.cons (.here) .nil) (.cons rfl rfl (Nat.le_of_ble_eq_true rfl) (.cons (.next <| .here) .nil) .nil))) ?_
    refine WL_q rfl (q_makeFunc (.cons (lk8 rfl <| lk_off rfl <| lk4 rfl <| lk0) (.cons (lk4 rfl <| lk1 rfl <| lk0) .nil))) ?_
    refine WL_q rfl (q_build bt_141 (.cons lk_const rfl (.cons (lk0) rfl .nil)) (.cons rfl rfl (Nat.le_of_ble_eq_true rfl) (.cons (.here) .nil) (.cons rfl rfl (Nat.le_of_ble_eq_true rfl) (.cons (.next <| .here) .nil) .nil))) ?_
    refine WL_x rfl (x_buildN (offs := [(0, 2), (2, 2), (4, 2)]) (zl := [.int .i64 0, .nilFunc, .int .i64 0, .nilFunc, .int .i64 0, .nilFunc]) sl_112 zr_141 rfl (.cons (lk4 rfl <| lk0) rfl (.cons (lk2 rfl <| lk0) rfl (.cons (lk0) rfl .nil))) (by intro i p h; rcases i with _ | _ | _ | i <;> simp at h <;> subst h <;> rfl) (.cons rfl rfl (Nat.le_of_ble_eq_true rfl) (.cons (.here) (.cons (.next <| .here) .nil)) (.cons rfl rfl (Nat.le_of_ble_eq_true rfl) (.cons (.next <| .next <| .here) (.cons (.next <| .next <| .next <| .here) .nil)) (.cons rfl rfl (Nat.le_of_ble_eq_true rfl) (.cons (.next <| .next <| .next <| .next <| .here) (.cons (.next <| .next <| .next <| .next <| .next <| .here) .nil)) .nil))) (by decide) (by decide) fun b9 hb9 nb9 => ?_)
    refine WL_q rfl (q_nilCheck (lk4 rfl <| lk2 rfl <| lk1 rfl <| lk0)) ?_
    refine WL_q rfl (q_fieldAddrB fd_114_2 (lk0)) ?_
    refine WL_x0 (x_storeK sz_112 (lk0) rfl (lk2 rfl <| lk0) (i := 3) rfl (by rw [roomCells_length lights_length]; omega) rfl (.next <| .next <| .next <| .here) ?_)
    refine WL_nil ?_
    refine then_n ?_
    refine WC_seq ?_
    rw [roomCells_end]
    refine WC_freeze (i := 0) rfl hb9 (.here) fun F10 hF11 hz50 => ?_
    replace hr := hr.mono hF11
    refine WC_freeze (i := 0) rfl hb8 (.here) fun F12 hF13 hz8 => ?_
    replace hr := hr.mono hF13
    replace hz50 := hF13 _ _ hz50
    refine WC_freeze (i := 0) rfl hb3 (.here) fun F14 hF15 hz3 => ?_
    replace hr := hr.mono hF15
    replace hz50 := hF15 _ _ hz50
    replace hz8 := hF15 _ _ hz8
    refine WC_freeze (i := 0) rfl hb2 (.here) fun F16 hF17 hz11 => ?_
    replace hr := hr.mono hF17
    replace hz50 := hF17 _ _ hz50
    replace hz8 := hF17 _ _ hz8
    replace hz3 := hF17 _ _ hz3
    refine WC_freeze (i := 0) rfl hb1 (.here) fun F18 hF19 hz1 => ?_
    replace hr := hr.mono hF19
    replace hz50 := hF19 _ _ hz50
    replace hz8 := hF19 _ _ hz8
    replace hz3 := hF19 _ _ hz3
    replace hz11 := hF19 _ _ hz11
    refine WC_reg fun ds => ?_
    refine WL_q rfl (q_load1 one_98 (lk8 rfl <| lk4 rfl <| lk1 rfl <| lk_off rfl <| lk4 rfl <| lk0) (CellF.own hz3 rfl).cell) ?_
    refine WL_q rfl (q_assign (lk0)) ?_
    refine WL_nil ?_
    refine then_n ?_
    refine WC_ret ?_
    refine post_ret rfl (.tmp (lk0) .nil) ?_
    exact ⟨_, _, _, _, _, _, _, _, _, rfl, hr, hz11, hz1, hz8, hz3, rules_box hz50⟩
end Go.Proofs.Ytbcjfkcpfjccdaa
namespace Go.Proofs.Ytbcjfkcpfjccdaa
open Go.RowKit
theorem bd_15 : Body Try.prog 15 := body_of (by kernel_rfl)
theorem bd_57 : Body Try.prog 57 := body_of (by kernel_rfl)
theorem bd_58 : Body Try.prog 58 := body_of (by kernel_rfl)
theorem bd_78 : Body Try.prog 78 := body_of (by kernel_rfl)
set_option maxRecDepth 100000 in
theorem enter_ok {F : Heap} {vb vr vs vq : Value} {r : Room} (hr : RoomR F vb vr vs vq r) {v : Value} {xs : List Int} (hx : Ints F v xs) : Ok Try.prog 57 [.agg #[vb, vr, vs, vq], v].toArray F fun u F' => (someErr r xs = 0 → ∃ p, u = .tuple #[p, .int .i64 0] ∧ Looked num F' p r) ∧ (someErr r xs ≠ 0 → u = .tuple #[.pointer none, .int .i64 (someErr r xs)]) := by
  refine Ok.intro Try.func57 rfl Try.ntmps57 rfl fun w0 => ?_
  have hL1 := hr.reqs.plain.lt
  have hlen := hx.plain.lt
  by_cases h0 : (check r).2.2 = 0
  ·
   refine WC_seq ?_
   refine WC_reg fun ds => ?_
   refine WL_x rfl (x_box (lk_entry rfl) rfl fun b1 hb1 nb1 => ?_)
   refine WL_q rfl (q_assign lk_const) ?_
   refine WL_q rfl (q_assign lk_const) ?_
   refine WL_nil ?_
   refine then_n ?_
   refine WC_seq ?_
   refine WC_seq ?_
   refine WC_reg fun ds => ?_
   refine WL_q rfl (q_loadN agg_27 (lk2 rfl <| lk0) rfl rfl (own_whole 0 rfl)) ?_
   refine WL_c rfl (q_call bd_15 lk_func (.cons (lk0) .nil) (check_ok hr) (fun _ _ h => h)) ?_
   refine WL_q rfl (q_move (lk0)) ?_
   refine WL_q rfl (q_extract (lk0) rfl) ?_
   refine WL_q rfl (q_extract (lk1 rfl <| lk0) rfl) ?_
   refine WL_q rfl (q_extract (lk2 rfl <| lk0) rfl) ?_
   refine WL_q rfl (q_assign (lk2 rfl <| lk0)) ?_
   refine WL_q rfl (q_assign (lk2 rfl <| lk0)) ?_
   refine WL_q rfl (q_assign (lk2 rfl <| lk0)) ?_
   refine WL_nil ?_
   refine then_n ?_
   refine WC_seq ?_
   refine WC_reg fun ds => ?_
   refine WL_q rfl (q_move (lk0)) ?_
   refine WL_q rfl (q_neq (lk0) lk_const) ?_
   refine WL_nil ?_
   refine then_n ?_
   refine WC_if_false (lk0) (by simpa using h0) ?_
   by_cases hany : (xs.any fun z => !(inB 0 (r.reqs.length - 1) z)) = true
   ·
    refine WC_skip ?_
    refine then_n ?_
    refine WC_seq ?_
    refine WC_seq ?_
    refine WC_reg fun ds => ?_
    refine WL_q rfl (q_fieldAddrB fd_27_3 (lk8 rfl <| lk4 rfl <| lk1 rfl <| lk0)) ?_
    refine WL_q rfl (q_load1 one_25 (lk0) (Cell.own 0 rfl rfl)) ?_
    refine WL_q rfl (q_lenP sl_25 (lk0) hr.reqs.plain) ?_
    refine WL_q rfl (q_sub (lk0) lk_const rfl (by omega) (by omega)) ?_
    refine WL_q rfl (q_move (lk16 rfl <| lk2 rfl <| lk_entry rfl)) ?_
    refine WL_c rfl (q_call bd_51 lk_func (.cons lk_const (.cons (lk1 rfl <| lk0) (.cons (lk0) .nil))) (outside_ok _ _ hx) (fun _ _ h => h)) ?_
    refine WL_nil ?_
    refine then_n ?_
    refine WC_if_true (lk0) hany ?_
    have herr := someErr_any h0 hany
    refine WC_seq ?_
    refine WC_reg fun ds => ?_
    refine WL_q rfl (q_assign lk_const) ?_
    refine WL_q rfl (q_assign lk_const) ?_
    refine WL_nil ?_
    refine then_n ?_
    refine WC_ret ?_
    refine then_r ?_
    refine post_ret rfl (.tmp (lk1 rfl <| lk0) (.tmp (lk0) .nil)) ?_
    refine ⟨fun h => absurd h (by rw [herr]; decide), fun _ => ?_⟩
    rw [herr]; rfl
   ·
    replace hany : (xs.any fun z => !(inB 0 (r.reqs.length - 1) z)) = false := by simpa using hany
    refine WC_skip ?_
    refine then_n ?_
    refine WC_seq ?_
    refine WC_seq ?_
    refine WC_reg fun ds => ?_
    refine WL_q rfl (q_fieldAddrB fd_27_3 (lk8 rfl <| lk4 rfl <| lk1 rfl <| lk0)) ?_
    refine WL_q rfl (q_load1 one_25 (lk0) (Cell.own 0 rfl rfl)) ?_
    refine WL_q rfl (q_lenP sl_25 (lk0) hr.reqs.plain) ?_
    refine WL_q rfl (q_sub (lk0) lk_const rfl (by omega) (by omega)) ?_
    refine WL_q rfl (q_move (lk16 rfl <| lk2 rfl <| lk_entry rfl)) ?_
    refine WL_c rfl (q_call bd_51 lk_func (.cons lk_const (.cons (lk1 rfl <| lk0) (.cons (lk0) .nil))) (outside_ok _ _ hx) (fun _ _ h => h)) ?_
    refine WL_nil ?_
    refine then_n ?_
    refine WC_if_false (lk0) hany ?_
    refine WC_skip ?_
    refine then_n ?_
    refine WC_seq ?_
    refine WC_seq ?_
    refine WC_reg fun ds => ?_
    refine WL_q rfl (q_assign lk_const) ?_
    refine WL_nil ?_
    refine then_n ?_
    refine WC_block ?_
    refine WC_loopN [4, 5, 9, 25, 26, 27, 28, 29, 30, 31, 32, 33, 34, 35, 36, 37, 38, 39, 40] (fun m e σ => ∃ k : Nat, 0 < k ∧ m + k = xs.length + 1 ∧ e 9 = .int .i64 k ∧ σ = ⟨F, [(b1, bx 27 [vb, vr, vs, vq])]⟩ ∧ (∀ j (hj : j < xs.length), 0 < j → j < k → ¬ xs[j] ≤ xs[j - 1])) (xs.length) ?_ ?_
    · exact ⟨1, by omega, by omega, (lk0), rfl, fun j hj h1 h2 => absurd h2 (by omega)⟩
    ·
     rintro m e _ ⟨k, hk0, hm, hs9, rfl, hno⟩
     by_cases hlt : k < xs.length
     ·
      refine WC_seq ?_
      refine WC_seq ?_
      refine WC_reg fun ds => ?_
      refine WL_q rfl (q_move (lk_in rfl hs9)) ?_
      refine WL_q rfl (q_move (lk1 rfl <| lk_off rfl <| lk16 rfl <| lk4 rfl <| lk1 rfl <| lk_entry rfl)) ?_
      refine WL_q rfl (q_lenP sl_29 (lk0) hx.plain) ?_
      refine WL_q rfl (q_lss (lk2 rfl <| lk0) (lk0)) ?_
      refine WL_nil ?_
      refine then_n ?_
      refine WC_if_true (lk0) (by first | rfl | exact decide_eq_true (by omega)) ?_
      by_cases hle : xs[k] ≤ xs[k - 1]
      ·
       refine WC_skip ?_
       refine then_n ?_
       refine WC_seq ?_
       refine WC_block ?_
       refine WC_seq ?_
       refine WC_draw (.inl rfl) (fun _ _ h => h) (by kernel_rfl) (by kernel_rfl) fun ds => ?_
       refine WQ_q rfl (q_move (lk4 rfl <| lk_off rfl <| lk16 rfl <| lk4 rfl <| lk1 rfl <| lk_entry rfl)) ?_
       refine WQ_q rfl (q_move (lk4 rfl <| lk1 rfl <| lk_in rfl hs9)) ?_
       refine WQ_q rfl (q_index  sl_29 (lk1 rfl <| lk0) hx.plain (lk0) rfl hlt) ?_
       refine WQ_q rfl (q_load1 one_3 (lk0) (hx.cell1 hlt rfl)) ?_
       refine WQ_q rfl (q_move (lk8 rfl <| lk_off rfl <| lk16 rfl <| lk4 rfl <| lk1 rfl <| lk_entry rfl)) ?_
       refine WQ_q rfl (q_move (lk8 rfl <| lk1 rfl <| lk_in rfl hs9)) ?_
       refine WQ_q rfl (q_sub (lk0) lk_const rfl (by omega) (by omega)) ?_
       refine WQ_q rfl (q_index (k := k - 1) sl_29 (lk2 rfl <| lk0) hx.plain (lk0) (by omega) (by omega)) ?_
       refine WQ_q rfl (q_load1 one_3 (lk0) (hx.cell1 (by omega) rfl)) ?_
       refine WQ_q rfl (q_leq (lk4 rfl <| lk1 rfl <| lk0) (lk0)) ?_
       refine WQ_nil ?_
       refine then_n ?_
       refine WC_if_true (lk0) (by first | rfl | exact decide_eq_true (by omega)) ?_
       have herr := someErr_asc h0 hany hk0 hlt hle
       refine WC_seq ?_
       refine WC_reg fun ds => ?_
       refine WL_q rfl (q_assign lk_const) ?_
       refine WL_q rfl (q_assign lk_const) ?_
       refine WL_nil ?_
       refine then_n ?_
       refine WC_ret ?_
       refine block_r (then_r (then_r (block_r (then_r ?_))))
       refine post_ret rfl (.tmp (lk1 rfl <| lk0) (.tmp (lk0) .nil)) ?_
       refine ⟨fun h => absurd h (by rw [herr]; decide), fun _ => ?_⟩
       rw [herr]; rfl
      ·
       refine WC_skip ?_
       refine then_n ?_
       refine WC_seq ?_
       refine WC_block ?_
       refine WC_seq ?_
       refine WC_draw (.inl rfl) (fun _ _ h => h) (by kernel_rfl) (by kernel_rfl) fun ds => ?_
       refine WQ_q rfl (q_move (lk4 rfl <| lk_off rfl <| lk16 rfl <| lk4 rfl <| lk1 rfl <| lk_entry rfl)) ?_
       refine WQ_q rfl (q_move (lk4 rfl <| lk1 rfl <| lk_in rfl hs9)) ?_
       refine WQ_q rfl (q_index  sl_29 (lk1 rfl <| lk0) hx.plain (lk0) rfl hlt) ?_
       refine WQ_q rfl (q_load1 one_3 (lk0) (hx.cell1 hlt rfl)) ?_
       refine WQ_q rfl (q_move (lk8 rfl <| lk_off rfl <| lk16 rfl <| lk4 rfl <| lk1 rfl <| lk_entry rfl)) ?_
       refine WQ_q rfl (q_move (lk8 rfl <| lk1 rfl <| lk_in rfl hs9)) ?_
       refine WQ_q rfl (q_sub (lk0) lk_const rfl (by omega) (by omega)) ?_
       refine WQ_q rfl (q_index (k := k - 1) sl_29 (lk2 rfl <| lk0) hx.plain (lk0) (by omega) (by omega)) ?_
       refine WQ_q rfl (q_load1 one_3 (lk0) (hx.cell1 (by omega) rfl)) ?_
       refine WQ_q rfl (q_leq (lk4 rfl <| lk1 rfl <| lk0) (lk0)) ?_
       refine WQ_nil ?_
       refine then_n ?_
       refine WC_if_false (lk0) (by first | rfl | exact decide_eq_false (by omega)) ?_
       refine WC_skip ?_
       refine block_n (then_n ?_)
       refine WC_reg fun ds => ?_
       refine WL_q rfl (q_move (lk8 rfl <| lk4 rfl <| lk2 rfl <| lk_in rfl hs9)) ?_
       refine WL_q rfl (q_add (lk0) lk_const rfl (by omega) (by omega)) ?_
       refine WL_q rfl (q_assign (lk0)) ?_
       refine WL_nil ?_
       refine then_n ⟨_, m - 1, Off.eq (ou16 rfl <| ou1 rfl <| off_over), by omega, ?_⟩
       refine ⟨k + 1, by omega, by omega, (lk0), rfl, fun j hj hj0 hjk => ?_⟩
       rcases Nat.lt_succ_iff_lt_or_eq.1 hjk with hjk | rfl
       · exact hno j hj hj0 hjk
       · exact hle
     ·
      refine WC_seq ?_
      refine WC_seq ?_
      refine WC_reg fun ds => ?_
      refine WL_q rfl (q_move (lk_in rfl hs9)) ?_
      refine WL_q rfl (q_move (lk1 rfl <| lk_off rfl <| lk16 rfl <| lk4 rfl <| lk1 rfl <| lk_entry rfl)) ?_
      refine WL_q rfl (q_lenP sl_29 (lk0) hx.plain) ?_
      refine WL_q rfl (q_lss (lk2 rfl <| lk0) (lk0)) ?_
      refine WL_nil ?_
      refine then_n ?_
      refine WC_if_false (lk0) (by first | rfl | exact decide_eq_false (by omega)) ?_
      have herr := someErr_ok h0 hany fun j hj hj0 => hno j hj hj0 (by omega)
      refine WC_exit ?_
      refine then_x (then_x (exit_here ?_))
      refine then_n ?_
      refine WC_seq ?_
      refine WC_reg fun ds => ?_
      refine WL_q rfl (q_loadN agg_27 (lk4 rfl <| lk_off rfl <| lk16 rfl <| lk4 rfl <| lk0) rfl rfl (own_whole 0 rfl)) ?_
      refine WL_x rfl (x_call bd_78 lk_func (.cons (lk0) .nil) (look_ok hr (valid_of h0)) fun v3 F4 hr5 hF6 => ?_)
      replace hr := hr.mono hF6
      replace hx := hx.mono hF6
      have hlk := hr5
      refine WL_q rfl (q_assign (lk0)) ?_
      refine WL_q rfl (q_assign lk_const) ?_
      refine WL_nil ?_
      refine then_n ?_
      refine WC_ret ?_
      refine post_ret rfl (.tmp (lk1 rfl <| lk0) (.tmp (lk0) .nil)) ?_
      exact ⟨fun _ => ⟨_, rfl, hlk⟩, fun h => absurd herr h⟩
  ·
   refine WC_seq ?_
   refine WC_reg fun ds => ?_
   refine WL_x rfl (x_box (lk_entry rfl) rfl fun b7 hb7 nb7 => ?_)
   refine WL_q rfl (q_assign lk_const) ?_
   refine WL_q rfl (q_assign lk_const) ?_
   refine WL_nil ?_
   refine then_n ?_
   refine WC_seq ?_
   refine WC_seq ?_
   refine WC_reg fun ds => ?_
   refine WL_q rfl (q_loadN agg_27 (lk2 rfl <| lk0) rfl rfl (own_whole 0 rfl)) ?_
   refine WL_c rfl (q_call bd_15 lk_func (.cons (lk0) .nil) (check_ok hr) (fun _ _ h => h)) ?_
   refine WL_q rfl (q_move (lk0)) ?_
   refine WL_q rfl (q_extract (lk0) rfl) ?_
   refine WL_q rfl (q_extract (lk1 rfl <| lk0) rfl) ?_
   refine WL_q rfl (q_extract (lk2 rfl <| lk0) rfl) ?_
   refine WL_q rfl (q_assign (lk2 rfl <| lk0)) ?_
   refine WL_q rfl (q_assign (lk2 rfl <| lk0)) ?_
   refine WL_q rfl (q_assign (lk2 rfl <| lk0)) ?_
   refine WL_nil ?_
   refine then_n ?_
   refine WC_seq ?_
   refine WC_reg fun ds => ?_
   refine WL_q rfl (q_move (lk0)) ?_
   refine WL_q rfl (q_neq (lk0) lk_const) ?_
   refine WL_nil ?_
   refine then_n ?_
   refine WC_if_true (lk0) (by simpa using h0) ?_
   have herr := someErr_chk (xs := xs) h0
   refine WC_seq ?_
   refine WC_reg fun ds => ?_
   refine WL_q rfl (q_move (lk2 rfl <| lk0)) ?_
   refine WL_q rfl (q_assign lk_const) ?_
   refine WL_q rfl (q_assign (lk1 rfl <| lk0)) ?_
   refine WL_nil ?_
   refine then_n ?_
   refine WC_ret ?_
   refine then_r ?_
   refine post_ret rfl (.tmp (lk1 rfl <| lk0) (.tmp (lk0) .nil)) ?_
   refine ⟨fun h => absurd (herr.symm.trans h) h0, fun _ => ?_⟩
   rw [herr]; rfl
theorem enter_good {F : Heap} {vb vr vs vq : Value} {r : Room} (hr : RoomR F vb vr vs vq r) {v : Value} {xs : List Int} (hx : Ints F v xs) (h0 : someErr r xs = 0) : Ok Try.prog 57 [.agg #[vb, vr, vs, vq], v].toArray F fun u F' => ∃ p, u = .tuple #[p, .int .i64 0] ∧ Looked num F' p r := (enter_ok hr hx).mono fun u F' _ h => h.1 h0
theorem enter_bad {F : Heap} {vb vr vs vq : Value} {r : Room} (hr : RoomR F vb vr vs vq r) {v : Value} {xs : List Int} (hx : Ints F v xs) (h0 : someErr r xs ≠ 0) : Ok Try.prog 57 [.agg #[vb, vr, vs, vq], v].toArray F fun u _ => u = .tuple #[.pointer none, .int .i64 (someErr r xs)] := (enter_ok hr hx).mono fun u F' _ h => h.2 h0
set_option maxRecDepth 100000 in
theorem why_top_ok {F : Heap} {vb vr vs vq : Value} {r : Room} (hr : RoomR F vb vr vs vq r) (ax sx : Int) : Ok Try.prog 17 [.agg #[vb, vr, vs, vq], .int .i64 ax, .int .i64 sx].toArray F fun v _ => v = pairV (whyE r ax sx) := by
  refine Ok.intro Try.func17 rfl Try.ntmps17 rfl fun w0 => ?_
  have hL1 := hr.reqs.plain.lt
  have hL2 := hr.seats.plain.lt
  by_cases h0 : (check r).2.2 = 0
  ·
   refine WC_seq ?_
   refine WC_reg fun ds => ?_
   refine WL_x rfl (x_box (lk_entry rfl) rfl fun b1 hb1 nb1 => ?_)
   refine WL_q rfl (q_assign lk_const) ?_
   refine WL_q rfl (q_assign lk_const) ?_
   refine WL_nil ?_
   refine then_n ?_
   refine WC_seq ?_
   refine WC_reg fun ds => ?_
   refine WL_q rfl (q_loadN agg_27 (lk2 rfl <| lk0) rfl rfl (own_whole 0 rfl)) ?_
   refine WL_x rfl (x_build sl_29 zr_3 rfl .nil rfl rfl (by decide) (by simp [Value.oneCell']) fun b2 hb2 nb2 => ?_)
   refine WL_freeze (i := 0) rfl hb2 .here fun F3 hF4 hz5 => ?_
   replace hr := hr.mono hF4
   have hsl6 := ints_box0 hz5
   refine WL_x rfl (x_call bd_57 lk_func (.cons (lk1 rfl <| lk0) (.cons (lk0) .nil)) (enter_good hr hsl6 (someErr_nil.trans h0)) fun v7 F8 hr9 hF10 => ?_)
   replace hr := hr.mono hF10
   replace hsl6 := hsl6.mono hF10
   obtain ⟨p, rfl, hlk⟩ := hr9
   obtain ⟨b, c1, c8, c3, wb, wr, ws, wq, wl, rfl, hX⟩ := hlk
   refine WL_q rfl (q_move (lk0)) ?_
   refine WL_q rfl (q_extract (lk0) rfl) ?_
   refine WL_q rfl (q_extract (lk1 rfl <| lk0) rfl) ?_
   refine WL_q rfl (q_assign (lk1 rfl <| lk0)) ?_
   refine WL_q rfl (q_assign (lk1 rfl <| lk0)) ?_
   refine WL_nil ?_
   refine then_n ?_
   refine WC_seq ?_
   refine WC_block ?_
   refine WC_seq ?_
   refine WC_reg fun ds => ?_
   refine WL_q rfl (q_move (lk0)) ?_
   refine WL_q rfl (q_neq (lk0) lk_const) ?_
   refine WL_q rfl (q_assign (lk0)) ?_
   refine WL_nil ?_
   refine then_n ?_
   refine WC_if_false (lk0) (by decide) ?_
   by_cases h1 : inB 0 (r.reqs.length - 1) ax = true
   ·
    refine WC_seq ?_
    refine WC_reg fun ds => ?_
    refine WL_q rfl (q_fieldAddrB fd_27_3 (lk8 rfl <| lk4 rfl <| lk1 rfl <| lk0)) ?_
    refine WL_q rfl (q_load1 one_25 (lk0) (Cell.own 0 rfl rfl)) ?_
    refine WL_q rfl (q_lenP sl_25 (lk0) hr.reqs.plain) ?_
    refine WL_q rfl (q_sub (lk0) lk_const rfl (by omega) (by omega)) ?_
    refine WL_q rfl (q_move (lk16 rfl <| lk2 rfl <| lk_entry rfl)) ?_
    refine WL_x rfl (x_build sl_29 zr_3 rfl (.cons (lk0) .nil) rfl rfl (by decide) (by simp [Value.oneCell']) fun b11 hb11 nb11 => ?_)
    refine WL_freeze (i := 0) rfl hb11 .here fun F12 hF13 hz14 => ?_
    replace hr := hr.mono hF13
    replace hsl6 := hsl6.mono hF13
    replace hX := hX.mono hF13
    have hsl15 := ints_box1 hz14
    refine WL_c rfl (q_call bd_51 lk_func (.cons lk_const (.cons (lk2 rfl <| lk0) (.cons (lk0) .nil))) (outside_ok _ _ hsl15) (fun _ _ h => h)) ?_
    refine WL_q rfl (q_move (lk0)) ?_
    refine WL_want rfl rfl (lk0) (by simp [h1]) ?_
    refine WL_q rfl (q_fieldAddrB fd_27_2 (lk16 rfl <| lk4 rfl <| lk1 rfl <| lk0)) ?_
    refine WL_want rfl rfl (lk1 rfl <| lk0) (by simp [h1]) ?_
    refine WL_q rfl (q_load1 one_24 (lk0) (Cell.own 0 rfl rfl)) ?_
    refine WL_want rfl rfl (lk2 rfl <| lk0) (by simp [h1]) ?_
    refine WL_q rfl (q_lenP sl_24 (lk0) hr.seats.plain) ?_
    refine WL_want rfl rfl (lk2 rfl <| lk1 rfl <| lk0) (by simp [h1]) ?_
    refine WL_q rfl (q_sub (lk0) lk_const rfl (by omega) (by omega)) ?_
    refine WL_want rfl rfl (lk4 rfl <| lk0) (by simp [h1]) ?_
    refine WL_q rfl (q_move (lk16 rfl <| lk8 rfl <| lk2 rfl <| lk_entry rfl)) ?_
    refine WL_want rfl rfl (lk4 rfl <| lk1 rfl <| lk0) (by simp [h1]) ?_
    refine WL_x rfl (x_build sl_29 zr_3 rfl (.cons (lk0) .nil) rfl rfl (by decide) (by simp [Value.oneCell']) fun b16 hb16 nb16 => ?_)
    refine WL_freeze (i := 0) rfl hb16 .here fun F17 hF18 hz19 => ?_
    replace hr := hr.mono hF18
    replace hsl6 := hsl6.mono hF18
    replace hX := hX.mono hF18
    replace hsl15 := hsl15.mono hF18
    have hsl20 := ints_box1 hz19
    refine WL_want rfl rfl (lk4 rfl <| lk2 rfl <| lk0) (by simp [h1]) ?_
    refine WL_c rfl (q_call bd_51 lk_func (.cons lk_const (.cons (lk2 rfl <| lk0) (.cons (lk0) .nil))) (outside_ok _ _ hsl20) (fun _ _ h => h)) ?_
    refine WL_q rfl (q_pick_false (lk4 rfl <| lk2 rfl <| lk1 rfl <| lk0) (by simp [h1]) (lk0)) ?_
    refine WL_q rfl (q_assign (lk0)) ?_
    refine WL_nil ?_
    refine then_n ?_
    by_cases h2 : inB 0 (r.seats.length - 1) sx = true
    ·
     refine WC_if_false (lk0) (by simp [h2]) ?_
     obtain ⟨i, rfl, hi⟩ := inB_nat h1
     obtain ⟨s, rfl, hs⟩ := inB_nat h2
     refine WC_skip ?_
     refine block_n (then_n ?_)
     refine WC_seq ?_
     refine WC_reg fun ds => ?_
     refine WL_q rfl (q_move (lk16 rfl <| lk4 rfl <| lk1 rfl <| lk0)) ?_
     refine WL_q rfl (q_move (lk32 rfl <| lk_entry rfl)) ?_
     refine WL_q rfl (q_move (lk32 rfl <| lk1 rfl <| lk_entry rfl)) ?_
     refine WL_c rfl (q_call bd_58 lk_func (.cons (lk2 rfl <| lk0) (.cons (lk1 rfl <| lk0) (.cons (lk0) .nil))) (why_ok hX (valid_of h0) hi hs) (fun _ _ h => h)) ?_
     refine WL_q rfl (q_assign (lk0)) ?_
     refine WL_q rfl (q_assign lk_const) ?_
     refine WL_nil ?_
     refine then_n ?_
     refine WC_ret ?_
     refine post_ret rfl (.tmp (lk1 rfl <| lk0) (.tmp (lk0) .nil)) ?_
     show _ = pairV (whyE r _ _)
     unfold whyE; rw [if_neg (by simpa using h0), h1, h2]; rfl
    ·
     replace h2 : inB 0 (r.seats.length - 1) sx = false := by simpa using h2
     refine WC_if_true (lk0) (by simp [h2]) ?_
     refine WC_seq ?_
     refine WC_reg fun ds => ?_
     refine WL_q rfl (q_assign lk_const) ?_
     refine WL_q rfl (q_assign lk_const) ?_
     refine WL_nil ?_
     refine then_n ?_
     refine WC_ret ?_
     refine block_r (then_r ?_)
     refine post_ret rfl (.tmp (lk1 rfl <| lk0) (.tmp (lk0) .nil)) ?_
     show _ = pairV (whyE r _ _)
     unfold whyE; rw [if_neg (by simpa using h0), h1, h2]; rfl
   ·
    replace h1 : inB 0 (r.reqs.length - 1) ax = false := by simpa using h1
    refine WC_seq ?_
    refine WC_reg fun ds => ?_
    refine WL_q rfl (q_fieldAddrB fd_27_3 (lk8 rfl <| lk4 rfl <| lk1 rfl <| lk0)) ?_
    refine WL_q rfl (q_load1 one_25 (lk0) (Cell.own 0 rfl rfl)) ?_
    refine WL_q rfl (q_lenP sl_25 (lk0) hr.reqs.plain) ?_
    refine WL_q rfl (q_sub (lk0) lk_const rfl (by omega) (by omega)) ?_
    refine WL_q rfl (q_move (lk16 rfl <| lk2 rfl <| lk_entry rfl)) ?_
    refine WL_x rfl (x_build sl_29 zr_3 rfl (.cons (lk0) .nil) rfl rfl (by decide) (by simp [Value.oneCell']) fun b21 hb21 nb21 => ?_)
    refine WL_freeze (i := 0) rfl hb21 .here fun F22 hF23 hz24 => ?_
    replace hr := hr.mono hF23
    replace hsl6 := hsl6.mono hF23
    replace hX := hX.mono hF23
    have hsl25 := ints_box1 hz24
    refine WL_c rfl (q_call bd_51 lk_func (.cons lk_const (.cons (lk2 rfl <| lk0) (.cons (lk0) .nil))) (outside_ok _ _ hsl25) (fun _ _ h => h)) ?_
    refine WL_q rfl (q_move (lk0)) ?_
    refine WL_pass rfl rfl (lk0) (.inl (congrArg Value.bool (by simp [h1]))) rfl ?_
    refine WL_pass rfl rfl (lk1 rfl <| lk0) (.inl (congrArg Value.bool (by simp [h1]))) rfl ?_
    refine WL_pass rfl rfl (lk2 rfl <| lk0) (.inl (congrArg Value.bool (by simp [h1]))) rfl ?_
    refine WL_pass rfl rfl (lk2 rfl <| lk1 rfl <| lk0) (.inl (congrArg Value.bool (by simp [h1]))) rfl ?_
    refine WL_pass rfl rfl (lk4 rfl <| lk0) (.inl (congrArg Value.bool (by simp [h1]))) rfl ?_
    refine WL_pass rfl rfl (lk4 rfl <| lk1 rfl <| lk0) (.inl (congrArg Value.bool (by simp [h1]))) rfl ?_
    refine WL_pass rfl rfl (lk4 rfl <| lk2 rfl <| lk0) (.inl (congrArg Value.bool (by simp [h1]))) rfl ?_
    refine WL_q rfl (q_pick_true (lk4 rfl <| lk2 rfl <| lk1 rfl <| lk0) (by simp [h1]) lk_const) ?_
    refine WL_q rfl (q_assign (lk0)) ?_
    refine WL_nil ?_
    refine then_n ?_
    refine WC_if_true (lk0) (by first | rfl | simp [h1]) ?_
    refine WC_seq ?_
    refine WC_reg fun ds => ?_
    refine WL_q rfl (q_assign lk_const) ?_
    refine WL_q rfl (q_assign lk_const) ?_
    refine WL_nil ?_
    refine then_n ?_
    refine WC_ret ?_
    refine block_r (then_r ?_)
    refine post_ret rfl (.tmp (lk1 rfl <| lk0) (.tmp (lk0) .nil)) ?_
    show _ = pairV (whyE r _ _)
    unfold whyE; rw [if_neg (by simpa using h0), h1]; rfl
  ·
   refine WC_seq ?_
   refine WC_reg fun ds => ?_
   refine WL_x rfl (x_box (lk_entry rfl) rfl fun b26 hb26 nb26 => ?_)
   refine WL_q rfl (q_assign lk_const) ?_
   refine WL_q rfl (q_assign lk_const) ?_
   refine WL_nil ?_
   refine then_n ?_
   refine WC_seq ?_
   refine WC_reg fun ds => ?_
   refine WL_q rfl (q_loadN agg_27 (lk2 rfl <| lk0) rfl rfl (own_whole 0 rfl)) ?_
   refine WL_x rfl (x_build sl_29 zr_3 rfl .nil rfl rfl (by decide) (by simp [Value.oneCell']) fun b27 hb27 nb27 => ?_)
   refine WL_freeze (i := 0) rfl hb27 .here fun F28 hF29 hz30 => ?_
   replace hr := hr.mono hF29
   have hsl31 := ints_box0 hz30
   refine WL_c rfl (q_call bd_57 lk_func (.cons (lk1 rfl <| lk0) (.cons (lk0) .nil)) (enter_bad hr hsl31 (fun h => h0 (someErr_nil.symm.trans h))) (fun _ _ h => h)) ?_
   refine WL_q rfl (q_move (lk0)) ?_
   refine WL_q rfl (q_extract (lk0) rfl) ?_
   refine WL_q rfl (q_extract (lk1 rfl <| lk0) rfl) ?_
   refine WL_q rfl (q_assign (lk1 rfl <| lk0)) ?_
   refine WL_q rfl (q_assign (lk1 rfl <| lk0)) ?_
   refine WL_nil ?_
   refine then_n ?_
   refine WC_seq ?_
   refine WC_block ?_
   refine WC_seq ?_
   refine WC_reg fun ds => ?_
   refine WL_q rfl (q_move (lk0)) ?_
   refine WL_q rfl (q_neq (lk0) lk_const) ?_
   refine WL_q rfl (q_assign (lk0)) ?_
   refine WL_nil ?_
   refine then_n ?_
   refine WC_if_true (lk0) (by simpa [someErr_nil] using h0) ?_
   refine WC_seq ?_
   refine WC_reg fun ds => ?_
   refine WL_q rfl (q_move (lk2 rfl <| lk1 rfl <| lk0)) ?_
   refine WL_q rfl (q_assign lk_const) ?_
   refine WL_q rfl (q_assign (lk1 rfl <| lk0)) ?_
   refine WL_nil ?_
   refine then_n ?_
   refine WC_ret ?_
   refine block_r (then_r ?_)
   refine post_ret rfl (.tmp (lk1 rfl <| lk0) (.tmp (lk0) .nil)) ?_
   show _ = pairV (whyE r _ _)
   unfold whyE; rw [if_pos h0, ← someErr_nil]; rfl
end Go.Proofs.Ytbcjfkcpfjccdaa
namespace Go.Proofs.Ytbcjfkcpfjccdaa
open Go.RowKit
theorem el_3 : ElemT Try.prog 3 1 8 (.int .i64 0) := elemT_of (by kernel_rfl) rfl (by decide)
theorem one_29 : OneT Try.prog 29 := oneT_of (by kernel_rfl)
end Go.Proofs.Ytbcjfkcpfjccdaa
namespace Go.Proofs.Ytbcjfkcpfjccdaa
open Go.RowKit
def IsK (P : Program) (K : Nat) (v : Value) : Prop := ∃ l, keyOf P K v = some l
structure MapT (P : Program) (M K E : Nat) (z : Value) : Prop where
  under : P.underlying M = some (.map K E)
  zero : ZeroT P E z
  keyed : Go.Maps.Keyed P K
def entryO (p : (Value × Value) × Nat) : MapEntry := ⟨p.1.1, p.1.2, p.2⟩
/-- A map from which nothing was ever taken out. -/
def mapO (es : List (Value × Value)) : Obj := .map (es.zipIdx.map entryO).toArray es.length
theorem mapO_at {es : List (Value × Value)} {j : Nat} {e : MapEntry} (h : (es.zipIdx.map entryO)[j]? = some e) : ∃ p, es[j]? = some p ∧ e = ⟨p.1, p.2, j⟩ := by
  rw [List.getElem?_map, List.getElem?_zipIdx] at h
  cases hj : es[j]? with
  | none => rw [hj] at h; simp at h
  | some p => rw [hj] at h; simp [entryO] at h; exact ⟨p, rfl, h.symm⟩
theorem mapO_mem {es : List (Value × Value)} {e : MapEntry} (h : e ∈ es.zipIdx.map entryO) : ∃ j p, es[j]? = some p ∧ e = ⟨p.1, p.2, j⟩ := by
  obtain ⟨j, hj⟩ := List.getElem?_of_mem h
  obtain ⟨p, h1, h2⟩ := mapO_at hj
  exact ⟨j, p, h1, h2⟩
section
variable {P : Program} {n : Nat} {B : Base} {e : Env} {σ : St} {d : Option Nat} {ty : TypeId} {pos : String} {af : Array Edge} {gd : Option (Nat × Bool)}
theorem find_map {K : Nat} (hK : Go.Maps.Keyed P K) {k : Value} (hk : IsK P K k) {es : List (Value × Value)} (hall : ∀ p ∈ es, IsK P K p.1) (w : World) :
    ((Instr.findKey K k (es.zipIdx.map entryO)).run P w = .ok none w ∧ ∀ p ∈ es, p.1 ≠ k) ∨ ∃ j u, (Instr.findKey K k (es.zipIdx.map entryO)).run P w = .ok (some (j, u)) w ∧ es[j]? = some (k, u) := by
  obtain ⟨l, hl⟩ := hk
  rcases hK.find w hl (es.zipIdx.map entryO) (fun e he => by obtain ⟨j, p, h1, rfl⟩ := mapO_mem he; exact hall p (List.mem_of_getElem? h1)) with ⟨h1, h2⟩ | ⟨j, e0, h1, h2, h3⟩
  · refine .inl ⟨h1, fun p hp => ?_⟩
    obtain ⟨j, hj⟩ := List.getElem?_of_mem hp
    have : entryO (p, j) ∈ es.zipIdx.map entryO := by
      refine List.mem_map.2 ⟨(p, j), ?_, rfl⟩
      rw [List.mem_zipIdx_iff_getElem?]; exact hj
    exact h2 _ this
  · obtain ⟨p, q1, rfl⟩ := mapO_at h2
    refine .inr ⟨j, p.2, h1, ?_⟩
    rw [q1]
    simp only at h3
    rw [← h3]
theorem x_makeMap {M : Nat} {K : Value → St → Prop} (hn : ∀ b, B.w0.heap.size ≤ b → σ.F b = none → K (.map (some b)) ⟨σ.F, (b, mapO []) :: σ.H⟩) : OpX P n B ⟨d, .makeMap M none, ty, pos, af, gd⟩ e σ K :=
  .run fun w hw => ⟨_, _, _, .inl (by simp [execOp, Instr.makeMap]; rfl), hw.alloc (mapO []), hn _ hw.size hw.fresh⟩
theorem run_getMap {b : Nat} {es : List (Value × Value)} {w : World} (h : w.heap[b]? = some (mapO es)) : (Go.getObj b).run P w = .ok (mapO es) w := by
  simp only [Go.getObj, Sem.run, h]; simp [mapO, Sem.run]
theorem run_setMap {b : Nat} {es es' : List (Value × Value)} {w : World} (h : w.heap[b]? = some (mapO es)) : (Go.setObj b (mapO es')).run P w = .ok () { w with heap := w.heap.setIfInBounds b (mapO es') } := by
  simp only [Go.setObj, Sem.run, h]; simp [mapO, Sem.run]
theorem nodup_key {es : List (Value × Value)} (hd : (es.map (·.1)).Nodup) {i j : Nat} {k u v : Value} (hi : es[i]? = some (k, u)) (hj : es[j]? = some (k, v)) : i = j := by
  have h1 : (es.map (·.1))[i]? = some k := by simp [hi]
  have h2 : (es.map (·.1))[j]? = some k := by simp [hj]
  have hl : i < (es.map (·.1)).length := (List.getElem?_eq_some_iff.1 h1).1
  exact (List.getElem?_inj hl hd).1 (by rw [h1, h2])
theorem run_lookupN {M K E : Nat} {z k : Value} {b : Nat} {es : List (Value × Value)} (hT : MapT P M K E z) (hk : IsK P K k) (hall : ∀ p ∈ es, IsK P K p.1) (hno : ∀ p ∈ es, p.1 ≠ k) {w : World} (hb : w.heap[b]? = some (mapO es)) (ok : Bool) :
    (Instr.lookup M (.map (some b)) k ok).run P w = .ok (if ok then .tuple #[z, .bool false] else z) w := by
  obtain ⟨l, hl⟩ := hk
  have hc := fun em => hT.keyed.check w em hl
  have hb' := run_getMap (P := P) hb; unfold mapO at hb'
  have hf : (Instr.findKey K k (es.zipIdx.map entryO)).run P w = .ok none w := by
    rcases find_map hT.keyed ⟨l, hl⟩ hall w with ⟨h, -⟩ | ⟨j, u, -, h⟩
    · exact h
    · exact absurd rfl (hno _ (List.mem_of_getElem? h))
  cases ok <;> simp [Instr.lookup, run_under hT.under, hb', mapO, hc, hf, run_zero hT.zero]
theorem run_lookupS {M K E : Nat} {z k u : Value} {b j : Nat} {es : List (Value × Value)} (hT : MapT P M K E z) (hk : IsK P K k) (hall : ∀ p ∈ es, IsK P K p.1) (hd : (es.map (·.1)).Nodup) (hj : es[j]? = some (k, u)) {w : World} (hb : w.heap[b]? = some (mapO es)) (ok : Bool) :
    (Instr.lookup M (.map (some b)) k ok).run P w = .ok (if ok then .tuple #[u, .bool true] else u) w := by
  obtain ⟨l, hl⟩ := hk
  have hc := fun em => hT.keyed.check w em hl
  have hb' := run_getMap (P := P) hb; unfold mapO at hb'
  have hf : (Instr.findKey K k (es.zipIdx.map entryO)).run P w = .ok (some (j, u)) w := by
    rcases find_map hT.keyed ⟨l, hl⟩ hall w with ⟨-, h⟩ | ⟨i, v, h1, h2⟩
    · exact absurd rfl (h _ (List.mem_of_getElem? hj))
    · have := nodup_key hd h2 hj
      subst this
      rw [h2] at hj
      simp only [Option.some.injEq, Prod.mk.injEq] at hj
      rw [h1, hj.2]
  cases ok <;> simp [Instr.lookup, run_under hT.under, hb', mapO, hc, hf]
theorem q_lookupN {M K E i b : Nat} {x y : Operand} {z k : Value} {es : List (Value × Value)} (hT : MapT P M K E z) (hx : ev e x = .map (some b)) (hy : ev e y = k) (hi : σ.H[i]? = some (b, mapO es)) (hk : IsK P K k) (hall : ∀ p ∈ es, IsK P K p.1) (hno : ∀ p ∈ es, p.1 ≠ k) :
    OpR P B ⟨d, .lookup M x y false, ty, pos, af, gd⟩ e σ z := fun w hw => by
  have := run_lookupN hT hk hall hno (hw.own _ (List.mem_of_getElem? hi)).1 false
  simp [execOp, hx, hy, this]
theorem q_lookupS {M K E i b j : Nat} {x y : Operand} {z k u : Value} {es : List (Value × Value)} (hT : MapT P M K E z) (hx : ev e x = .map (some b)) (hy : ev e y = k) (hi : σ.H[i]? = some (b, mapO es)) (hk : IsK P K k) (hall : ∀ p ∈ es, IsK P K p.1) (hd : (es.map (·.1)).Nodup) (hj : es[j]? = some (k, u)) :
    OpR P B ⟨d, .lookup M x y false, ty, pos, af, gd⟩ e σ u := fun w hw => by
  have := run_lookupS hT hk hall hd hj (hw.own _ (List.mem_of_getElem? hi)).1 false
  simp [execOp, hx, hy, this]
theorem x_entryN {M K E i b : Nat} {x y : Operand} {z k : Value} {es : List (Value × Value)} {H' : List (Nat × Obj)} {Q : Value → St → Prop} (hT : MapT P M K E z) (hx : ev e x = .map (some b)) (hy : ev e y = k) (hi : σ.H[i]? = some (b, mapO es)) (hk : IsK P K k) (hall : ∀ p ∈ es, IsK P K p.1) (hno : ∀ p ∈ es, p.1 ≠ k)
    (hH : SetL σ.H i (b, mapO (es ++ [(k, z)])) H') (hn : Q (.tuple #[z, .int .i64 es.length]) ⟨σ.F, H'⟩) : OpX P n B ⟨d, .mapEntry M x y, ty, pos, af, gd⟩ e σ Q := .run fun w hw => by
  have hb := (hw.own _ (List.mem_of_getElem? hi)).1
  obtain ⟨l, hl⟩ := hk
  have hc := fun em => hT.keyed.check w em hl
  have hf : (Instr.findKey K k (es.zipIdx.map entryO)).run P w = .ok none w := by
    rcases find_map hT.keyed ⟨l, hl⟩ hall w with ⟨h, -⟩ | ⟨j, u, -, h⟩
    · exact h
    · exact absurd rfl (hno _ (List.mem_of_getElem? h))
  have hobj : Obj.map ((es.zipIdx.map entryO).toArray.push ⟨k, z, es.length⟩) (es.length + 1) = mapO (es ++ [(k, z)]) := by
    unfold mapO
    congr 1
    · simp [List.zipIdx_append, entryO]
    · simp
  rw [hH.eq.1] at hn
  refine ⟨_, _, _, .inl ?_, hw.setObj hi (o' := mapO (es ++ [(k, z)])), hn⟩
  have hg := run_getMap (P := P) hb
  have hs := run_setMap (P := P) (es' := (es ++ [(k, z)])) hb
  simp only [execOp, hx, hy, Instr.mapEntry, Sem.run_bind, run_under hT.under, Result.andThen_ok, hg]
  simp only [mapO, hc, Result.andThen_ok, List.toList_toArray, hf, run_zero hT.zero, Sem.run_bind]
  rw [hobj, hs]
  simp [goInt, mapO]
theorem x_entryS {M K E i b j : Nat} {x y : Operand} {z k u : Value} {es : List (Value × Value)} {Q : Value → St → Prop} (hT : MapT P M K E z) (hx : ev e x = .map (some b)) (hy : ev e y = k) (hi : σ.H[i]? = some (b, mapO es)) (hk : IsK P K k) (hall : ∀ p ∈ es, IsK P K p.1) (hd : (es.map (·.1)).Nodup) (hj : es[j]? = some (k, u))
    (hn : Q (.tuple #[u, .int .i64 j]) σ) : OpX P n B ⟨d, .mapEntry M x y, ty, pos, af, gd⟩ e σ Q := .run fun w hw => by
  have hb := (hw.own _ (List.mem_of_getElem? hi)).1
  obtain ⟨l, hl⟩ := hk
  have hc := fun em => hT.keyed.check w em hl
  have hf : (Instr.findKey K k (es.zipIdx.map entryO)).run P w = .ok (some (j, u)) w := by
    rcases find_map hT.keyed ⟨l, hl⟩ hall w with ⟨-, h⟩ | ⟨i, v, h1, h2⟩
    · exact absurd rfl (h _ (List.mem_of_getElem? hj))
    · have := nodup_key hd h2 hj
      subst this
      rw [h2] at hj
      simp only [Option.some.injEq, Prod.mk.injEq] at hj
      rw [h1, hj.2]
  have hat : (es.zipIdx.map entryO).toArray[j]? = some ⟨k, u, j⟩ := by
    simp [List.getElem?_zipIdx, hj, entryO]
  have hobj : Obj.map ((es.zipIdx.map entryO).toArray.modify j fun e => { e with key := k }) es.length = mapO es := by
    unfold mapO
    congr 1
    apply Array.ext'
    apply List.ext_getElem?
    intro m
    rw [Array.getElem?_toList, Array.getElem?_modify]
    by_cases hm : j = m
    · subst hm; rw [if_pos rfl, hat]; simp only [Option.map_some]; rw [← Array.getElem?_toList] at hat; exact hat.symm
    · rw [if_neg hm, Array.getElem?_toList]
  have hst := hT.keyed.stays w hl
  have hself : ({ w with heap := w.heap.setIfInBounds b (mapO es) } : World) = w := by
    have : w.heap.setIfInBounds b (mapO es) = w.heap := by
      apply Array.ext_getElem?
      intro m
      rw [Array.getElem?_setIfInBounds]
      split
      · rename_i hm; subst hm; rw [hb]; split
        · rfl
        · rename_i hm2; exact absurd (Array.getElem?_eq_some_iff.1 hb).1 hm2
      · rfl
    rw [this]
  have hs := run_setMap (P := P) (es' := es) hb
  rw [hself] at hs
  have hg := run_getMap (P := P) hb
  refine ⟨_, _, _, .inl ?_, hw, hn⟩
  simp only [execOp, hx, hy, Instr.mapEntry, Sem.run_bind, run_under hT.under, Result.andThen_ok, hg]
  simp only [mapO, hc, Result.andThen_ok, List.toList_toArray, hf, Sem.run_bind, hat, Option.map_some, Option.getD_some, hst]
  rw [hobj, hs]
  simp [goInt, mapO]
theorem x_entryStore {M i b j : Nat} {x y s : Operand} {k v : Value} {es : List (Value × Value)} {H' : List (Nat × Obj)} {Q : Value → St → Prop} (hx : ev e x = .map (some b)) (hs : ev e s = .int .i64 j) (hy : ev e y = v) (hi : σ.H[i]? = some (b, mapO es)) (hj : (es[j]?).map (·.1) = some k)
    (hH : SetL σ.H i (b, mapO (es.set j (k, v))) H') (hn : Q undef ⟨σ.F, H'⟩) : OpX P n B ⟨d, .entryStore M x s y, ty, pos, af, gd⟩ e σ Q := .run fun w hw => by
  have hb := (hw.own _ (List.mem_of_getElem? hi)).1
  cases hj' : es[j]? with
  | none => rw [hj'] at hj; simp at hj
  | some p =>
    rw [hj'] at hj
    simp only [Option.map_some, Option.some.injEq] at hj
    have hjl := (List.getElem?_eq_some_iff.1 hj').1
    have hfi : (es.zipIdx.map entryO).toArray.findIdx? (fun e => (e.born : Int) == (j : Int)) = some j := by
      rw [List.findIdx?_toArray, List.findIdx?_eq_some_iff_getElem]
      refine ⟨by simpa using hjl, by simp [entryO], fun m hm => by simp [entryO]; omega⟩
    have hobj : Obj.map ((es.zipIdx.map entryO).toArray.modify j fun e => { e with val := v }) es.length = mapO (es.set j (k, v)) := by
      unfold mapO
      congr 1
      · apply Array.ext'
        apply List.ext_getElem?
        intro m
        rw [Array.getElem?_toList, Array.getElem?_modify]
        simp only [List.getElem?_toArray, List.getElem?_map, List.getElem?_zipIdx, List.getElem?_set]
        by_cases hm : j = m
        · subst hm; rw [if_pos rfl, hj']; simp [hjl, entryO, hj]
        · rw [if_neg hm]; simp [hm]
      · simp
    have hg := run_getMap (P := P) hb
    have hst := run_setMap (P := P) (es' := es.set j (k, v)) hb
    rw [hH.eq.1] at hn
    refine ⟨_, _, _, .inr ⟨?_, rfl⟩, hw.setObj hi (o' := mapO (es.set j (k, v))), hn⟩
    simp only [execOp, hx, hy, hs, Instr.entryStore, Sem.run_bind, Sem.run_pure, Result.andThen_ok, hg]
    simp only [mapO, asInt, asIntOf, Sem.run_bind, Sem.run_pure, Result.andThen_ok, hfi]
    rw [hobj, hst]
    simp [mapO]
theorem lits_bool {T d : Nat} (hu : P.underlying T = some .bool) (b : Bool) : P.keyLits (d + 1) T [.bool b] = some [.bool b] := by simp [Program.keyLits, hu]
theorem lits_int {T d : Nat} {q : IntKind} (hu : P.underlying T = some (.int q)) {z : Int} (hz : (Lit.int q z).wf = true) : P.keyLits (d + 1) T [.int q z] = some [.int q z] := by simp [Program.keyLits, hu, hz]
theorem isK_struct2 {K d : Nat} {f0 f1 : Field} (hu : P.underlying K = some (.struct #[f0, f1])) (hk : P.keyType K = true) (hc : P.cellsOf K = 2) (c0 : P.cellsOf f0.type = 1) (c1 : P.cellsOf f1.type = 1) (hs : P.types.size = d)
    (o0 : f0.offset = 0) (o1 : f1.offset = 1) (n0 : (f0.name != "_") = true) (n1 : (f1.name != "_") = true) {a b : Value} {la lb : List Lit} (ha : P.keyLits d f0.type [a] = some la) (hb : P.keyLits d f1.type [b] = some lb) : IsK P K (.agg #[a, b]) := by
  have h : (P.keyLits (P.types.size + 1) K [a, b]) = some (la ++ lb) := by
    rw [hs]
    unfold Program.keyLits
    rw [hu]
    simp only [hc]
    have hall : (#[f0, f1] : Array Field).all (·.name != "_") = true := by simp [n0, n1]
    rw [if_pos ⟨rfl, hall⟩]
    simp [o0, o1, c0, c1, ha, hb]
  refine ⟨.string (keyBytes (la ++ lb)), ?_⟩
  unfold keyOf
  rw [hu]
  have hf : (Value.agg #[a, b]).formed P K = true := by simp [Value.formed, hu, hc]
  simp only [hk, hf, Bool.and_self, if_true]
  show (P.keyLits (P.types.size + 1) K [a, b]).map _ = _
  rw [h]; rfl
theorem wf64 {z : Int} (h1 : -9223372036854775808 ≤ z) (h2 : z ≤ 9223372036854775807) : (Lit.int .i64 z).wf = true := by
  have e1 : IntKind.i64.min = -9223372036854775808 := by decide
  have e2 : IntKind.i64.max = 9223372036854775807 := by decide
  simp [Lit.wf, e1, e2, h1, h2]
theorem keys_or {es : List (Value × Value)} (k : Value) : (∀ p ∈ es, p.1 ≠ k) ∨ ∃ (j : Nat) (u : Value), es[j]? = some (k, u) := by
  by_cases h : ∃ p ∈ es, p.1 = k
  · obtain ⟨p, hp, rfl⟩ := h
    obtain ⟨j, hj⟩ := List.getElem?_of_mem hp
    exact .inr ⟨j, p.2, hj⟩
  · exact .inl fun p hp he => h ⟨p, hp, he⟩
theorem all_snoc {K : Nat} {es : List (Value × Value)} {k v : Value} (h : ∀ p ∈ es, IsK P K p.1) (hk : IsK P K k) : ∀ p ∈ es ++ [(k, v)], IsK P K p.1 := by
  intro p hp
  rcases List.mem_append.1 hp with hp | hp
  · exact h p hp
  · simp at hp; subst hp; exact hk
theorem nd_snoc {es : List (Value × Value)} {k v : Value} (h : (es.map (·.1)).Nodup) (hk : ∀ p ∈ es, p.1 ≠ k) : ((es ++ [(k, v)]).map (·.1)).Nodup := by
  rw [List.map_append, List.nodup_append]
  refine ⟨h, by simp, fun a ha b hb => ?_⟩
  obtain ⟨p, hp, rfl⟩ := List.mem_map.1 ha
  simp at hb; subst hb
  exact hk p hp
theorem map_set {es : List (Value × Value)} {j : Nat} {k u v : Value} (hj : es[j]? = some (k, u)) : (es.set j (k, v)).map (·.1) = es.map (·.1) := by
  apply List.ext_getElem?
  intro m
  rw [List.getElem?_map, List.getElem?_map, List.getElem?_set]
  by_cases hm : j = m
  · subst hm; rw [if_pos rfl, hj]; simp [(List.getElem?_eq_some_iff.1 hj).1]
  · rw [if_neg hm]
theorem nd_set {es : List (Value × Value)} {j : Nat} {k u v : Value} (h : (es.map (·.1)).Nodup) (hj : es[j]? = some (k, u)) : ((es.set j (k, v)).map (·.1)).Nodup := by rw [map_set hj]; exact h
theorem all_set {K : Nat} {es : List (Value × Value)} {j : Nat} {k u v : Value} (h : ∀ p ∈ es, IsK P K p.1) (hj : es[j]? = some (k, u)) : ∀ p ∈ es.set j (k, v), IsK P K p.1 := by
  intro p hp
  have : p.1 ∈ (es.set j (k, v)).map (·.1) := List.mem_map_of_mem hp
  rw [map_set hj] at this
  obtain ⟨q, hq, he⟩ := List.mem_map.1 this
  rw [← he]; exact h q hq
theorem set_at {es : List (Value × Value)} {j : Nat} {k u v : Value} (hj : es[j]? = some (k, u)) : (es.set j (k, v))[j]? = some (k, v) := by
  rw [List.getElem?_set, if_pos rfl, if_pos (List.getElem?_eq_some_iff.1 hj).1]
theorem snoc_at {es : List (Value × Value)} {p : Value × Value} : (es ++ [p])[es.length]? = some p := by simp
theorem snoc_set {es : List (Value × Value)} {p q : Value × Value} : (es ++ [p]).set es.length q = es ++ [q] := by
  rw [List.set_append_right _ _ (Nat.le_refl _)]; simp
theorem q_eql2 {T d0 d1 : Nat} {x y : Operand} {a0 b0 : Bool} {k : IntKind} {a1 b1 : Int} {u : TypeId} {f0 f1 : Field} (hu : P.underlying T = some (.struct #[f0, f1])) (hst : P.stoodInHeld T = false) (hg : P.eqGuardType P.depth T = false)
    (n0 : f0.name ≠ "_") (n1 : f1.name ≠ "_") (o0 : f0.offset = 0) (o1 : f1.offset = 1) (h0 : P.underlying f0.type = some .bool) (h1 : P.underlying f1.type = some (.int k)) (s0 : OneT P f0.type) (s1 : OneT P f1.type) (_e0 : d0 = 0) (_e1 : d1 = 0)
    (hx : ev e x = .agg #[.bool a0, .int .i64 a1]) (hy : ev e y = .agg #[.bool b0, .int .i64 b1]) :
    OpR P B ⟨d, .binOp .eql T x y u, ty, pos, af, gd⟩ e σ (.bool ((a0 == b0) && (a1 == b1))) := fun w _ => by
  have hf : P.fieldsOf T = #[f0, f1] := by simp [Program.fieldsOf, hu]
  have hu' : P.underlying T = some (.struct (P.fieldsOf T)) := by rw [hf]; exact hu
  have p0 : ∀ cs : Array Value, ∀ v, cs[0]? = some v → (part f0.type cs f0.offset).run P w = .ok v w := fun cs v hv => by simp [part, run_one s0, o0, hv]
  have p1 : ∀ cs : Array Value, ∀ v, cs[1]? = some v → (part f1.type cs f1.offset).run P w = .ok v w := fun cs v hv => by simp [part, run_one s1, o1, hv]
  have he := run_eql_struct (P := P) w T #[.bool a0, .int .i64 a1] #[.bool b0, .int .i64 b1]
  rw [run_equalIn_struct w 9999 T _ _ hu' hst, hf] at he
  have hgd := run_eqGuard_agg (P := P) w .eql T x y #[.bool a0, .int .i64 a1] #[.bool b0, .int .i64 b1] hg
  simp only [execOp, hx, hy, Sem.run_bind, hgd, Result.andThen_ok, he]
  simp only [Op.eqFields, ne_eq, n0, n1, not_false_eq_true, if_true, Sem.run_bind, p0 _ _ (show (#[Value.bool a0, Value.int .i64 a1] : Array Value)[0]? = some (.bool a0) from rfl), p0 _ _ (show (#[Value.bool b0, Value.int .i64 b1] : Array Value)[0]? = some (.bool b0) from rfl), Result.andThen_ok, run_equalIn_bool' w 9998 f0.type a0 b0 h0]
  cases hab : (a0 == b0) with
  | false => simp
  | true =>
    simp [p1 _ _ (show (#[Value.bool a0, Value.int .i64 a1] : Array Value)[1]? = some (.int .i64 a1) from rfl), p1 _ _ (show (#[Value.bool b0, Value.int .i64 b1] : Array Value)[1]? = some (.int .i64 b1) from rfl), run_equalIn_int w 9998 f1.type .i64 k a1 b1 h1]
    by_cases hc : a1 = b1 <;> simp [hc]
end
end Go.Proofs.Ytbcjfkcpfjccdaa
