/-
  A part of a proof: ReaderBest returns true of any room, granted requests and request, and leaves what it is handed as it was. No conditions.
-/
import Derived.Test.YtbcjfkcpfjccdaaPab
import Derived.Test.YtbcjfkcpfjccdaaProg
import Derived.KernelRfl
namespace Go.Proofs.Ytbcjfkcpfjccdaa
open Go.RowKit
theorem bd_100 : Body Try.prog 100 := body_of (by kernel_rfl)
theorem bd_101 : Body Try.prog 101 := body_of (by kernel_rfl)
theorem bd_102 : Body Try.prog 102 := body_of (by kernel_rfl)
theorem bd_105 : Body Try.prog 105 := body_of (by kernel_rfl)
theorem bd_106 : Body Try.prog 106 := body_of (by kernel_rfl)
theorem bd_83 : Body Try.prog 83 := body_of (by kernel_rfl)
theorem bd_84 : Body Try.prog 84 := body_of (by kernel_rfl)
theorem fd_60_0 : FieldT Try.prog 60 0 0 := fieldT_of (by kernel_rfl)
theorem fd_60_1 : FieldT Try.prog 60 1 1 := fieldT_of (by kernel_rfl)
theorem one_3 : OneT Try.prog 3 := oneT_of (by kernel_rfl)
theorem one_9 : OneT Try.prog 9 := oneT_of (by kernel_rfl)
theorem sl_136 : SliceT Try.prog 136 9 1 := sliceT_of (by kernel_rfl)
theorem sl_29 : SliceT Try.prog 29 3 1 := sliceT_of (by kernel_rfl)
set_option maxRecDepth 100000 in
theorem letter_ok {F : Heap} (c : UInt8) : Ok Try.prog 105 [.int .u8 (c.toNat : Int)].toArray F fun r _ => r = .bool (letterB c) := by
  refine Ok.intro Try.func105 rfl Try.ntmps105 rfl fun w0 => ?_
  by_cases h1 : 97 ≤ (c.toNat : Int)
  ·
   refine WC_seq ?_
   refine WC_reg fun ds => ?_
   refine WL_q rfl (q_assign lk_const) ?_
   refine WL_nil ?_
   refine then_n ?_
   refine WC_seq ?_
   refine WC_reg fun ds => ?_
   refine WL_q rfl (q_move (lk1 rfl <| lk_entry rfl)) ?_
   refine WL_q rfl (q_geq (lk0) lk_const) ?_
   refine WL_q rfl (q_move (lk0)) ?_
   refine WL_want rfl rfl (lk0) (by first | rfl | exact decide_eq_true (by omega)) ?_
   refine WL_q rfl (q_move (lk4 rfl <| lk_entry rfl)) ?_
   refine WL_want rfl rfl (lk1 rfl <| lk0) (by first | rfl | exact decide_eq_true (by omega)) ?_
   refine WL_q rfl (q_leq (lk0) lk_const) ?_
   refine WL_q rfl (q_pick_true (lk2 rfl <| lk0) (by first | rfl | exact decide_eq_true (by omega)) (lk0)) ?_
   refine WL_q rfl (q_assign (lk0)) ?_
   refine WL_nil ?_
   refine then_n ?_
   by_cases h2 : (c.toNat : Int) ≤ 122
   ·
    refine WC_ret ?_
    refine post_ret rfl (.tmp (lk0) .nil) ?_
    show _ = _; simp [outOf, letterB, h1, h2]
   ·
    refine WC_ret ?_
    refine post_ret rfl (.tmp (lk0) .nil) ?_
    show _ = _; simp [outOf, letterB, h1, h2]
  ·
   refine WC_seq ?_
   refine WC_reg fun ds => ?_
   refine WL_q rfl (q_assign lk_const) ?_
   refine WL_nil ?_
   refine then_n ?_
   refine WC_seq ?_
   refine WC_reg fun ds => ?_
   refine WL_q rfl (q_move (lk1 rfl <| lk_entry rfl)) ?_
   refine WL_q rfl (q_geq (lk0) lk_const) ?_
   refine WL_q rfl (q_move (lk0)) ?_
   refine WL_pass rfl rfl (lk0) (.inl (congrArg Value.bool (by first | rfl | exact decide_eq_false (by omega)))) rfl ?_
   refine WL_pass rfl rfl (lk1 rfl <| lk0) (.inl (congrArg Value.bool (by first | rfl | exact decide_eq_false (by omega)))) rfl ?_
   refine WL_q rfl (q_pick_false (lk2 rfl <| lk0) (by first | rfl | exact decide_eq_false (by omega)) lk_const) ?_
   refine WL_q rfl (q_assign (lk0)) ?_
   refine WL_nil ?_
   refine then_n ?_
   refine WC_ret ?_
   refine post_ret rfl (.tmp (lk0) .nil) ?_
   show _ = _; simp [outOf, letterB, h1]
set_option maxRecDepth 100000 in
theorem digit_ok {F : Heap} (c : UInt8) : Ok Try.prog 106 [.int .u8 (c.toNat : Int)].toArray F fun r _ => r = .bool (digitB c) := by
  refine Ok.intro Try.func106 rfl Try.ntmps106 rfl fun w0 => ?_
  by_cases h1 : 48 ≤ (c.toNat : Int)
  ·
   refine WC_seq ?_
   refine WC_reg fun ds => ?_
   refine WL_q rfl (q_assign lk_const) ?_
   refine WL_nil ?_
   refine then_n ?_
   refine WC_seq ?_
   refine WC_reg fun ds => ?_
   refine WL_q rfl (q_move (lk1 rfl <| lk_entry rfl)) ?_
   refine WL_q rfl (q_geq (lk0) lk_const) ?_
   refine WL_q rfl (q_move (lk0)) ?_
   refine WL_want rfl rfl (lk0) (by first | rfl | exact decide_eq_true (by omega)) ?_
   refine WL_q rfl (q_move (lk4 rfl <| lk_entry rfl)) ?_
   refine WL_want rfl rfl (lk1 rfl <| lk0) (by first | rfl | exact decide_eq_true (by omega)) ?_
   refine WL_q rfl (q_leq (lk0) lk_const) ?_
   refine WL_q rfl (q_pick_true (lk2 rfl <| lk0) (by first | rfl | exact decide_eq_true (by omega)) (lk0)) ?_
   refine WL_q rfl (q_assign (lk0)) ?_
   refine WL_nil ?_
   refine then_n ?_
   by_cases h2 : (c.toNat : Int) ≤ 57
   ·
    refine WC_ret ?_
    refine post_ret rfl (.tmp (lk0) .nil) ?_
    show _ = _; simp [outOf, digitB, h1, h2]
   ·
    refine WC_ret ?_
    refine post_ret rfl (.tmp (lk0) .nil) ?_
    show _ = _; simp [outOf, digitB, h1, h2]
  ·
   refine WC_seq ?_
   refine WC_reg fun ds => ?_
   refine WL_q rfl (q_assign lk_const) ?_
   refine WL_nil ?_
   refine then_n ?_
   refine WC_seq ?_
   refine WC_reg fun ds => ?_
   refine WL_q rfl (q_move (lk1 rfl <| lk_entry rfl)) ?_
   refine WL_q rfl (q_geq (lk0) lk_const) ?_
   refine WL_q rfl (q_move (lk0)) ?_
   refine WL_pass rfl rfl (lk0) (.inl (congrArg Value.bool (by first | rfl | exact decide_eq_false (by omega)))) rfl ?_
   refine WL_pass rfl rfl (lk1 rfl <| lk0) (.inl (congrArg Value.bool (by first | rfl | exact decide_eq_false (by omega)))) rfl ?_
   refine WL_q rfl (q_pick_false (lk2 rfl <| lk0) (by first | rfl | exact decide_eq_false (by omega)) lk_const) ?_
   refine WL_q rfl (q_assign (lk0)) ?_
   refine WL_nil ?_
   refine then_n ?_
   refine WC_ret ?_
   refine post_ret rfl (.tmp (lk0) .nil) ?_
   show _ = _; simp [outOf, digitB, h1]
set_option maxRecDepth 100000 in
theorem in10_ok {F : Heap} (z lo hi : Int) : Ok Try.prog 56 [.int .i64 z, .int .i64 lo, .int .i64 hi].toArray F fun r _ => r = .bool (inB lo hi z) := by
  refine Ok.intro Try.func56 rfl Try.ntmps56 rfl fun w0 => ?_
  by_cases h1 : lo ≤ z
  ·
   refine WC_seq ?_
   refine WC_reg fun ds => ?_
   refine WL_q rfl (q_assign lk_const) ?_
   refine WL_nil ?_
   refine then_n ?_
   refine WC_seq ?_
   refine WC_reg fun ds => ?_
   refine WL_q rfl (q_move (lk1 rfl <| lk_entry rfl)) ?_
   refine WL_q rfl (q_move (lk2 rfl <| lk_entry rfl)) ?_
   refine WL_q rfl (q_geq (lk1 rfl <| lk0) (lk0)) ?_
   refine WL_q rfl (q_move (lk0)) ?_
   refine WL_want rfl rfl (lk0) (by first | rfl | exact decide_eq_true (by omega)) ?_
   refine WL_q rfl (q_move (lk4 rfl <| lk1 rfl <| lk_entry rfl)) ?_
   refine WL_want rfl rfl (lk1 rfl <| lk0) (by first | rfl | exact decide_eq_true (by omega)) ?_
   refine WL_q rfl (q_move (lk4 rfl <| lk2 rfl <| lk_entry rfl)) ?_
   refine WL_want rfl rfl (lk2 rfl <| lk0) (by first | rfl | exact decide_eq_true (by omega)) ?_
   refine WL_q rfl (q_leq (lk1 rfl <| lk0) (lk0)) ?_
   refine WL_q rfl (q_pick_true (lk2 rfl <| lk1 rfl <| lk0) (by first | rfl | exact decide_eq_true (by omega)) (lk0)) ?_
   refine WL_q rfl (q_assign (lk0)) ?_
   refine WL_nil ?_
   refine then_n ?_
   by_cases h2 : z ≤ hi
   ·
    refine WC_ret ?_
    refine post_ret rfl (.tmp (lk0) .nil) ?_
    show _ = _; simp [outOf, inB, h1, h2]
   ·
    refine WC_ret ?_
    refine post_ret rfl (.tmp (lk0) .nil) ?_
    show _ = _; simp [outOf, inB, h1, h2]
  ·
   refine WC_seq ?_
   refine WC_reg fun ds => ?_
   refine WL_q rfl (q_assign lk_const) ?_
   refine WL_nil ?_
   refine then_n ?_
   refine WC_seq ?_
   refine WC_reg fun ds => ?_
   refine WL_q rfl (q_move (lk1 rfl <| lk_entry rfl)) ?_
   refine WL_q rfl (q_move (lk2 rfl <| lk_entry rfl)) ?_
   refine WL_q rfl (q_geq (lk1 rfl <| lk0) (lk0)) ?_
   refine WL_q rfl (q_move (lk0)) ?_
   refine WL_pass rfl rfl (lk0) (.inl (congrArg Value.bool (by first | rfl | exact decide_eq_false (by omega)))) rfl ?_
   refine WL_pass rfl rfl (lk1 rfl <| lk0) (.inl (congrArg Value.bool (by first | rfl | exact decide_eq_false (by omega)))) rfl ?_
   refine WL_pass rfl rfl (lk2 rfl <| lk0) (.inl (congrArg Value.bool (by first | rfl | exact decide_eq_false (by omega)))) rfl ?_
   refine WL_q rfl (q_pick_false (lk2 rfl <| lk1 rfl <| lk0) (by first | rfl | exact decide_eq_false (by omega)) lk_const) ?_
   refine WL_q rfl (q_assign (lk0)) ?_
   refine WL_nil ?_
   refine then_n ?_
   refine WC_ret ?_
   refine post_ret rfl (.tmp (lk0) .nil) ?_
   show _ = _; simp [outOf, inB, h1]
set_option maxRecDepth 100000 in
theorem refName_ok {F : Heap} (s : ByteArray) : Ok Try.prog 102 [.string s].toArray F fun r _ => r = .bool (nameOk s) := by
  refine Ok.intro Try.func102 rfl Try.ntmps102 rfl fun w0 => ?_
  by_cases h0 : (s.size : Int) = 0
  ·
   refine WC_seq ?_
   refine WC_reg fun ds => ?_
   refine WL_q rfl (q_assign lk_const) ?_
   refine WL_nil ?_
   refine then_n ?_
   refine WC_seq ?_
   refine WC_seq ?_
   refine WC_reg fun ds => ?_
   refine WL_q rfl (q_move (lk1 rfl <| lk_entry rfl)) ?_
   refine WL_q rfl (q_lenS Try.underlying9 (lk0)) ?_
   refine WL_q rfl (q_eql (lk0) lk_const) ?_
   refine WL_q rfl (q_move (lk0)) ?_
   refine WL_pass rfl rfl (lk0) (.inl (congrArg Value.bool (by first | rfl | exact decide_eq_true (by omega)))) rfl ?_
   refine WL_pass rfl rfl (lk1 rfl <| lk0) (.inl (congrArg Value.bool (by first | rfl | exact decide_eq_true (by omega)))) rfl ?_
   refine WL_pass rfl rfl (lk2 rfl <| lk0) (.inl (congrArg Value.bool (by first | rfl | exact decide_eq_true (by omega)))) rfl ?_
   refine WL_q rfl (q_pick_true (lk2 rfl <| lk1 rfl <| lk0) (by first | rfl | exact decide_eq_true (by omega)) lk_const) ?_
   refine WL_nil ?_
   refine then_n ?_
   refine WC_if_true (lk0) (by first | rfl | exact decide_eq_true (by omega)) ?_
   refine WC_seq ?_
   refine WC_reg fun ds => ?_
   refine WL_q rfl (q_assign lk_const) ?_
   refine WL_nil ?_
   refine then_n ?_
   refine WC_ret ?_
   refine then_r ?_
   refine post_ret rfl (.tmp (lk0) .nil) ?_
   show _ = _
   rw [nameOk_len (by omega)]; rfl
  ·
   refine WC_seq ?_
   refine WC_reg fun ds => ?_
   refine WL_q rfl (q_assign lk_const) ?_
   refine WL_nil ?_
   refine then_n ?_
   refine WC_seq ?_
   refine WC_seq ?_
   refine WC_reg fun ds => ?_
   refine WL_q rfl (q_move (lk1 rfl <| lk_entry rfl)) ?_
   refine WL_q rfl (q_lenS Try.underlying9 (lk0)) ?_
   refine WL_q rfl (q_eql (lk0) lk_const) ?_
   refine WL_q rfl (q_move (lk0)) ?_
   refine WL_want rfl rfl (lk0) (by first | rfl | exact decide_eq_false (by omega)) ?_
   refine WL_q rfl (q_move (lk4 rfl <| lk1 rfl <| lk_entry rfl)) ?_
   refine WL_want rfl rfl (lk1 rfl <| lk0) (by first | rfl | exact decide_eq_false (by omega)) ?_
   refine WL_q rfl (q_lenS Try.underlying9 (lk0)) ?_
   refine WL_want rfl rfl (lk2 rfl <| lk0) (by first | rfl | exact decide_eq_false (by omega)) ?_
   refine WL_q rfl (q_gtr (lk0) lk_const) ?_
   refine WL_q rfl (q_pick_false (lk2 rfl <| lk1 rfl <| lk0) (by first | rfl | exact decide_eq_false (by omega)) (lk0)) ?_
   refine WL_nil ?_
   refine then_n ?_
   by_cases h16 : (16 : Int) < s.size
   ·
    refine WC_if_true (lk0) (by first | rfl | exact decide_eq_true (by omega)) ?_
    refine WC_seq ?_
    refine WC_reg fun ds => ?_
    refine WL_q rfl (q_assign lk_const) ?_
    refine WL_nil ?_
    refine then_n ?_
    refine WC_ret ?_
    refine then_r ?_
    refine post_ret rfl (.tmp (lk0) .nil) ?_
    show _ = _
    rw [nameOk_len (by omega)]; rfl
   ·
    refine WC_if_false (lk0) (by first | rfl | exact decide_eq_false (by omega)) ?_
    refine WC_skip ?_
    refine then_n ?_
    refine WC_seq ?_
    refine WC_seq ?_
    refine WC_reg fun ds => ?_
    refine WL_q rfl (q_assign lk_const) ?_
    refine WL_nil ?_
    refine then_n ?_
    refine WC_block ?_
    refine WC_loopN [2, 3, 12, 13, 14, 15, 16, 17, 18, 19, 20, 21, 22, 23, 24, 25, 26, 27, 28, 29, 30, 31, 32, 33, 34, 35, 36, 37, 38, 39] (fun m e σ => ∃ k : Nat, m + k = s.size ∧ e 3 = .int .i64 k ∧ σ = ⟨F, []⟩ ∧ ∀ j (hj : j < s.size), j < k → chOk j s[j] = true) (s.size) ?_ ?_
    · exact ⟨0, by omega, (lk0), rfl, fun j hj h => absurd h (by omega)⟩
    ·
     rintro m e _ ⟨k, hm, hs3, rfl, hno⟩
     by_cases hlt : k < s.size
     ·
      refine WC_seq ?_
      refine WC_seq ?_
      refine WC_reg fun ds => ?_
      refine WL_q rfl (q_move (lk_in rfl hs3)) ?_
      refine WL_q rfl (q_move (lk1 rfl <| lk_off rfl <| lk8 rfl <| lk2 rfl <| lk_entry rfl)) ?_
      refine WL_q rfl (q_lenS Try.underlying9 (lk0)) ?_
      refine WL_q rfl (q_lss (lk2 rfl <| lk0) (lk0)) ?_
      refine WL_nil ?_
      refine then_n ?_
      refine WC_if_true (lk0) (by first | rfl | exact decide_eq_true (by omega)) ?_
      by_cases hl : letterB s[k] = true
      ·
       have hch : chOk k s[k] = true := by unfold chOk; rw [hl]; rfl
       refine WC_skip ?_
       refine then_n ?_
       refine WC_seq ?_
       refine WC_block ?_
       refine WC_seq ?_
       refine WC_reg fun ds => ?_
       refine WL_q rfl (q_move (lk4 rfl <| lk_off rfl <| lk8 rfl <| lk2 rfl <| lk_entry rfl)) ?_
       refine WL_q rfl (q_move (lk4 rfl <| lk1 rfl <| lk_in rfl hs3)) ?_
       refine WL_q rfl (q_indexS Try.underlying9 (lk1 rfl <| lk0) (lk0) rfl hlt) ?_
       refine WL_c rfl (q_call bd_105 lk_func (.cons (lk0) .nil) (letter_ok _) (fun _ _ h => h)) ?_
       refine WL_q rfl (q_not (lk0)) ?_
       refine WL_q rfl (q_move (lk0)) ?_
       refine WL_pass rfl rfl (lk0) (.inl (congrArg Value.bool (by first | rfl | (simp [hl]; done)))) rfl ?_
       refine WL_pass rfl rfl (lk1 rfl <| lk0) (.inl (congrArg Value.bool (by first | rfl | (simp [hl]; done)))) rfl ?_
       refine WL_pass rfl rfl (lk2 rfl <| lk0) (.inl (congrArg Value.bool (by first | rfl | (simp [hl]; done)))) rfl ?_
       refine WL_pass rfl rfl (lk0) (.inr rfl) rfl ?_
       refine WL_pass rfl rfl (lk1 rfl <| lk0) (.inr rfl) rfl ?_
       refine WL_pass rfl rfl (lk2 rfl <| lk0) (.inr rfl) rfl ?_
       refine WL_pass rfl rfl (lk2 rfl <| lk1 rfl <| lk0) (.inr rfl) rfl ?_
       refine WL_pass rfl rfl (lk4 rfl <| lk0) (.inr rfl) rfl ?_
       refine WL_pass rfl rfl (lk4 rfl <| lk1 rfl <| lk0) (.inr rfl) rfl ?_
       refine WL_pass rfl rfl (lk0) (.inr rfl) rfl ?_
       refine WL_pass rfl rfl (lk1 rfl <| lk0) (.inr rfl) rfl ?_
       refine WL_pass rfl rfl (lk2 rfl <| lk0) (.inr rfl) rfl ?_
       refine WL_pass rfl rfl (lk2 rfl <| lk1 rfl <| lk0) (.inr rfl) rfl ?_
       refine WL_pass rfl rfl (lk8 rfl <| lk2 rfl <| lk0) (.inr rfl) rfl ?_
       refine WL_pass rfl rfl (lk8 rfl <| lk4 rfl <| lk2 rfl <| lk0) (.inl (congrArg Value.bool (by first | rfl | (simp [hl]; done)))) rfl ?_
       refine WL_q rfl (q_pick_false (lk8 rfl <| lk4 rfl <| lk2 rfl <| lk1 rfl <| lk0) (by first | rfl | (simp [hl]; done)) lk_const) ?_
       refine WL_nil ?_
       refine then_n ?_
       refine WC_if_false (lk0) (by first | rfl | (simp [hl]; done)) ?_
       refine WC_skip ?_
       refine block_n (then_n ?_)
       refine WC_reg fun ds => ?_
       refine WL_q rfl (q_move (lk16 rfl <| lk8 rfl <| lk2 rfl <| lk_in rfl hs3)) ?_
       refine WL_q rfl (q_add (lk0) lk_const rfl (by omega) (by omega)) ?_
       refine WL_q rfl (q_assign (lk0)) ?_
       refine WL_nil ?_
       refine then_n ⟨_, m - 1, Off.eq (ou16 rfl <| ou8 rfl <| ou4 rfl <| ou1 rfl <| off_over), by omega, ?_⟩
       refine ⟨k + 1, by omega, (lk0), rfl, fun j hj hjk => ?_⟩
       rcases Nat.lt_succ_iff_lt_or_eq.1 hjk with hjk | rfl
       · exact hno j hj hjk
       · exact hch
      ·
       replace hl : letterB s[k] = false := by simpa using hl
       refine WC_skip ?_
       refine then_n ?_
       refine WC_seq ?_
       refine WC_block ?_
       refine WC_seq ?_
       refine WC_reg fun ds => ?_
       refine WL_q rfl (q_move (lk4 rfl <| lk_off rfl <| lk8 rfl <| lk2 rfl <| lk_entry rfl)) ?_
       refine WL_q rfl (q_move (lk4 rfl <| lk1 rfl <| lk_in rfl hs3)) ?_
       refine WL_q rfl (q_indexS Try.underlying9 (lk1 rfl <| lk0) (lk0) rfl hlt) ?_
       refine WL_c rfl (q_call bd_105 lk_func (.cons (lk0) .nil) (letter_ok _) (fun _ _ h => h)) ?_
       refine WL_q rfl (q_not (lk0)) ?_
       refine WL_q rfl (q_move (lk0)) ?_
       refine WL_want rfl rfl (lk0) (by first | rfl | (simp [hl]; done)) ?_
       refine WL_q rfl (q_move (lk8 rfl <| lk2 rfl <| lk_in rfl hs3)) ?_
       refine WL_want rfl rfl (lk1 rfl <| lk0) (by first | rfl | (simp [hl]; done)) ?_
       refine WL_q rfl (q_eql (lk0) lk_const) ?_
       refine WL_want rfl rfl (lk2 rfl <| lk0) (by first | rfl | (simp [hl]; done)) ?_
       refine WL_q rfl (q_move (lk0)) ?_
       by_cases hz : k = 0
       ·
        have hch : chOk k s[k] = false := by unfold chOk; rw [hl]; simp [hz]
        refine WL_pass rfl rfl (lk0) (.inl (congrArg Value.bool (by first | rfl | exact decide_eq_true (by omega)))) rfl ?_
        refine WL_pass rfl rfl (lk1 rfl <| lk0) (.inl (congrArg Value.bool (by first | rfl | exact decide_eq_true (by omega)))) rfl ?_
        refine WL_pass rfl rfl (lk2 rfl <| lk0) (.inl (congrArg Value.bool (by first | rfl | exact decide_eq_true (by omega)))) rfl ?_
        refine WL_pass rfl rfl (lk2 rfl <| lk1 rfl <| lk0) (.inl (congrArg Value.bool (by first | rfl | exact decide_eq_true (by omega)))) rfl ?_
        refine WL_pass rfl rfl (lk4 rfl <| lk0) (.inl (congrArg Value.bool (by first | rfl | exact decide_eq_true (by omega)))) rfl ?_
        refine WL_pass rfl rfl (lk4 rfl <| lk1 rfl <| lk0) (.inl (congrArg Value.bool (by first | rfl | exact decide_eq_true (by omega)))) rfl ?_
        refine WL_pass rfl rfl (lk0) (.inr rfl) rfl ?_
        refine WL_pass rfl rfl (lk1 rfl <| lk0) (.inr rfl) rfl ?_
        refine WL_pass rfl rfl (lk2 rfl <| lk0) (.inr rfl) rfl ?_
        refine WL_pass rfl rfl (lk2 rfl <| lk1 rfl <| lk0) (.inr rfl) rfl ?_
        refine WL_pass rfl rfl (lk8 rfl <| lk2 rfl <| lk0) (.inl (congrArg Value.bool (by first | rfl | exact decide_eq_true (by omega)))) rfl ?_
        refine WL_want rfl rfl (lk8 rfl <| lk4 rfl <| lk2 rfl <| lk0) (by first | rfl | (simp [hl]; done)) ?_
        refine WL_q rfl (q_pick_true (lk8 rfl <| lk2 rfl <| lk1 rfl <| lk0) (by first | rfl | exact decide_eq_true (by omega)) lk_const) ?_
        refine WL_q rfl (q_pick_true (lk8 rfl <| lk4 rfl <| lk2 rfl <| lk1 rfl <| lk0) (by first | rfl | (simp [hl]; done)) (lk0)) ?_
        refine WL_nil ?_
        refine then_n ?_
        refine WC_if_true (lk0) (by first | rfl | exact decide_eq_true (by omega)) ?_
        refine WC_seq ?_
        refine WC_reg fun ds => ?_
        refine WL_q rfl (q_assign lk_const) ?_
        refine WL_nil ?_
        refine then_n ?_
        refine WC_ret ?_
        refine block_r (then_r (then_r (block_r (then_r ?_))))
        refine post_ret rfl (.tmp (lk0) .nil) ?_
        show _ = _
        rw [nameOk_bad (i := k) hlt hch]; rfl
       ·
        refine WL_want rfl rfl (lk0) (by first | rfl | exact decide_eq_false (by omega)) ?_
        refine WL_q rfl (q_move (lk8 rfl <| lk4 rfl <| lk1 rfl <| lk_off rfl <| lk8 rfl <| lk2 rfl <| lk_entry rfl)) ?_
        refine WL_want rfl rfl (lk1 rfl <| lk0) (by first | rfl | exact decide_eq_false (by omega)) ?_
        refine WL_q rfl (q_move (lk8 rfl <| lk4 rfl <| lk2 rfl <| lk_in rfl hs3)) ?_
        refine WL_want rfl rfl (lk2 rfl <| lk0) (by first | rfl | exact decide_eq_false (by omega)) ?_
        refine WL_q rfl (q_indexS Try.underlying9 (lk1 rfl <| lk0) (lk0) rfl hlt) ?_
        refine WL_want rfl rfl (lk2 rfl <| lk1 rfl <| lk0) (by first | rfl | exact decide_eq_false (by omega)) ?_
        refine WL_c rfl (q_call bd_106 lk_func (.cons (lk0) .nil) (digit_ok _) (fun _ _ h => h)) ?_
        refine WL_want rfl rfl (lk4 rfl <| lk0) (by first | rfl | exact decide_eq_false (by omega)) ?_
        refine WL_q rfl (q_not (lk0)) ?_
        refine WL_want rfl rfl (lk4 rfl <| lk1 rfl <| lk0) (by first | rfl | exact decide_eq_false (by omega)) ?_
        refine WL_q rfl (q_move (lk0)) ?_
        by_cases hd : digitB s[k] = true
        ·
         have hch : chOk k s[k] = true := by unfold chOk; rw [hd]; simp [hz]
         refine WL_pass rfl rfl (lk0) (.inl (congrArg Value.bool (by first | rfl | (simp [hd]; done)))) rfl ?_
         refine WL_pass rfl rfl (lk1 rfl <| lk0) (.inl (congrArg Value.bool (by first | rfl | (simp [hd]; done)))) rfl ?_
         refine WL_pass rfl rfl (lk2 rfl <| lk0) (.inl (congrArg Value.bool (by first | rfl | (simp [hd]; done)))) rfl ?_
         refine WL_pass rfl rfl (lk2 rfl <| lk1 rfl <| lk0) (.inl (congrArg Value.bool (by first | rfl | (simp [hd]; done)))) rfl ?_
         refine WL_want rfl rfl (lk8 rfl <| lk2 rfl <| lk0) (by first | rfl | exact decide_eq_false (by omega)) ?_
         refine WL_q rfl (q_pick_false (lk4 rfl <| lk0) (by first | rfl | (simp [hd]; done)) lk_const) ?_
         refine WL_want rfl rfl (lk8 rfl <| lk4 rfl <| lk2 rfl <| lk0) (by first | rfl | (simp [hl]; done)) ?_
         refine WL_q rfl (q_pick_false (lk8 rfl <| lk2 rfl <| lk1 rfl <| lk0) (by first | rfl | exact decide_eq_false (by omega)) (lk0)) ?_
         refine WL_q rfl (q_pick_true (lk8 rfl <| lk4 rfl <| lk2 rfl <| lk1 rfl <| lk0) (by first | rfl | (simp [hl]; done)) (lk0)) ?_
         refine WL_nil ?_
         refine then_n ?_
         refine WC_if_false (lk0) (by first | rfl | (simp [hd]; done)) ?_
         refine WC_skip ?_
         refine block_n (then_n ?_)
         refine WC_reg fun ds => ?_
         refine WL_q rfl (q_move (lk16 rfl <| lk8 rfl <| lk2 rfl <| lk_in rfl hs3)) ?_
         refine WL_q rfl (q_add (lk0) lk_const rfl (by omega) (by omega)) ?_
         refine WL_q rfl (q_assign (lk0)) ?_
         refine WL_nil ?_
         refine then_n ⟨_, m - 1, Off.eq (ou16 rfl <| ou8 rfl <| ou4 rfl <| ou1 rfl <| off_over), by omega, ?_⟩
         refine ⟨k + 1, by omega, (lk0), rfl, fun j hj hjk => ?_⟩
         rcases Nat.lt_succ_iff_lt_or_eq.1 hjk with hjk | rfl
         · exact hno j hj hjk
         · exact hch
        ·
         replace hd : digitB s[k] = false := by simpa using hd
         refine WL_want rfl rfl (lk0) (by first | rfl | (simp [hd]; done)) ?_
         refine WL_q rfl (q_move (lk16 rfl <| lk2 rfl <| lk1 rfl <| lk_off rfl <| lk8 rfl <| lk2 rfl <| lk_entry rfl)) ?_
         refine WL_want rfl rfl (lk1 rfl <| lk0) (by first | rfl | (simp [hd]; done)) ?_
         refine WL_q rfl (q_move (lk16 rfl <| lk4 rfl <| lk_in rfl hs3)) ?_
         refine WL_want rfl rfl (lk2 rfl <| lk0) (by first | rfl | (simp [hd]; done)) ?_
         refine WL_q rfl (q_indexS Try.underlying9 (lk1 rfl <| lk0) (lk0) rfl hlt) ?_
         refine WL_want rfl rfl (lk2 rfl <| lk1 rfl <| lk0) (by first | rfl | (simp [hd]; done)) ?_
         refine WL_q rfl (q_neq (lk0) lk_const) ?_
         refine WL_want rfl rfl (lk8 rfl <| lk2 rfl <| lk0) (by first | rfl | exact decide_eq_false (by omega)) ?_
         refine WL_q rfl (q_pick_true (lk4 rfl <| lk0) (by first | rfl | (simp [hd]; done)) (lk0)) ?_
         refine WL_want rfl rfl (lk8 rfl <| lk4 rfl <| lk2 rfl <| lk0) (by first | rfl | (simp [hl]; done)) ?_
         refine WL_q rfl (q_pick_false (lk8 rfl <| lk2 rfl <| lk1 rfl <| lk0) (by first | rfl | exact decide_eq_false (by omega)) (lk0)) ?_
         refine WL_q rfl (q_pick_true (lk8 rfl <| lk4 rfl <| lk2 rfl <| lk1 rfl <| lk0) (by first | rfl | (simp [hl]; done)) (lk0)) ?_
         refine WL_nil ?_
         refine then_n ?_
         by_cases hp : (s[k].toNat : Int) = 46
         ·
          have hch : chOk k s[k] = true := by unfold chOk; simp [hz, hp]
          refine WC_if_false (lk0) (by first | rfl | exact decide_eq_false (by omega)) ?_
          refine WC_skip ?_
          refine block_n (then_n ?_)
          refine WC_reg fun ds => ?_
          refine WL_q rfl (q_move (lk16 rfl <| lk8 rfl <| lk2 rfl <| lk_in rfl hs3)) ?_
          refine WL_q rfl (q_add (lk0) lk_const rfl (by omega) (by omega)) ?_
          refine WL_q rfl (q_assign (lk0)) ?_
          refine WL_nil ?_
          refine then_n ⟨_, m - 1, Off.eq (ou16 rfl <| ou8 rfl <| ou4 rfl <| ou1 rfl <| off_over), by omega, ?_⟩
          refine ⟨k + 1, by omega, (lk0), rfl, fun j hj hjk => ?_⟩
          rcases Nat.lt_succ_iff_lt_or_eq.1 hjk with hjk | rfl
          · exact hno j hj hjk
          · exact hch
         ·
          have hch : chOk k s[k] = false := by unfold chOk; simp [hl, hd, hp]
          refine WC_if_true (lk0) (by first | rfl | exact decide_eq_true (by omega)) ?_
          refine WC_seq ?_
          refine WC_reg fun ds => ?_
          refine WL_q rfl (q_assign lk_const) ?_
          refine WL_nil ?_
          refine then_n ?_
          refine WC_ret ?_
          refine block_r (then_r (then_r (block_r (then_r ?_))))
          refine post_ret rfl (.tmp (lk0) .nil) ?_
          show _ = _
          rw [nameOk_bad (i := k) hlt hch]; rfl
     ·
      refine WC_seq ?_
      refine WC_seq ?_
      refine WC_reg fun ds => ?_
      refine WL_q rfl (q_move (lk_in rfl hs3)) ?_
      refine WL_q rfl (q_move (lk1 rfl <| lk_off rfl <| lk8 rfl <| lk2 rfl <| lk_entry rfl)) ?_
      refine WL_q rfl (q_lenS Try.underlying9 (lk0)) ?_
      refine WL_q rfl (q_lss (lk2 rfl <| lk0) (lk0)) ?_
      refine WL_nil ?_
      refine then_n ?_
      refine WC_if_false (lk0) (by first | rfl | exact decide_eq_false (by omega)) ?_
      refine WC_exit ?_
      refine then_x (then_x (exit_here ?_))
      refine then_n ?_
      refine WC_seq ?_
      refine WC_reg fun ds => ?_
      refine WL_q rfl (q_assign lk_const) ?_
      refine WL_nil ?_
      refine then_n ?_
      refine WC_ret ?_
      refine post_ret rfl (.tmp (lk0) .nil) ?_
      show _ = _
      rw [nameOk_true (by omega) (by omega) fun j hj => hno j hj (by omega)]; rfl
set_option maxRecDepth 100000 in
theorem quireName_ok {F : Heap} (s : ByteArray) : Ok Try.prog 48 [.string s].toArray F fun r _ => r = .bool (nameOk s) := by
  refine Ok.intro Try.func48 rfl Try.ntmps48 rfl fun w0 => ?_
  refine WC_seq ?_
  refine WC_reg fun ds => ?_
  refine WL_q rfl (q_assign lk_const) ?_
  refine WL_nil ?_
  refine then_n ?_
  refine WC_seq ?_
  refine WC_seq ?_
  refine WC_reg fun ds => ?_
  refine WL_q rfl (q_move (lk1 rfl <| lk_entry rfl)) ?_
  refine WL_x rfl (x_rangeS Try.underlying9 (lk0) fun b1 hb1 nb1 => ?_)
  refine WL_nil ?_
  refine then_n ?_
  refine WC_block ?_
  refine WC_loopN [2, 3, 4, 7, 8, 9, 10, 11, 12, 13, 14, 15, 16, 17, 18, 19, 20, 21, 22, 23, 24, 25, 26, 27, 28, 29, 30, 31, 32] (fun m e σ => ∃ k : Nat, m + k = s.size ∧ σ = ⟨F, [(b1, .stringIter s k)]⟩ ∧ ∀ j (hj : j < s.size), j < k → chOk j s[j] = true) (s.size) ?_ ?_
  · exact ⟨0, by omega, rfl, fun j hj h => absurd h (by omega)⟩
  ·
   rintro m e _ ⟨k, hm, rfl, hno⟩
   by_cases hlt : k < s.size
   ·
    by_cases ha : s[k].toNat < 128
    ·
     have hdec := decode_ascii s k hlt ha
     refine WC_seq ?_
     refine WC_reg fun ds => ?_
     refine WL_x rfl (x_nextS (lk_off rfl <| lk0) (i := 0) rfl hlt hdec (.here) ?_)
     refine WL_q rfl (q_extract (lk0) rfl) ?_
     refine WL_nil ?_
     refine then_n ?_
     refine WC_seq ?_
     refine WC_if_true (lk0) rfl ?_
     by_cases hl1 : 97 ≤ (s[k].toNat : Int)
     ·
      refine WC_skip ?_
      refine then_n ?_
      refine WC_block ?_
      refine WC_seq ?_
      refine WC_reg fun ds => ?_
      refine WL_q rfl (q_extract (lk1 rfl <| lk0) rfl) ?_
      refine WL_q rfl (q_extract (lk2 rfl <| lk0) rfl) ?_
      refine WL_q rfl (q_assign (lk1 rfl <| lk0)) ?_
      refine WL_q rfl (q_assign (lk1 rfl <| lk0)) ?_
      refine WL_nil ?_
      refine then_n ?_
      refine WC_block ?_
      refine WC_seq ?_
      refine WC_reg fun ds => ?_
      refine WL_q rfl (q_move (lk0)) ?_
      refine WL_q rfl (q_geq (lk0) lk_const) ?_
      refine WL_q rfl (q_move (lk0)) ?_
      refine WL_want rfl rfl (lk0) (by first | rfl | exact decide_eq_true (by omega)) ?_
      refine WL_q rfl (q_move (lk2 rfl <| lk1 rfl <| lk0)) ?_
      refine WL_want rfl rfl (lk1 rfl <| lk0) (by first | rfl | exact decide_eq_true (by omega)) ?_
      refine WL_q rfl (q_leq (lk0) lk_const) ?_
      refine WL_q rfl (q_pick_true (lk2 rfl <| lk0) (by first | rfl | exact decide_eq_true (by omega)) (lk0)) ?_
      refine WL_q rfl (q_assign (lk0)) ?_
      refine WL_nil ?_
      refine then_n ?_
      by_cases hl2 : (s[k].toNat : Int) ≤ 122
      ·
       have hch : chOk k s[k] = true := by unfold chOk letterB digitB; simp; omega
       refine WC_if_true (lk0) (by first | rfl | exact decide_eq_true (by omega)) ?_
       refine WC_skip ?_
       refine block_n (block_n ?_)
       refine then_n ⟨_, m - 1, Off.eq (ou8 rfl <| ou4 rfl <| ou1 rfl <| off_over), by omega, ?_⟩
       refine ⟨k + 1, by omega, rfl, fun j hj hjk => ?_⟩
       rcases Nat.lt_succ_iff_lt_or_eq.1 hjk with hjk | rfl
       · exact hno j hj hjk
       · exact hch
      ·
       refine WC_if_false (lk0) (by first | rfl | exact decide_eq_false (by omega)) ?_
       by_cases hz : k = 0
       ·
        refine WC_seq ?_
        refine WC_reg fun ds => ?_
        refine WL_q rfl (q_move (lk8 rfl <| lk0)) ?_
        refine WL_q rfl (q_gtr (lk0) lk_const) ?_
        refine WL_q rfl (q_move (lk0)) ?_
        refine WL_pass rfl rfl (lk0) (.inl (congrArg Value.bool (by first | rfl | exact decide_eq_false (by omega)))) rfl ?_
        refine WL_pass rfl rfl (lk1 rfl <| lk0) (.inl (congrArg Value.bool (by first | rfl | exact decide_eq_false (by omega)))) rfl ?_
        refine WL_pass rfl rfl (lk2 rfl <| lk0) (.inl (congrArg Value.bool (by first | rfl | exact decide_eq_false (by omega)))) rfl ?_
        refine WL_pass rfl rfl (lk0) (.inr rfl) rfl ?_
        refine WL_pass rfl rfl (lk1 rfl <| lk0) (.inr rfl) rfl ?_
        refine WL_pass rfl rfl (lk4 rfl <| lk1 rfl <| lk0) (.inl (congrArg Value.bool (by first | rfl | exact decide_eq_false (by omega)))) rfl ?_
        refine WL_pass rfl rfl (lk4 rfl <| lk2 rfl <| lk0) (.inl (congrArg Value.bool (by first | rfl | exact decide_eq_false (by omega)))) rfl ?_
        refine WL_pass rfl rfl (lk0) (.inr rfl) rfl ?_
        refine WL_pass rfl rfl (lk1 rfl <| lk0) (.inr rfl) rfl ?_
        refine WL_pass rfl rfl (lk8 rfl <| lk1 rfl <| lk0) (.inl (congrArg Value.bool (by first | rfl | exact decide_eq_false (by omega)))) rfl ?_
        refine WL_q rfl (q_pick_false (lk8 rfl <| lk2 rfl <| lk0) (by first | rfl | exact decide_eq_false (by omega)) lk_const) ?_
        refine WL_q rfl (q_assign (lk0)) ?_
        refine WL_nil ?_
        refine then_n ?_
        have hch : chOk k s[k] = false := by unfold chOk letterB digitB; simp; omega
        refine WC_if_false (lk0) (by first | rfl | exact decide_eq_false (by omega)) ?_
        refine WC_seq ?_
        refine WC_reg fun ds => ?_
        refine WL_q rfl (q_assign lk_const) ?_
        refine WL_nil ?_
        refine then_n ?_
        refine WC_ret ?_
        refine block_r (block_r (then_r (block_r (then_r ?_))))
        refine post_ret rfl (.tmp (lk0) .nil) ?_
        show _ = _
        rw [nameOk_bad (i := k) hlt hch]; rfl
       ·
        refine WC_seq ?_
        refine WC_reg fun ds => ?_
        refine WL_q rfl (q_move (lk8 rfl <| lk0)) ?_
        refine WL_q rfl (q_gtr (lk0) lk_const) ?_
        refine WL_q rfl (q_move (lk0)) ?_
        refine WL_want rfl rfl (lk0) (by first | rfl | exact decide_eq_true (by omega)) ?_
        refine WL_q rfl (q_move (lk8 rfl <| lk2 rfl <| lk0)) ?_
        refine WL_want rfl rfl (lk1 rfl <| lk0) (by first | rfl | exact decide_eq_true (by omega)) ?_
        refine WL_q rfl (q_geq (lk0) lk_const) ?_
        refine WL_want rfl rfl (lk2 rfl <| lk0) (by first | rfl | exact decide_eq_true (by omega)) ?_
        refine WL_q rfl (q_move (lk0)) ?_
        by_cases hd1 : 48 ≤ (s[k].toNat : Int)
        ·
         refine WL_want rfl rfl (lk0) (by first | rfl | exact decide_eq_true (by omega)) ?_
         refine WL_q rfl (q_move (lk8 rfl <| lk4 rfl <| lk1 rfl <| lk0)) ?_
         refine WL_want rfl rfl (lk1 rfl <| lk0) (by first | rfl | exact decide_eq_true (by omega)) ?_
         refine WL_q rfl (q_leq (lk0) lk_const) ?_
         refine WL_want rfl rfl (lk4 rfl <| lk1 rfl <| lk0) (by first | rfl | exact decide_eq_true (by omega)) ?_
         refine WL_q rfl (q_pick_true (lk2 rfl <| lk0) (by first | rfl | exact decide_eq_true (by omega)) (lk0)) ?_
         refine WL_want rfl rfl (lk4 rfl <| lk2 rfl <| lk0) (by first | rfl | exact decide_eq_true (by omega)) ?_
         refine WL_q rfl (q_move (lk0)) ?_
         by_cases hd2 : (s[k].toNat : Int) ≤ 57
         ·
          refine WL_pass rfl rfl (lk0) (.inl (congrArg Value.bool (by first | rfl | exact decide_eq_true (by omega)))) rfl ?_
          refine WL_pass rfl rfl (lk1 rfl <| lk0) (.inl (congrArg Value.bool (by first | rfl | exact decide_eq_true (by omega)))) rfl ?_
          refine WL_want rfl rfl (lk8 rfl <| lk1 rfl <| lk0) (by first | rfl | exact decide_eq_true (by omega)) ?_
          refine WL_q rfl (q_pick_true (lk2 rfl <| lk0) (by first | rfl | exact decide_eq_true (by omega)) lk_const) ?_
          refine WL_q rfl (q_pick_true (lk8 rfl <| lk2 rfl <| lk0) (by first | rfl | exact decide_eq_true (by omega)) (lk0)) ?_
          refine WL_q rfl (q_assign (lk0)) ?_
          refine WL_nil ?_
          refine then_n ?_
          have hch : chOk k s[k] = true := by unfold chOk letterB digitB; simp; omega
          refine WC_if_true (lk0) (by first | rfl | exact decide_eq_true (by omega)) ?_
          refine WC_skip ?_
          refine block_n (block_n ?_)
          refine then_n ⟨_, m - 1, Off.eq (ou16 rfl <| ou8 rfl <| ou4 rfl <| off_over), by omega, ?_⟩
          refine ⟨k + 1, by omega, rfl, fun j hj hjk => ?_⟩
          rcases Nat.lt_succ_iff_lt_or_eq.1 hjk with hjk | rfl
          · exact hno j hj hjk
          · exact hch
         ·
          refine WL_want rfl rfl (lk0) (by first | rfl | exact decide_eq_false (by omega)) ?_
          refine WL_q rfl (q_move (lk16 rfl <| lk1 rfl <| lk0)) ?_
          refine WL_want rfl rfl (lk1 rfl <| lk0) (by first | rfl | exact decide_eq_false (by omega)) ?_
          refine WL_q rfl (q_eql (lk0) lk_const) ?_
          refine WL_want rfl rfl (lk8 rfl <| lk1 rfl <| lk0) (by first | rfl | exact decide_eq_true (by omega)) ?_
          refine WL_q rfl (q_pick_false (lk2 rfl <| lk0) (by first | rfl | exact decide_eq_false (by omega)) (lk0)) ?_
          refine WL_q rfl (q_pick_true (lk8 rfl <| lk2 rfl <| lk0) (by first | rfl | exact decide_eq_true (by omega)) (lk0)) ?_
          refine WL_q rfl (q_assign (lk0)) ?_
          refine WL_nil ?_
          refine then_n ?_
          by_cases hp : (s[k].toNat : Int) = 46
          ·
           have hch : chOk k s[k] = true := by unfold chOk letterB digitB; simp; omega
           refine WC_if_true (lk0) (by first | rfl | exact decide_eq_true (by omega)) ?_
           refine WC_skip ?_
           refine block_n (block_n ?_)
           refine then_n ⟨_, m - 1, Off.eq (ou16 rfl <| ou8 rfl <| ou4 rfl <| off_over), by omega, ?_⟩
           refine ⟨k + 1, by omega, rfl, fun j hj hjk => ?_⟩
           rcases Nat.lt_succ_iff_lt_or_eq.1 hjk with hjk | rfl
           · exact hno j hj hjk
           · exact hch
          ·
           have hch : chOk k s[k] = false := by unfold chOk letterB digitB; simp; omega
           refine WC_if_false (lk0) (by first | rfl | exact decide_eq_false (by omega)) ?_
           refine WC_seq ?_
           refine WC_reg fun ds => ?_
           refine WL_q rfl (q_assign lk_const) ?_
           refine WL_nil ?_
           refine then_n ?_
           refine WC_ret ?_
           refine block_r (block_r (then_r (block_r (then_r ?_))))
           refine post_ret rfl (.tmp (lk0) .nil) ?_
           show _ = _
           rw [nameOk_bad (i := k) hlt hch]; rfl
        ·
         refine WL_pass rfl rfl (lk0) (.inl (congrArg Value.bool (by first | rfl | exact decide_eq_false (by omega)))) rfl ?_
         refine WL_pass rfl rfl (lk1 rfl <| lk0) (.inl (congrArg Value.bool (by first | rfl | exact decide_eq_false (by omega)))) rfl ?_
         refine WL_want rfl rfl (lk4 rfl <| lk1 rfl <| lk0) (by first | rfl | exact decide_eq_true (by omega)) ?_
         refine WL_q rfl (q_pick_false (lk2 rfl <| lk0) (by first | rfl | exact decide_eq_false (by omega)) lk_const) ?_
         refine WL_want rfl rfl (lk4 rfl <| lk2 rfl <| lk0) (by first | rfl | exact decide_eq_true (by omega)) ?_
         refine WL_q rfl (q_move (lk0)) ?_
         refine WL_want rfl rfl (lk0) (by first | rfl | exact decide_eq_false (by omega)) ?_
         refine WL_q rfl (q_move (lk16 rfl <| lk1 rfl <| lk0)) ?_
         refine WL_want rfl rfl (lk1 rfl <| lk0) (by first | rfl | exact decide_eq_false (by omega)) ?_
         refine WL_q rfl (q_eql (lk0) lk_const) ?_
         refine WL_want rfl rfl (lk8 rfl <| lk1 rfl <| lk0) (by first | rfl | exact decide_eq_true (by omega)) ?_
         refine WL_q rfl (q_pick_false (lk2 rfl <| lk0) (by first | rfl | exact decide_eq_false (by omega)) (lk0)) ?_
         refine WL_q rfl (q_pick_true (lk8 rfl <| lk2 rfl <| lk0) (by first | rfl | exact decide_eq_true (by omega)) (lk0)) ?_
         refine WL_q rfl (q_assign (lk0)) ?_
         refine WL_nil ?_
         refine then_n ?_
         by_cases hp : (s[k].toNat : Int) = 46
         ·
          have hch : chOk k s[k] = true := by unfold chOk letterB digitB; simp; omega
          refine WC_if_true (lk0) (by first | rfl | exact decide_eq_true (by omega)) ?_
          refine WC_skip ?_
          refine block_n (block_n ?_)
          refine then_n ⟨_, m - 1, Off.eq (ou16 rfl <| ou8 rfl <| ou4 rfl <| off_over), by omega, ?_⟩
          refine ⟨k + 1, by omega, rfl, fun j hj hjk => ?_⟩
          rcases Nat.lt_succ_iff_lt_or_eq.1 hjk with hjk | rfl
          · exact hno j hj hjk
          · exact hch
         ·
          have hch : chOk k s[k] = false := by unfold chOk letterB digitB; simp; omega
          refine WC_if_false (lk0) (by first | rfl | exact decide_eq_false (by omega)) ?_
          refine WC_seq ?_
          refine WC_reg fun ds => ?_
          refine WL_q rfl (q_assign lk_const) ?_
          refine WL_nil ?_
          refine then_n ?_
          refine WC_ret ?_
          refine block_r (block_r (then_r (block_r (then_r ?_))))
          refine post_ret rfl (.tmp (lk0) .nil) ?_
          show _ = _
          rw [nameOk_bad (i := k) hlt hch]; rfl
     ·
      refine WC_skip ?_
      refine then_n ?_
      refine WC_block ?_
      refine WC_seq ?_
      refine WC_reg fun ds => ?_
      refine WL_q rfl (q_extract (lk1 rfl <| lk0) rfl) ?_
      refine WL_q rfl (q_extract (lk2 rfl <| lk0) rfl) ?_
      refine WL_q rfl (q_assign (lk1 rfl <| lk0)) ?_
      refine WL_q rfl (q_assign (lk1 rfl <| lk0)) ?_
      refine WL_nil ?_
      refine then_n ?_
      refine WC_block ?_
      refine WC_seq ?_
      refine WC_reg fun ds => ?_
      refine WL_q rfl (q_move (lk0)) ?_
      refine WL_q rfl (q_geq (lk0) lk_const) ?_
      refine WL_q rfl (q_move (lk0)) ?_
      refine WL_pass rfl rfl (lk0) (.inl (congrArg Value.bool (by first | rfl | exact decide_eq_false (by omega)))) rfl ?_
      refine WL_pass rfl rfl (lk1 rfl <| lk0) (.inl (congrArg Value.bool (by first | rfl | exact decide_eq_false (by omega)))) rfl ?_
      refine WL_q rfl (q_pick_false (lk2 rfl <| lk0) (by first | rfl | exact decide_eq_false (by omega)) lk_const) ?_
      refine WL_q rfl (q_assign (lk0)) ?_
      refine WL_nil ?_
      refine then_n ?_
      refine WC_if_false (lk0) (by first | rfl | exact decide_eq_false (by omega)) ?_
      by_cases hz : k = 0
      ·
       refine WC_seq ?_
       refine WC_reg fun ds => ?_
       refine WL_q rfl (q_move (lk8 rfl <| lk0)) ?_
       refine WL_q rfl (q_gtr (lk0) lk_const) ?_
       refine WL_q rfl (q_move (lk0)) ?_
       refine WL_pass rfl rfl (lk0) (.inl (congrArg Value.bool (by first | rfl | exact decide_eq_false (by omega)))) rfl ?_
       refine WL_pass rfl rfl (lk1 rfl <| lk0) (.inl (congrArg Value.bool (by first | rfl | exact decide_eq_false (by omega)))) rfl ?_
       refine WL_pass rfl rfl (lk2 rfl <| lk0) (.inl (congrArg Value.bool (by first | rfl | exact decide_eq_false (by omega)))) rfl ?_
       refine WL_pass rfl rfl (lk0) (.inr rfl) rfl ?_
       refine WL_pass rfl rfl (lk1 rfl <| lk0) (.inr rfl) rfl ?_
       refine WL_pass rfl rfl (lk4 rfl <| lk1 rfl <| lk0) (.inl (congrArg Value.bool (by first | rfl | exact decide_eq_false (by omega)))) rfl ?_
       refine WL_pass rfl rfl (lk4 rfl <| lk2 rfl <| lk0) (.inl (congrArg Value.bool (by first | rfl | exact decide_eq_false (by omega)))) rfl ?_
       refine WL_pass rfl rfl (lk0) (.inr rfl) rfl ?_
       refine WL_pass rfl rfl (lk1 rfl <| lk0) (.inr rfl) rfl ?_
       refine WL_pass rfl rfl (lk8 rfl <| lk1 rfl <| lk0) (.inl (congrArg Value.bool (by first | rfl | exact decide_eq_false (by omega)))) rfl ?_
       refine WL_q rfl (q_pick_false (lk8 rfl <| lk2 rfl <| lk0) (by first | rfl | exact decide_eq_false (by omega)) lk_const) ?_
       refine WL_q rfl (q_assign (lk0)) ?_
       refine WL_nil ?_
       refine then_n ?_
       have hch : chOk k s[k] = false := by unfold chOk letterB digitB; simp; omega
       refine WC_if_false (lk0) (by first | rfl | exact decide_eq_false (by omega)) ?_
       refine WC_seq ?_
       refine WC_reg fun ds => ?_
       refine WL_q rfl (q_assign lk_const) ?_
       refine WL_nil ?_
       refine then_n ?_
       refine WC_ret ?_
       refine block_r (block_r (then_r (block_r (then_r ?_))))
       refine post_ret rfl (.tmp (lk0) .nil) ?_
       show _ = _
       rw [nameOk_bad (i := k) hlt hch]; rfl
      ·
       refine WC_seq ?_
       refine WC_reg fun ds => ?_
       refine WL_q rfl (q_move (lk8 rfl <| lk0)) ?_
       refine WL_q rfl (q_gtr (lk0) lk_const) ?_
       refine WL_q rfl (q_move (lk0)) ?_
       refine WL_want rfl rfl (lk0) (by first | rfl | exact decide_eq_true (by omega)) ?_
       refine WL_q rfl (q_move (lk8 rfl <| lk2 rfl <| lk0)) ?_
       refine WL_want rfl rfl (lk1 rfl <| lk0) (by first | rfl | exact decide_eq_true (by omega)) ?_
       refine WL_q rfl (q_geq (lk0) lk_const) ?_
       refine WL_want rfl rfl (lk2 rfl <| lk0) (by first | rfl | exact decide_eq_true (by omega)) ?_
       refine WL_q rfl (q_move (lk0)) ?_
       by_cases hd1 : 48 ≤ (s[k].toNat : Int)
       ·
        refine WL_want rfl rfl (lk0) (by first | rfl | exact decide_eq_true (by omega)) ?_
        refine WL_q rfl (q_move (lk8 rfl <| lk4 rfl <| lk1 rfl <| lk0)) ?_
        refine WL_want rfl rfl (lk1 rfl <| lk0) (by first | rfl | exact decide_eq_true (by omega)) ?_
        refine WL_q rfl (q_leq (lk0) lk_const) ?_
        refine WL_want rfl rfl (lk4 rfl <| lk1 rfl <| lk0) (by first | rfl | exact decide_eq_true (by omega)) ?_
        refine WL_q rfl (q_pick_true (lk2 rfl <| lk0) (by first | rfl | exact decide_eq_true (by omega)) (lk0)) ?_
        refine WL_want rfl rfl (lk4 rfl <| lk2 rfl <| lk0) (by first | rfl | exact decide_eq_true (by omega)) ?_
        refine WL_q rfl (q_move (lk0)) ?_
        by_cases hd2 : (s[k].toNat : Int) ≤ 57
        ·
         refine WL_pass rfl rfl (lk0) (.inl (congrArg Value.bool (by first | rfl | exact decide_eq_true (by omega)))) rfl ?_
         refine WL_pass rfl rfl (lk1 rfl <| lk0) (.inl (congrArg Value.bool (by first | rfl | exact decide_eq_true (by omega)))) rfl ?_
         refine WL_want rfl rfl (lk8 rfl <| lk1 rfl <| lk0) (by first | rfl | exact decide_eq_true (by omega)) ?_
         refine WL_q rfl (q_pick_true (lk2 rfl <| lk0) (by first | rfl | exact decide_eq_true (by omega)) lk_const) ?_
         refine WL_q rfl (q_pick_true (lk8 rfl <| lk2 rfl <| lk0) (by first | rfl | exact decide_eq_true (by omega)) (lk0)) ?_
         refine WL_q rfl (q_assign (lk0)) ?_
         refine WL_nil ?_
         refine then_n ?_
         have hch : chOk k s[k] = true := by unfold chOk letterB digitB; simp; omega
         refine WC_if_true (lk0) (by first | rfl | exact decide_eq_true (by omega)) ?_
         refine WC_skip ?_
         refine block_n (block_n ?_)
         refine then_n ⟨_, m - 1, Off.eq (ou16 rfl <| ou8 rfl <| ou4 rfl <| off_over), by omega, ?_⟩
         refine ⟨k + 1, by omega, rfl, fun j hj hjk => ?_⟩
         rcases Nat.lt_succ_iff_lt_or_eq.1 hjk with hjk | rfl
         · exact hno j hj hjk
         · exact hch
        ·
         refine WL_want rfl rfl (lk0) (by first | rfl | exact decide_eq_false (by omega)) ?_
         refine WL_q rfl (q_move (lk16 rfl <| lk1 rfl <| lk0)) ?_
         refine WL_want rfl rfl (lk1 rfl <| lk0) (by first | rfl | exact decide_eq_false (by omega)) ?_
         refine WL_q rfl (q_eql (lk0) lk_const) ?_
         refine WL_want rfl rfl (lk8 rfl <| lk1 rfl <| lk0) (by first | rfl | exact decide_eq_true (by omega)) ?_
         refine WL_q rfl (q_pick_false (lk2 rfl <| lk0) (by first | rfl | exact decide_eq_false (by omega)) (lk0)) ?_
         refine WL_q rfl (q_pick_true (lk8 rfl <| lk2 rfl <| lk0) (by first | rfl | exact decide_eq_true (by omega)) (lk0)) ?_
         refine WL_q rfl (q_assign (lk0)) ?_
         refine WL_nil ?_
         refine then_n ?_
         by_cases hp : (s[k].toNat : Int) = 46
         ·
          have hch : chOk k s[k] = true := by unfold chOk letterB digitB; simp; omega
          refine WC_if_true (lk0) (by first | rfl | exact decide_eq_true (by omega)) ?_
          refine WC_skip ?_
          refine block_n (block_n ?_)
          refine then_n ⟨_, m - 1, Off.eq (ou16 rfl <| ou8 rfl <| ou4 rfl <| off_over), by omega, ?_⟩
          refine ⟨k + 1, by omega, rfl, fun j hj hjk => ?_⟩
          rcases Nat.lt_succ_iff_lt_or_eq.1 hjk with hjk | rfl
          · exact hno j hj hjk
          · exact hch
         ·
          have hch : chOk k s[k] = false := by unfold chOk letterB digitB; simp; omega
          refine WC_if_false (lk0) (by first | rfl | exact decide_eq_false (by omega)) ?_
          refine WC_seq ?_
          refine WC_reg fun ds => ?_
          refine WL_q rfl (q_assign lk_const) ?_
          refine WL_nil ?_
          refine then_n ?_
          refine WC_ret ?_
          refine block_r (block_r (then_r (block_r (then_r ?_))))
          refine post_ret rfl (.tmp (lk0) .nil) ?_
          show _ = _
          rw [nameOk_bad (i := k) hlt hch]; rfl
       ·
        refine WL_pass rfl rfl (lk0) (.inl (congrArg Value.bool (by first | rfl | exact decide_eq_false (by omega)))) rfl ?_
        refine WL_pass rfl rfl (lk1 rfl <| lk0) (.inl (congrArg Value.bool (by first | rfl | exact decide_eq_false (by omega)))) rfl ?_
        refine WL_want rfl rfl (lk4 rfl <| lk1 rfl <| lk0) (by first | rfl | exact decide_eq_true (by omega)) ?_
        refine WL_q rfl (q_pick_false (lk2 rfl <| lk0) (by first | rfl | exact decide_eq_false (by omega)) lk_const) ?_
        refine WL_want rfl rfl (lk4 rfl <| lk2 rfl <| lk0) (by first | rfl | exact decide_eq_true (by omega)) ?_
        refine WL_q rfl (q_move (lk0)) ?_
        refine WL_want rfl rfl (lk0) (by first | rfl | exact decide_eq_false (by omega)) ?_
        refine WL_q rfl (q_move (lk16 rfl <| lk1 rfl <| lk0)) ?_
        refine WL_want rfl rfl (lk1 rfl <| lk0) (by first | rfl | exact decide_eq_false (by omega)) ?_
        refine WL_q rfl (q_eql (lk0) lk_const) ?_
        refine WL_want rfl rfl (lk8 rfl <| lk1 rfl <| lk0) (by first | rfl | exact decide_eq_true (by omega)) ?_
        refine WL_q rfl (q_pick_false (lk2 rfl <| lk0) (by first | rfl | exact decide_eq_false (by omega)) (lk0)) ?_
        refine WL_q rfl (q_pick_true (lk8 rfl <| lk2 rfl <| lk0) (by first | rfl | exact decide_eq_true (by omega)) (lk0)) ?_
        refine WL_q rfl (q_assign (lk0)) ?_
        refine WL_nil ?_
        refine then_n ?_
        by_cases hp : (s[k].toNat : Int) = 46
        ·
         have hch : chOk k s[k] = true := by unfold chOk letterB digitB; simp; omega
         refine WC_if_true (lk0) (by first | rfl | exact decide_eq_true (by omega)) ?_
         refine WC_skip ?_
         refine block_n (block_n ?_)
         refine then_n ⟨_, m - 1, Off.eq (ou16 rfl <| ou8 rfl <| ou4 rfl <| off_over), by omega, ?_⟩
         refine ⟨k + 1, by omega, rfl, fun j hj hjk => ?_⟩
         rcases Nat.lt_succ_iff_lt_or_eq.1 hjk with hjk | rfl
         · exact hno j hj hjk
         · exact hch
        ·
         have hch : chOk k s[k] = false := by unfold chOk letterB digitB; simp; omega
         refine WC_if_false (lk0) (by first | rfl | exact decide_eq_false (by omega)) ?_
         refine WC_seq ?_
         refine WC_reg fun ds => ?_
         refine WL_q rfl (q_assign lk_const) ?_
         refine WL_nil ?_
         refine then_n ?_
         refine WC_ret ?_
         refine block_r (block_r (then_r (block_r (then_r ?_))))
         refine post_ret rfl (.tmp (lk0) .nil) ?_
         show _ = _
         rw [nameOk_bad (i := k) hlt hch]; rfl
    ·
     obtain ⟨rc, wd, hdec⟩ : ∃ rc wd, Utf8.decode s k = (rc, wd) := ⟨_, _, rfl⟩
     have hrc : 128 ≤ rc := by have := decode_high s k hlt (by omega); rw [hdec] at this; exact this
     refine WC_seq ?_
     refine WC_reg fun ds => ?_
     refine WL_x rfl (x_nextS (lk_off rfl <| lk0) (i := 0) rfl hlt hdec (.here) ?_)
     refine WL_q rfl (q_extract (lk0) rfl) ?_
     refine WL_nil ?_
     refine then_n ?_
     refine WC_seq ?_
     refine WC_if_true (lk0) rfl ?_
     refine WC_skip ?_
     refine then_n ?_
     refine WC_block ?_
     refine WC_seq ?_
     refine WC_reg fun ds => ?_
     refine WL_q rfl (q_extract (lk1 rfl <| lk0) rfl) ?_
     refine WL_q rfl (q_extract (lk2 rfl <| lk0) rfl) ?_
     refine WL_q rfl (q_assign (lk1 rfl <| lk0)) ?_
     refine WL_q rfl (q_assign (lk1 rfl <| lk0)) ?_
     refine WL_nil ?_
     refine then_n ?_
     refine WC_block ?_
     refine WC_seq ?_
     refine WC_reg fun ds => ?_
     refine WL_q rfl (q_move (lk0)) ?_
     refine WL_q rfl (q_geq (lk0) lk_const) ?_
     refine WL_q rfl (q_move (lk0)) ?_
     refine WL_want rfl rfl (lk0) (by first | rfl | exact decide_eq_true (by omega)) ?_
     refine WL_q rfl (q_move (lk2 rfl <| lk1 rfl <| lk0)) ?_
     refine WL_want rfl rfl (lk1 rfl <| lk0) (by first | rfl | exact decide_eq_true (by omega)) ?_
     refine WL_q rfl (q_leq (lk0) lk_const) ?_
     refine WL_q rfl (q_pick_true (lk2 rfl <| lk0) (by first | rfl | exact decide_eq_true (by omega)) (lk0)) ?_
     refine WL_q rfl (q_assign (lk0)) ?_
     refine WL_nil ?_
     refine then_n ?_
     refine WC_if_false (lk0) (by first | rfl | exact decide_eq_false (by omega)) ?_
     have hch : chOk k s[k] = false := by unfold chOk letterB digitB; simp; omega
     by_cases hz : k = 0
     ·
      refine WC_seq ?_
      refine WC_reg fun ds => ?_
      refine WL_q rfl (q_move (lk8 rfl <| lk0)) ?_
      refine WL_q rfl (q_gtr (lk0) lk_const) ?_
      refine WL_q rfl (q_move (lk0)) ?_
      refine WL_pass rfl rfl (lk0) (.inl (congrArg Value.bool (by first | rfl | exact decide_eq_false (by omega)))) rfl ?_
      refine WL_pass rfl rfl (lk1 rfl <| lk0) (.inl (congrArg Value.bool (by first | rfl | exact decide_eq_false (by omega)))) rfl ?_
      refine WL_pass rfl rfl (lk2 rfl <| lk0) (.inl (congrArg Value.bool (by first | rfl | exact decide_eq_false (by omega)))) rfl ?_
      refine WL_pass rfl rfl (lk0) (.inr rfl) rfl ?_
      refine WL_pass rfl rfl (lk1 rfl <| lk0) (.inr rfl) rfl ?_
      refine WL_pass rfl rfl (lk4 rfl <| lk1 rfl <| lk0) (.inl (congrArg Value.bool (by first | rfl | exact decide_eq_false (by omega)))) rfl ?_
      refine WL_pass rfl rfl (lk4 rfl <| lk2 rfl <| lk0) (.inl (congrArg Value.bool (by first | rfl | exact decide_eq_false (by omega)))) rfl ?_
      refine WL_pass rfl rfl (lk0) (.inr rfl) rfl ?_
      refine WL_pass rfl rfl (lk1 rfl <| lk0) (.inr rfl) rfl ?_
      refine WL_pass rfl rfl (lk8 rfl <| lk1 rfl <| lk0) (.inl (congrArg Value.bool (by first | rfl | exact decide_eq_false (by omega)))) rfl ?_
      refine WL_q rfl (q_pick_false (lk8 rfl <| lk2 rfl <| lk0) (by first | rfl | exact decide_eq_false (by omega)) lk_const) ?_
      refine WL_q rfl (q_assign (lk0)) ?_
      refine WL_nil ?_
      refine then_n ?_
      refine WC_if_false (lk0) (by first | rfl | exact decide_eq_false (by omega)) ?_
      refine WC_seq ?_
      refine WC_reg fun ds => ?_
      refine WL_q rfl (q_assign lk_const) ?_
      refine WL_nil ?_
      refine then_n ?_
      refine WC_ret ?_
      refine block_r (block_r (then_r (block_r (then_r ?_))))
      refine post_ret rfl (.tmp (lk0) .nil) ?_
      show _ = _
      rw [nameOk_bad (i := k) hlt hch]; rfl
     ·
      refine WC_seq ?_
      refine WC_reg fun ds => ?_
      refine WL_q rfl (q_move (lk8 rfl <| lk0)) ?_
      refine WL_q rfl (q_gtr (lk0) lk_const) ?_
      refine WL_q rfl (q_move (lk0)) ?_
      refine WL_want rfl rfl (lk0) (by first | rfl | exact decide_eq_true (by omega)) ?_
      refine WL_q rfl (q_move (lk8 rfl <| lk2 rfl <| lk0)) ?_
      refine WL_want rfl rfl (lk1 rfl <| lk0) (by first | rfl | exact decide_eq_true (by omega)) ?_
      refine WL_q rfl (q_geq (lk0) lk_const) ?_
      refine WL_want rfl rfl (lk2 rfl <| lk0) (by first | rfl | exact decide_eq_true (by omega)) ?_
      refine WL_q rfl (q_move (lk0)) ?_
      refine WL_want rfl rfl (lk0) (by first | rfl | exact decide_eq_true (by omega)) ?_
      refine WL_q rfl (q_move (lk8 rfl <| lk4 rfl <| lk1 rfl <| lk0)) ?_
      refine WL_want rfl rfl (lk1 rfl <| lk0) (by first | rfl | exact decide_eq_true (by omega)) ?_
      refine WL_q rfl (q_leq (lk0) lk_const) ?_
      refine WL_want rfl rfl (lk4 rfl <| lk1 rfl <| lk0) (by first | rfl | exact decide_eq_true (by omega)) ?_
      refine WL_q rfl (q_pick_true (lk2 rfl <| lk0) (by first | rfl | exact decide_eq_true (by omega)) (lk0)) ?_
      refine WL_want rfl rfl (lk4 rfl <| lk2 rfl <| lk0) (by first | rfl | exact decide_eq_true (by omega)) ?_
      refine WL_q rfl (q_move (lk0)) ?_
      refine WL_want rfl rfl (lk0) (by first | rfl | exact decide_eq_false (by omega)) ?_
      refine WL_q rfl (q_move (lk16 rfl <| lk1 rfl <| lk0)) ?_
      refine WL_want rfl rfl (lk1 rfl <| lk0) (by first | rfl | exact decide_eq_false (by omega)) ?_
      refine WL_q rfl (q_eql (lk0) lk_const) ?_
      refine WL_want rfl rfl (lk8 rfl <| lk1 rfl <| lk0) (by first | rfl | exact decide_eq_true (by omega)) ?_
      refine WL_q rfl (q_pick_false (lk2 rfl <| lk0) (by first | rfl | exact decide_eq_false (by omega)) (lk0)) ?_
      refine WL_q rfl (q_pick_true (lk8 rfl <| lk2 rfl <| lk0) (by first | rfl | exact decide_eq_true (by omega)) (lk0)) ?_
      refine WL_q rfl (q_assign (lk0)) ?_
      refine WL_nil ?_
      refine then_n ?_
      refine WC_if_false (lk0) (by first | rfl | exact decide_eq_false (by omega)) ?_
      refine WC_seq ?_
      refine WC_reg fun ds => ?_
      refine WL_q rfl (q_assign lk_const) ?_
      refine WL_nil ?_
      refine then_n ?_
      refine WC_ret ?_
      refine block_r (block_r (then_r (block_r (then_r ?_))))
      refine post_ret rfl (.tmp (lk0) .nil) ?_
      show _ = _
      rw [nameOk_bad (i := k) hlt hch]; rfl
   ·
    refine WC_seq ?_
    refine WC_reg fun ds => ?_
    refine WL_x rfl (x_nextE (lk_off rfl <| lk0) (i := 0) rfl hlt ?_)
    refine WL_q rfl (q_extract (lk0) rfl) ?_
    refine WL_nil ?_
    refine then_n ?_
    refine WC_seq ?_
    refine WC_if_false (lk0) rfl ?_
    by_cases h0 : s.size = 0
    ·
     refine WC_exit ?_
     refine then_x (then_x (exit_here ?_))
     refine then_n ?_
     refine WC_seq ?_
     refine WC_reg fun ds => ?_
     refine WL_q rfl (q_move (lk2 rfl <| lk_off rfl <| lk2 rfl <| lk1 rfl <| lk_entry rfl)) ?_
     refine WL_q rfl (q_nes (lk0) lk_const) ?_
     refine WL_q rfl (q_move (lk0)) ?_
     refine WL_pass rfl rfl (lk0) (.inl (congrArg Value.bool (by rw [emptyS]; simp [h0]))) rfl ?_
     refine WL_pass rfl rfl (lk1 rfl <| lk0) (.inl (congrArg Value.bool (by rw [emptyS]; simp [h0]))) rfl ?_
     refine WL_pass rfl rfl (lk2 rfl <| lk0) (.inl (congrArg Value.bool (by rw [emptyS]; simp [h0]))) rfl ?_
     refine WL_q rfl (q_pick_false (lk2 rfl <| lk1 rfl <| lk0) (by rw [emptyS]; simp [h0]) lk_const) ?_
     refine WL_q rfl (q_assign (lk0)) ?_
     refine WL_nil ?_
     refine then_n ?_
     refine WC_ret ?_
     refine post_ret rfl (.tmp (lk0) .nil) ?_
     show _ = _
     rw [nameOk_len (by omega)]; rfl
    ·
     refine WC_exit ?_
     refine then_x (then_x (exit_here ?_))
     refine then_n ?_
     refine WC_seq ?_
     refine WC_reg fun ds => ?_
     refine WL_q rfl (q_move (lk2 rfl <| lk_off rfl <| lk2 rfl <| lk1 rfl <| lk_entry rfl)) ?_
     refine WL_q rfl (q_nes (lk0) lk_const) ?_
     refine WL_q rfl (q_move (lk0)) ?_
     refine WL_want rfl rfl (lk0) (by rw [emptyS]; simp [h0]) ?_
     refine WL_q rfl (q_move (lk4 rfl <| lk1 rfl <| lk_off rfl <| lk2 rfl <| lk1 rfl <| lk_entry rfl)) ?_
     refine WL_want rfl rfl (lk1 rfl <| lk0) (by rw [emptyS]; simp [h0]) ?_
     refine WL_q rfl (q_lenS Try.underlying9 (lk0)) ?_
     refine WL_want rfl rfl (lk2 rfl <| lk0) (by rw [emptyS]; simp [h0]) ?_
     refine WL_q rfl (q_leq (lk0) lk_const) ?_
     refine WL_q rfl (q_pick_true (lk2 rfl <| lk1 rfl <| lk0) (by rw [emptyS]; simp [h0]) (lk0)) ?_
     refine WL_q rfl (q_assign (lk0)) ?_
     refine WL_nil ?_
     refine then_n ?_
     by_cases h16 : (s.size : Int) ≤ 16
     ·
      refine WC_ret ?_
      refine post_ret rfl (.tmp (lk0) .nil) ?_
      show _ = _
      rw [nameOk_true (by omega) (by omega) fun j hj => hno j hj (by omega)]; simp [outOf, h16]
     ·
      refine WC_ret ?_
      refine post_ret rfl (.tmp (lk0) .nil) ?_
      show _ = _
      rw [nameOk_len (by omega)]; simp [outOf, h16]
set_option maxRecDepth 100000 in
theorem place_ok {F : Heap} {v : Value} {xs : List ByteArray} (h : Sl F v 1 strE xs) (wd : ByteArray) : Ok Try.prog 101 [v, .string wd].toArray F fun r _ => r = .int .i64 (findI (fun x => sameS x wd) xs) := by
  refine Ok.intro Try.func101 rfl Try.ntmps101 rfl fun w0 => ?_
  have hlen := h.plain.lt
  refine WC_seq ?_
  refine WC_reg fun ds => ?_
  refine WL_q rfl (q_assign lk_const) ?_
  refine WL_nil ?_
  refine then_n ?_
  refine WC_seq ?_
  refine WC_reg fun ds => ?_
  refine WL_q rfl (q_move (lk1 rfl <| lk_entry rfl)) ?_
  refine WL_q rfl (q_lenP sl_136 (lk0) h.plain) ?_
  refine WL_q rfl (q_sub (lk0) lk_const rfl (by omega) (by omega)) ?_
  refine WL_q rfl (q_assign (lk0)) ?_
  refine WL_nil ?_
  refine then_n ?_
  refine WC_seq ?_
  refine WC_block ?_
  refine WC_loopN [5, 10, 11, 12, 13, 14, 15, 16, 17, 18, 19, 20, 21] (fun m e σ => ∃ z : Int, m = (z + 1).toNat ∧ -1 ≤ z ∧ z < xs.length ∧ e 5 = .int .i64 z ∧ σ = ⟨F, []⟩ ∧ ∀ j (hj : j < xs.length), z < j → sameS xs[j] wd = false) (xs.length) ?_ ?_
  · exact ⟨xs.length - 1, by omega, by omega, by omega, (lk0), rfl, fun j hj h => absurd h (by omega)⟩
  ·
   rintro m e _ ⟨z, hm, hz1, hz2, hs5, rfl, hno⟩
   by_cases hz : 0 ≤ z
   ·
    obtain ⟨k, rfl⟩ := Int.eq_ofNat_of_zero_le hz
    have hk : k < xs.length := by omega
    refine WC_seq ?_
    refine WC_seq ?_
    refine WC_reg fun ds => ?_
    refine WL_q rfl (q_move (lk_in rfl hs5)) ?_
    refine WL_q rfl (q_geq (lk0) lk_const) ?_
    refine WL_q rfl (q_move (lk0)) ?_
    refine WL_want rfl rfl (lk0) (by first | rfl | exact decide_eq_true (by omega)) ?_
    refine WL_q rfl (q_move (lk2 rfl <| lk1 rfl <| lk_off rfl <| lk4 rfl <| lk1 rfl <| lk_entry rfl)) ?_
    refine WL_want rfl rfl (lk1 rfl <| lk0) (by first | rfl | exact decide_eq_true (by omega)) ?_
    refine WL_q rfl (q_move (lk4 rfl <| lk_in rfl hs5)) ?_
    refine WL_want rfl rfl (lk2 rfl <| lk0) (by first | rfl | exact decide_eq_true (by omega)) ?_
    refine WL_q rfl (q_index  sl_136 (lk1 rfl <| lk0) h.plain (lk0) rfl (by omega)) ?_
    refine WL_want rfl rfl (lk2 rfl <| lk1 rfl <| lk0) (by first | rfl | exact decide_eq_true (by omega)) ?_
    refine WL_q rfl (q_load1 one_9 (lk0) (h.cell1 (by omega) rfl)) ?_
    refine WL_want rfl rfl (lk4 rfl <| lk0) (by first | rfl | exact decide_eq_true (by omega)) ?_
    refine WL_q rfl (q_move (lk4 rfl <| lk2 rfl <| lk1 rfl <| lk_off rfl <| lk4 rfl <| lk1 rfl <| lk_entry rfl)) ?_
    refine WL_want rfl rfl (lk4 rfl <| lk1 rfl <| lk0) (by first | rfl | exact decide_eq_true (by omega)) ?_
    refine WL_q rfl (q_nes (lk1 rfl <| lk0) (lk0)) ?_
    refine WL_q rfl (q_pick_true (lk4 rfl <| lk2 rfl <| lk0) (by first | rfl | exact decide_eq_true (by omega)) (lk0)) ?_
    refine WL_nil ?_
    refine then_n ?_
    by_cases hsm : sameS xs[k] wd = true
    ·
     refine WC_if_false (lk0) (by simpa [sameS] using hsm) ?_
     refine WC_exit ?_
     refine then_x (then_x (exit_here ?_))
     refine then_n ?_
     refine WC_seq ?_
     refine WC_seq ?_
     refine WC_reg fun ds => ?_
     refine WL_q rfl (q_assign lk_const) ?_
     refine WL_nil ?_
     refine then_n ?_
     refine WC_block ?_
     refine WC_loopN [4, 6, 22, 23, 24, 25, 26, 27, 28, 29, 30, 31, 32, 33] (fun m e σ => ∃ q : Nat, m + q = k ∧ e 6 = .int .i64 q ∧ σ = ⟨F, []⟩ ∧ ∀ j (hj : j < xs.length), j < q → sameS xs[j] wd = false) (k) ?_ ?_
     · exact ⟨0, by omega, (lk0), rfl, fun j hj h => absurd h (by omega)⟩
     ·
      rintro m2 e2 _ ⟨q, hm2, ht6, rfl, hno2⟩
      by_cases hq : q < k
      ·
       refine WC_seq ?_
       refine WC_seq ?_
       refine WC_reg fun ds => ?_
       refine WL_q rfl (q_move (lk_in rfl ht6)) ?_
       refine WL_q rfl (q_move (lk1 rfl <| lk_off rfl <| lk8 rfl <| lk2 rfl <| lk1 rfl <| lk_in rfl hs5)) ?_
       refine WL_q rfl (q_lss (lk1 rfl <| lk0) (lk0)) ?_
       refine WL_nil ?_
       refine then_n ?_
       refine WC_if_true (lk0) (by first | rfl | exact decide_eq_true (by omega)) ?_
       by_cases hsq : sameS xs[q] wd = true
       ·
        refine WC_skip ?_
        refine then_n ?_
        refine WC_seq ?_
        refine WC_block ?_
        refine WC_seq ?_
        refine WC_reg fun ds => ?_
        refine WL_q rfl (q_move (lk2 rfl <| lk1 rfl <| lk_off rfl <| lk8 rfl <| lk2 rfl <| lk1 rfl <| lk_off rfl <| lk4 rfl <| lk1 rfl <| lk_entry rfl)) ?_
        refine WL_q rfl (q_move (lk4 rfl <| lk_in rfl ht6)) ?_
        refine WL_q rfl (q_index  sl_136 (lk1 rfl <| lk0) h.plain (lk0) rfl (by omega)) ?_
        refine WL_q rfl (q_load1 one_9 (lk0) (h.cell1 (by omega) rfl)) ?_
        refine WL_q rfl (q_move (lk4 rfl <| lk2 rfl <| lk1 rfl <| lk_off rfl <| lk8 rfl <| lk2 rfl <| lk1 rfl <| lk_off rfl <| lk4 rfl <| lk1 rfl <| lk_entry rfl)) ?_
        refine WL_q rfl (q_eqs (lk1 rfl <| lk0) (lk0)) ?_
        refine WL_nil ?_
        refine then_n ?_
        refine WC_if_true (lk0) hsq ?_
        refine WC_seq ?_
        refine WC_reg fun ds => ?_
        refine WL_q rfl (q_move (lk8 rfl <| lk1 rfl <| lk_in rfl ht6)) ?_
        refine WL_q rfl (q_assign (lk0)) ?_
        refine WL_nil ?_
        refine then_n ?_
        refine WC_ret ?_
        refine block_r (then_r (then_r (block_r (then_r ?_))))
        refine post_ret rfl (.tmp (lk0) .nil) ?_
        show _ = _
        rw [findI_some (p := fun x => sameS x wd) (k := q) (by omega) hsq hno2]; rfl
       ·
        replace hsq : sameS xs[q] wd = false := by simpa using hsq
        refine WC_skip ?_
        refine then_n ?_
        refine WC_seq ?_
        refine WC_block ?_
        refine WC_seq ?_
        refine WC_reg fun ds => ?_
        refine WL_q rfl (q_move (lk2 rfl <| lk1 rfl <| lk_off rfl <| lk8 rfl <| lk2 rfl <| lk1 rfl <| lk_off rfl <| lk4 rfl <| lk1 rfl <| lk_entry rfl)) ?_
        refine WL_q rfl (q_move (lk4 rfl <| lk_in rfl ht6)) ?_
        refine WL_q rfl (q_index  sl_136 (lk1 rfl <| lk0) h.plain (lk0) rfl (by omega)) ?_
        refine WL_q rfl (q_load1 one_9 (lk0) (h.cell1 (by omega) rfl)) ?_
        refine WL_q rfl (q_move (lk4 rfl <| lk2 rfl <| lk1 rfl <| lk_off rfl <| lk8 rfl <| lk2 rfl <| lk1 rfl <| lk_off rfl <| lk4 rfl <| lk1 rfl <| lk_entry rfl)) ?_
        refine WL_q rfl (q_eqs (lk1 rfl <| lk0) (lk0)) ?_
        refine WL_nil ?_
        refine then_n ?_
        refine WC_if_false (lk0) hsq ?_
        refine WC_skip ?_
        refine block_n (then_n ?_)
        refine WC_reg fun ds => ?_
        refine WL_q rfl (q_move (lk8 rfl <| lk1 rfl <| lk_in rfl ht6)) ?_
        refine WL_q rfl (q_add (lk0) lk_const rfl (by omega) (by omega)) ?_
        refine WL_q rfl (q_assign (lk0)) ?_
        refine WL_nil ?_
        refine then_n ⟨_, m2 - 1, Off.eq (ou8 rfl <| ou4 rfl <| off_over), by omega, ?_⟩
        refine ⟨q + 1, by omega, (lk0), rfl, fun j hj hjk => ?_⟩
        rcases Nat.lt_succ_iff_lt_or_eq.1 hjk with hjk | rfl
        · exact hno2 j hj hjk
        · exact hsq
      ·
       refine WC_seq ?_
       refine WC_seq ?_
       refine WC_reg fun ds => ?_
       refine WL_q rfl (q_move (lk_in rfl ht6)) ?_
       refine WL_q rfl (q_move (lk1 rfl <| lk_off rfl <| lk8 rfl <| lk2 rfl <| lk1 rfl <| lk_in rfl hs5)) ?_
       refine WL_q rfl (q_lss (lk1 rfl <| lk0) (lk0)) ?_
       refine WL_nil ?_
       refine then_n ?_
       refine WC_if_false (lk0) (by first | rfl | exact decide_eq_false (by omega)) ?_
       refine WC_exit ?_
       refine then_x (then_x (exit_here ?_))
       refine then_n ?_
       refine WC_seq ?_
       refine WC_reg fun ds => ?_
       refine WL_q rfl (q_move (lk2 rfl <| lk1 rfl <| lk_off rfl <| lk8 rfl <| lk2 rfl <| lk1 rfl <| lk_in rfl hs5)) ?_
       refine WL_q rfl (q_assign (lk0)) ?_
       refine WL_nil ?_
       refine then_n ?_
       refine WC_ret ?_
       refine post_ret rfl (.tmp (lk0) .nil) ?_
       show _ = _
       rw [findI_some (p := fun x => sameS x wd) (k := k) hk hsm (fun j hj hjk => hno2 j hj (by omega))]; rfl
    ·
     replace hsm : sameS xs[k] wd = false := by simpa using hsm
     refine WC_if_true (lk0) (by simpa [sameS] using hsm) ?_
     refine WC_skip ?_
     refine then_n ?_
     refine WC_block ?_
     refine WC_reg fun ds => ?_
     refine WL_q rfl (q_move (lk8 rfl <| lk2 rfl <| lk_in rfl hs5)) ?_
     refine WL_q rfl (q_sub (lk0) lk_const rfl (by omega) (by omega)) ?_
     refine WL_q rfl (q_assign (lk0)) ?_
     refine WL_nil ?_
     refine block_n ?_
     refine then_n ⟨_, m - 1, Off.eq (ou8 rfl <| ou4 rfl <| ou1 rfl <| off_over), by omega, ?_⟩
     refine ⟨(k : Int) - 1, by omega, by omega, by omega, (lk0), rfl, fun j hj hjk => ?_⟩
     by_cases hjk2 : j = k
     · subst hjk2; exact hsm
     · exact hno j hj (by omega)
   ·
    refine WC_seq ?_
    refine WC_seq ?_
    refine WC_reg fun ds => ?_
    refine WL_q rfl (q_move (lk_in rfl hs5)) ?_
    refine WL_q rfl (q_geq (lk0) lk_const) ?_
    refine WL_q rfl (q_move (lk0)) ?_
    refine WL_pass rfl rfl (lk0) (.inl (congrArg Value.bool (by first | rfl | exact decide_eq_false (by omega)))) rfl ?_
    refine WL_pass rfl rfl (lk1 rfl <| lk0) (.inl (congrArg Value.bool (by first | rfl | exact decide_eq_false (by omega)))) rfl ?_
    refine WL_pass rfl rfl (lk2 rfl <| lk0) (.inl (congrArg Value.bool (by first | rfl | exact decide_eq_false (by omega)))) rfl ?_
    refine WL_pass rfl rfl (lk2 rfl <| lk1 rfl <| lk0) (.inl (congrArg Value.bool (by first | rfl | exact decide_eq_false (by omega)))) rfl ?_
    refine WL_pass rfl rfl (lk4 rfl <| lk0) (.inl (congrArg Value.bool (by first | rfl | exact decide_eq_false (by omega)))) rfl ?_
    refine WL_pass rfl rfl (lk4 rfl <| lk1 rfl <| lk0) (.inl (congrArg Value.bool (by first | rfl | exact decide_eq_false (by omega)))) rfl ?_
    refine WL_q rfl (q_pick_false (lk4 rfl <| lk2 rfl <| lk0) (by first | rfl | exact decide_eq_false (by omega)) lk_const) ?_
    refine WL_nil ?_
    refine then_n ?_
    refine WC_if_false (lk0) (by first | rfl | exact decide_eq_false (by omega)) ?_
    refine WC_exit ?_
    refine then_x (then_x (exit_here ?_))
    refine then_n ?_
    refine WC_seq ?_
    refine WC_seq ?_
    refine WC_reg fun ds => ?_
    refine WL_q rfl (q_assign lk_const) ?_
    refine WL_nil ?_
    refine then_n ?_
    refine WC_block ?_
    refine WC_loopN [4, 6, 22, 23, 24, 25, 26, 27, 28, 29, 30, 31, 32, 33] (fun m e σ => m = 0 ∧ e 6 = .int .i64 0 ∧ σ = ⟨F, []⟩) (0) ?_ ?_
    · exact ⟨rfl, (lk0), rfl⟩
    ·
     rintro m2 e2 _ ⟨hm2, ht6, rfl⟩
     refine WC_seq ?_
     refine WC_seq ?_
     refine WC_reg fun ds => ?_
     refine WL_q rfl (q_move (lk_in rfl ht6)) ?_
     refine WL_q rfl (q_move (lk1 rfl <| lk_off rfl <| lk8 rfl <| lk2 rfl <| lk1 rfl <| lk_in rfl hs5)) ?_
     refine WL_q rfl (q_lss (lk1 rfl <| lk0) (lk0)) ?_
     refine WL_nil ?_
     refine then_n ?_
     refine WC_if_false (lk0) (by first | rfl | exact decide_eq_false (by omega)) ?_
     refine WC_exit ?_
     refine then_x (then_x (exit_here ?_))
     refine then_n ?_
     refine WC_seq ?_
     refine WC_reg fun ds => ?_
     refine WL_q rfl (q_move (lk2 rfl <| lk1 rfl <| lk_off rfl <| lk8 rfl <| lk2 rfl <| lk1 rfl <| lk_in rfl hs5)) ?_
     refine WL_q rfl (q_assign (lk0)) ?_
     refine WL_nil ?_
     refine then_n ?_
     refine WC_ret ?_
     refine post_ret rfl (.tmp (lk0) .nil) ?_
     show _ = _
     obtain rfl : z = -1 := by omega
     rw [findI_none (p := fun x => sameS x wd) (fun j hj => hno j hj (by omega))]; rfl
set_option maxRecDepth 100000 in
theorem fresh_ok {F : Heap} {v : Value} {xs : List ByteArray} (h : Sl F v 1 strE xs) (wd : ByteArray) : Ok Try.prog 86 [.string wd, v].toArray F fun r _ => r = .int .i64 (freshE wd xs) := by
  refine Ok.intro Try.func86 rfl Try.ntmps86 rfl fun w0 => ?_
  by_cases hp : 0 ≤ findI (fun x => sameS x wd) xs
  ·
   refine WC_seq ?_
   refine WC_reg fun ds => ?_
   refine WL_q rfl (q_assign lk_const) ?_
   refine WL_nil ?_
   refine then_n ?_
   refine WC_seq ?_
   refine WC_reg fun ds => ?_
   refine WL_q rfl (q_assign lk_const) ?_
   refine WL_nil ?_
   refine then_n ?_
   refine WC_seq ?_
   refine WC_seq ?_
   refine WC_reg fun ds => ?_
   refine WL_q rfl (q_move (lk2 rfl <| lk_entry rfl)) ?_
   refine WL_q rfl (q_move (lk2 rfl <| lk1 rfl <| lk_entry rfl)) ?_
   refine WL_c rfl (q_call bd_101 lk_func (.cons (lk1 rfl <| lk0) (.cons (lk0) .nil)) (place_ok h wd) (fun _ _ h => h)) ?_
   refine WL_q rfl (q_geq (lk0) lk_const) ?_
   refine WL_nil ?_
   refine then_n ?_
   refine WC_if_true (lk0) (by first | rfl | exact decide_eq_true (by omega)) ?_
   by_cases hn : nameOk wd = true
   ·
    refine WC_reg fun ds => ?_
    refine WL_q rfl (q_assign lk_const) ?_
    refine WL_nil ?_
    refine then_n ?_
    refine WC_seq ?_
    refine WC_seq ?_
    refine WC_reg fun ds => ?_
    refine WL_q rfl (q_move (lk4 rfl <| lk2 rfl <| lk1 rfl <| lk_entry rfl)) ?_
    refine WL_c rfl (q_call bd_102 lk_func (.cons (lk0) .nil) (refName_ok wd) (fun _ _ h => h)) ?_
    refine WL_q rfl (q_not (lk0)) ?_
    refine WL_nil ?_
    refine then_n ?_
    refine WC_if_false (lk0) (by rw [hn]; rfl) ?_
    refine WC_skip ?_
    refine then_n ?_
    refine WC_seq ?_
    refine WC_reg fun ds => ?_
    refine WL_q rfl (q_move (lk2 rfl <| lk1 rfl <| lk0)) ?_
    refine WL_q rfl (q_assign (lk0)) ?_
    refine WL_nil ?_
    refine then_n ?_
    refine WC_ret ?_
    refine post_ret rfl (.tmp (lk0) .nil) ?_
    show _ = _
    simp [outOf, freshE, hn, ← findI_any, hp]
   ·
    refine WC_reg fun ds => ?_
    refine WL_q rfl (q_assign lk_const) ?_
    refine WL_nil ?_
    refine then_n ?_
    refine WC_seq ?_
    refine WC_seq ?_
    refine WC_reg fun ds => ?_
    refine WL_q rfl (q_move (lk4 rfl <| lk2 rfl <| lk1 rfl <| lk_entry rfl)) ?_
    refine WL_c rfl (q_call bd_102 lk_func (.cons (lk0) .nil) (refName_ok wd) (fun _ _ h => h)) ?_
    refine WL_q rfl (q_not (lk0)) ?_
    refine WL_nil ?_
    refine then_n ?_
    refine WC_if_true (lk0) (by simpa using hn) ?_
    refine WC_reg fun ds => ?_
    refine WL_q rfl (q_assign lk_const) ?_
    refine WL_nil ?_
    refine then_n ?_
    refine WC_seq ?_
    refine WC_reg fun ds => ?_
    refine WL_q rfl (q_move (lk0)) ?_
    refine WL_q rfl (q_assign (lk0)) ?_
    refine WL_nil ?_
    refine then_n ?_
    refine WC_ret ?_
    refine post_ret rfl (.tmp (lk0) .nil) ?_
    show _ = _
    simp [outOf, freshE, hn]
  ·
   refine WC_seq ?_
   refine WC_reg fun ds => ?_
   refine WL_q rfl (q_assign lk_const) ?_
   refine WL_nil ?_
   refine then_n ?_
   refine WC_seq ?_
   refine WC_reg fun ds => ?_
   refine WL_q rfl (q_assign lk_const) ?_
   refine WL_nil ?_
   refine then_n ?_
   refine WC_seq ?_
   refine WC_seq ?_
   refine WC_reg fun ds => ?_
   refine WL_q rfl (q_move (lk2 rfl <| lk_entry rfl)) ?_
   refine WL_q rfl (q_move (lk2 rfl <| lk1 rfl <| lk_entry rfl)) ?_
   refine WL_c rfl (q_call bd_101 lk_func (.cons (lk1 rfl <| lk0) (.cons (lk0) .nil)) (place_ok h wd) (fun _ _ h => h)) ?_
   refine WL_q rfl (q_geq (lk0) lk_const) ?_
   refine WL_nil ?_
   refine then_n ?_
   refine WC_if_false (lk0) (by first | rfl | exact decide_eq_false (by omega)) ?_
   by_cases hn : nameOk wd = true
   ·
    refine WC_skip ?_
    refine then_n ?_
    refine WC_seq ?_
    refine WC_seq ?_
    refine WC_reg fun ds => ?_
    refine WL_q rfl (q_move (lk4 rfl <| lk2 rfl <| lk_entry rfl)) ?_
    refine WL_c rfl (q_call bd_102 lk_func (.cons (lk0) .nil) (refName_ok wd) (fun _ _ h => h)) ?_
    refine WL_q rfl (q_not (lk0)) ?_
    refine WL_nil ?_
    refine then_n ?_
    refine WC_if_false (lk0) (by rw [hn]; rfl) ?_
    refine WC_skip ?_
    refine then_n ?_
    refine WC_seq ?_
    refine WC_reg fun ds => ?_
    refine WL_q rfl (q_move (lk4 rfl <| lk2 rfl <| lk1 rfl <| lk0)) ?_
    refine WL_q rfl (q_assign (lk0)) ?_
    refine WL_nil ?_
    refine then_n ?_
    refine WC_ret ?_
    refine post_ret rfl (.tmp (lk0) .nil) ?_
    show _ = _
    simp [outOf, freshE, hn, ← findI_any, hp]
   ·
    refine WC_skip ?_
    refine then_n ?_
    refine WC_seq ?_
    refine WC_seq ?_
    refine WC_reg fun ds => ?_
    refine WL_q rfl (q_move (lk4 rfl <| lk2 rfl <| lk_entry rfl)) ?_
    refine WL_c rfl (q_call bd_102 lk_func (.cons (lk0) .nil) (refName_ok wd) (fun _ _ h => h)) ?_
    refine WL_q rfl (q_not (lk0)) ?_
    refine WL_nil ?_
    refine then_n ?_
    refine WC_if_true (lk0) (by simpa using hn) ?_
    refine WC_reg fun ds => ?_
    refine WL_q rfl (q_assign lk_const) ?_
    refine WL_nil ?_
    refine then_n ?_
    refine WC_seq ?_
    refine WC_reg fun ds => ?_
    refine WL_q rfl (q_move (lk0)) ?_
    refine WL_q rfl (q_assign (lk0)) ?_
    refine WL_nil ?_
    refine then_n ?_
    refine WC_ret ?_
    refine post_ret rfl (.tmp (lk0) .nil) ?_
    show _ = _
    simp [outOf, freshE, hn]
set_option maxRecDepth 100000 in
theorem range_ok {F : Heap} (a b lo hi : Int) : Ok Try.prog 87 [.agg #[.int .i64 a, .int .i64 b], .int .i64 lo, .int .i64 hi].toArray F fun r _ => r = .int .i64 (rangeE a b lo hi) := by
  refine Ok.intro Try.func87 rfl Try.ntmps87 rfl fun w0 => ?_
  by_cases h1 : min a b < lo
  ·
   refine WC_seq ?_
   refine WC_reg fun ds => ?_
   refine WL_x rfl (x_box (lk_entry rfl) rfl fun b1 hb1 nb1 => ?_)
   refine WL_q rfl (q_assign lk_const) ?_
   refine WL_nil ?_
   refine then_n ?_
   refine WC_seq ?_
   refine WC_seq ?_
   refine WC_reg fun ds => ?_
   refine WL_q rfl (q_fieldAddrB fd_60_0 (lk1 rfl <| lk0)) ?_
   refine WL_q rfl (q_load1 one_3 (lk0) (Cell.own 0 rfl rfl)) ?_
   refine WL_q rfl (q_fieldAddrB fd_60_1 (lk2 rfl <| lk1 rfl <| lk0)) ?_
   refine WL_q rfl (q_load1 one_3 (lk0) (Cell.own 0 rfl rfl)) ?_
   refine WL_q rfl (q_min2 (lk2 rfl <| lk0) (lk0)) ?_
   refine WL_q rfl (q_move (lk4 rfl <| lk2 rfl <| lk1 rfl <| lk_entry rfl)) ?_
   refine WL_q rfl (q_lss (lk1 rfl <| lk0) (lk0)) ?_
   refine WL_q rfl (q_move (lk0)) ?_
   refine WL_pass rfl rfl (lk0) (.inl (congrArg Value.bool (by first | rfl | exact decide_eq_true (by omega)))) rfl ?_
   refine WL_pass rfl rfl (lk1 rfl <| lk0) (.inl (congrArg Value.bool (by first | rfl | exact decide_eq_true (by omega)))) rfl ?_
   refine WL_pass rfl rfl (lk2 rfl <| lk0) (.inl (congrArg Value.bool (by first | rfl | exact decide_eq_true (by omega)))) rfl ?_
   refine WL_pass rfl rfl (lk2 rfl <| lk1 rfl <| lk0) (.inl (congrArg Value.bool (by first | rfl | exact decide_eq_true (by omega)))) rfl ?_
   refine WL_pass rfl rfl (lk4 rfl <| lk0) (.inl (congrArg Value.bool (by first | rfl | exact decide_eq_true (by omega)))) rfl ?_
   refine WL_pass rfl rfl (lk4 rfl <| lk1 rfl <| lk0) (.inl (congrArg Value.bool (by first | rfl | exact decide_eq_true (by omega)))) rfl ?_
   refine WL_pass rfl rfl (lk4 rfl <| lk2 rfl <| lk0) (.inl (congrArg Value.bool (by first | rfl | exact decide_eq_true (by omega)))) rfl ?_
   refine WL_q rfl (q_pick_true (lk4 rfl <| lk2 rfl <| lk1 rfl <| lk0) (by first | rfl | exact decide_eq_true (by omega)) lk_const) ?_
   refine WL_nil ?_
   refine then_n ?_
   refine WC_if_true (lk0) (by first | rfl | exact decide_eq_true (by omega)) ?_
   refine WC_seq ?_
   refine WC_reg fun ds => ?_
   refine WL_q rfl (q_assign lk_const) ?_
   refine WL_nil ?_
   refine then_n ?_
   refine WC_ret ?_
   refine then_r ?_
   refine post_ret rfl (.tmp (lk0) .nil) ?_
   show _ = _
   unfold rangeE; simp only [outOf]; rw [if_pos (Or.inl h1)]
  ·
   refine WC_seq ?_
   refine WC_reg fun ds => ?_
   refine WL_x rfl (x_box (lk_entry rfl) rfl fun b2 hb2 nb2 => ?_)
   refine WL_q rfl (q_assign lk_const) ?_
   refine WL_nil ?_
   refine then_n ?_
   refine WC_seq ?_
   refine WC_seq ?_
   refine WC_reg fun ds => ?_
   refine WL_q rfl (q_fieldAddrB fd_60_0 (lk1 rfl <| lk0)) ?_
   refine WL_q rfl (q_load1 one_3 (lk0) (Cell.own 0 rfl rfl)) ?_
   refine WL_q rfl (q_fieldAddrB fd_60_1 (lk2 rfl <| lk1 rfl <| lk0)) ?_
   refine WL_q rfl (q_load1 one_3 (lk0) (Cell.own 0 rfl rfl)) ?_
   refine WL_q rfl (q_min2 (lk2 rfl <| lk0) (lk0)) ?_
   refine WL_q rfl (q_move (lk4 rfl <| lk2 rfl <| lk1 rfl <| lk_entry rfl)) ?_
   refine WL_q rfl (q_lss (lk1 rfl <| lk0) (lk0)) ?_
   refine WL_q rfl (q_move (lk0)) ?_
   refine WL_want rfl rfl (lk0) (by first | rfl | exact decide_eq_false (by omega)) ?_
   refine WL_q rfl (q_fieldAddrB fd_60_0 (lk8 rfl <| lk1 rfl <| lk0)) ?_
   refine WL_want rfl rfl (lk1 rfl <| lk0) (by first | rfl | exact decide_eq_false (by omega)) ?_
   refine WL_q rfl (q_load1 one_3 (lk0) (Cell.own 0 rfl rfl)) ?_
   refine WL_want rfl rfl (lk2 rfl <| lk0) (by first | rfl | exact decide_eq_false (by omega)) ?_
   refine WL_q rfl (q_fieldAddrB fd_60_1 (lk8 rfl <| lk2 rfl <| lk1 rfl <| lk0)) ?_
   refine WL_want rfl rfl (lk2 rfl <| lk1 rfl <| lk0) (by first | rfl | exact decide_eq_false (by omega)) ?_
   refine WL_q rfl (q_load1 one_3 (lk0) (Cell.own 0 rfl rfl)) ?_
   refine WL_want rfl rfl (lk4 rfl <| lk0) (by first | rfl | exact decide_eq_false (by omega)) ?_
   refine WL_q rfl (q_max2 (lk2 rfl <| lk0) (lk0)) ?_
   refine WL_want rfl rfl (lk4 rfl <| lk1 rfl <| lk0) (by first | rfl | exact decide_eq_false (by omega)) ?_
   refine WL_q rfl (q_move (lk8 rfl <| lk4 rfl <| lk2 rfl <| lk1 rfl <| lk_entry rfl)) ?_
   refine WL_want rfl rfl (lk4 rfl <| lk2 rfl <| lk0) (by first | rfl | exact decide_eq_false (by omega)) ?_
   refine WL_q rfl (q_gtr (lk1 rfl <| lk0) (lk0)) ?_
   refine WL_q rfl (q_pick_false (lk4 rfl <| lk2 rfl <| lk1 rfl <| lk0) (by first | rfl | exact decide_eq_false (by omega)) (lk0)) ?_
   refine WL_nil ?_
   refine then_n ?_
   by_cases h2 : hi < max a b
   ·
    refine WC_if_true (lk0) (by first | rfl | exact decide_eq_true (by omega)) ?_
    refine WC_seq ?_
    refine WC_reg fun ds => ?_
    refine WL_q rfl (q_assign lk_const) ?_
    refine WL_nil ?_
    refine then_n ?_
    refine WC_ret ?_
    refine then_r ?_
    refine post_ret rfl (.tmp (lk0) .nil) ?_
    show _ = _
    unfold rangeE; simp only [outOf]; rw [if_pos (Or.inr h2)]
   ·
    refine WC_if_false (lk0) (by first | rfl | exact decide_eq_false (by omega)) ?_
    by_cases h3 : b < a
    ·
     refine WC_skip ?_
     refine then_n ?_
     refine WC_seq ?_
     refine WC_seq ?_
     refine WC_reg fun ds => ?_
     refine WL_q rfl (q_fieldAddrB fd_60_1 (lk16 rfl <| lk1 rfl <| lk0)) ?_
     refine WL_q rfl (q_load1 one_3 (lk0) (Cell.own 0 rfl rfl)) ?_
     refine WL_q rfl (q_fieldAddrB fd_60_0 (lk16 rfl <| lk2 rfl <| lk1 rfl <| lk0)) ?_
     refine WL_q rfl (q_load1 one_3 (lk0) (Cell.own 0 rfl rfl)) ?_
     refine WL_q rfl (q_lss (lk2 rfl <| lk0) (lk0)) ?_
     refine WL_nil ?_
     refine then_n ?_
     refine WC_if_true (lk0) (by first | rfl | exact decide_eq_true (by omega)) ?_
     refine WC_seq ?_
     refine WC_reg fun ds => ?_
     refine WL_q rfl (q_assign lk_const) ?_
     refine WL_nil ?_
     refine then_n ?_
     refine WC_ret ?_
     refine then_r ?_
     refine post_ret rfl (.tmp (lk0) .nil) ?_
     show _ = _
     unfold rangeE; simp only [outOf]; rw [if_neg (by omega), if_pos h3]
    ·
     refine WC_skip ?_
     refine then_n ?_
     refine WC_seq ?_
     refine WC_seq ?_
     refine WC_reg fun ds => ?_
     refine WL_q rfl (q_fieldAddrB fd_60_1 (lk16 rfl <| lk1 rfl <| lk0)) ?_
     refine WL_q rfl (q_load1 one_3 (lk0) (Cell.own 0 rfl rfl)) ?_
     refine WL_q rfl (q_fieldAddrB fd_60_0 (lk16 rfl <| lk2 rfl <| lk1 rfl <| lk0)) ?_
     refine WL_q rfl (q_load1 one_3 (lk0) (Cell.own 0 rfl rfl)) ?_
     refine WL_q rfl (q_lss (lk2 rfl <| lk0) (lk0)) ?_
     refine WL_nil ?_
     refine then_n ?_
     refine WC_if_false (lk0) (by first | rfl | exact decide_eq_false (by omega)) ?_
     refine WC_skip ?_
     refine then_n ?_
     refine WC_seq ?_
     refine WC_reg fun ds => ?_
     refine WL_q rfl (q_assign lk_const) ?_
     refine WL_nil ?_
     refine then_n ?_
     refine WC_ret ?_
     refine post_ret rfl (.tmp (lk0) .nil) ?_
     show _ = _
     unfold rangeE; simp only [outOf]; rw [if_neg (by omega), if_neg h3]
set_option maxRecDepth 100000 in
theorem indexInt_ok {F : Heap} {v : Value} {xs : List Int} (h : Ints F v xs) (p : _ → Bool) {g : FuncId} {cs : List Value} (hg : Body Try.prog g) (hp : ∀ k (hk : k < xs.length), Ok Try.prog g ([Value.int .i64 xs[k]] ++ cs).toArray F fun r _ => r = .bool (p xs[k])) : Ok Try.prog 100 [v, .func (.func g) #[] cs.toArray].toArray F fun r _ => r = .int .i64 (findI p xs) := by
  refine Ok.intro Try.func100 rfl Try.ntmps100 rfl fun w0 => ?_
  have hlen := h.plain.lt
  refine WC_seq ?_
  refine WC_reg fun ds => ?_
  refine WL_q rfl (q_assign lk_const) ?_
  refine WL_nil ?_
  refine then_n ?_
  refine WC_seq ?_
  refine WC_seq ?_
  refine WC_reg fun ds => ?_
  refine WL_q rfl (q_move (lk1 rfl <| lk_entry rfl)) ?_
  refine WL_q rfl (q_lenP sl_29 (lk0) h.plain) ?_
  refine WL_q rfl (q_move lk_const) ?_
  refine WL_nil ?_
  refine then_n ?_
  refine WC_block ?_
  refine WC_loopN [4, 5, 8, 9, 10, 11, 12, 13, 14, 15, 16, 17, 18] (fun m e σ => ∃ k : Nat, m + k = xs.length ∧ e 8 = .int .i64 k ∧ σ = ⟨F, []⟩ ∧ ∀ j (hj : j < xs.length), j < k → p xs[j] = false) (xs.length) ?_ ?_
  · exact ⟨0, by omega, (lk0), rfl, fun j hj h => absurd h (by omega)⟩
  ·
   rintro m e _ ⟨k, hm, hs8, rfl, hno⟩
   by_cases hlt : k < xs.length
   ·
    refine WC_seq ?_
    refine WC_reg fun ds => ?_
    refine WL_q rfl (q_lss (lk_in rfl hs8) (lk_off rfl <| lk1 rfl <| lk0)) ?_
    refine WL_nil ?_
    refine then_n ?_
    refine WC_seq ?_
    refine WC_if_true (lk0) (by first | rfl | exact decide_eq_true (by omega)) ?_
    by_cases hpk : p xs[k] = true
    ·
     refine WC_skip ?_
     refine then_n ?_
     refine WC_seq ?_
     refine WC_block ?_
     refine WC_seq ?_
     refine WC_reg fun ds => ?_
     refine WL_q rfl (q_move (lk1 rfl <| lk_in rfl hs8)) ?_
     refine WL_q rfl (q_assign (lk0)) ?_
     refine WL_nil ?_
     refine then_n ?_
     refine WC_seq ?_
     refine WC_reg fun ds => ?_
     refine WL_q rfl (q_move (lk2 rfl <| lk1 rfl <| lk_off rfl <| lk4 rfl <| lk_entry rfl)) ?_
     refine WL_q rfl (q_move (lk4 rfl <| lk_off rfl <| lk4 rfl <| lk_entry rfl)) ?_
     refine WL_q rfl (q_move (lk2 rfl <| lk0)) ?_
     refine WL_q rfl (q_index  sl_29 (lk1 rfl <| lk0) h.plain (lk0) rfl (by omega)) ?_
     refine WL_q rfl (q_load1 one_3 (lk0) (h.cell1 (by omega) rfl)) ?_
     refine WL_c rfl (q_call hg (lk4 rfl <| lk0) (.cons (lk0) .nil) (hp k hlt) (fun _ _ h => h)) ?_
     refine WL_nil ?_
     refine then_n ?_
     refine WC_if_true (lk0) hpk ?_
     refine WC_seq ?_
     refine WC_reg fun ds => ?_
     refine WL_q rfl (q_move (lk4 rfl <| lk2 rfl <| lk0)) ?_
     refine WL_q rfl (q_assign (lk0)) ?_
     refine WL_nil ?_
     refine then_n ?_
     refine WC_ret ?_
     refine block_r (then_r (then_r (block_r (then_r ?_))))
     refine post_ret rfl (.tmp (lk0) .nil) ?_
     show _ = _
     rw [findI_some hlt hpk hno]; rfl
    ·
     replace hpk : p xs[k] = false := by simpa using hpk
     refine WC_skip ?_
     refine then_n ?_
     refine WC_seq ?_
     refine WC_block ?_
     refine WC_seq ?_
     refine WC_reg fun ds => ?_
     refine WL_q rfl (q_move (lk1 rfl <| lk_in rfl hs8)) ?_
     refine WL_q rfl (q_assign (lk0)) ?_
     refine WL_nil ?_
     refine then_n ?_
     refine WC_seq ?_
     refine WC_reg fun ds => ?_
     refine WL_q rfl (q_move (lk2 rfl <| lk1 rfl <| lk_off rfl <| lk4 rfl <| lk_entry rfl)) ?_
     refine WL_q rfl (q_move (lk4 rfl <| lk_off rfl <| lk4 rfl <| lk_entry rfl)) ?_
     refine WL_q rfl (q_move (lk2 rfl <| lk0)) ?_
     refine WL_q rfl (q_index  sl_29 (lk1 rfl <| lk0) h.plain (lk0) rfl (by omega)) ?_
     refine WL_q rfl (q_load1 one_3 (lk0) (h.cell1 (by omega) rfl)) ?_
     refine WL_c rfl (q_call hg (lk4 rfl <| lk0) (.cons (lk0) .nil) (hp k hlt) (fun _ _ h => h)) ?_
     refine WL_nil ?_
     refine then_n ?_
     refine WC_if_false (lk0) hpk ?_
     refine WC_skip ?_
     refine block_n (then_n ?_)
     refine WC_reg fun ds => ?_
     refine WL_q rfl (q_add (lk8 rfl <| lk1 rfl <| lk_in rfl hs8) lk_const rfl (by omega) (by omega)) ?_
     refine WL_q rfl (q_move (lk0)) ?_
     refine WL_nil ?_
     refine then_n ⟨_, m - 1, Off.eq (ou8 rfl <| ou2 rfl <| ou1 rfl <| off_over), by omega, ?_⟩
     refine ⟨k + 1, by omega, (lk0), rfl, fun j hj hjk => ?_⟩
     rcases Nat.lt_succ_iff_lt_or_eq.1 hjk with hjk | rfl
     · exact hno j hj hjk
     · exact hpk
   ·
    refine WC_seq ?_
    refine WC_reg fun ds => ?_
    refine WL_q rfl (q_lss (lk_in rfl hs8) (lk_off rfl <| lk1 rfl <| lk0)) ?_
    refine WL_nil ?_
    refine then_n ?_
    refine WC_seq ?_
    refine WC_if_false (lk0) (by first | rfl | exact decide_eq_false (by omega)) ?_
    refine WC_exit ?_
    refine then_x (then_x (exit_here ?_))
    refine then_n ?_
    refine WC_seq ?_
    refine WC_reg fun ds => ?_
    refine WL_q rfl (q_assign lk_const) ?_
    refine WL_nil ?_
    refine then_n ?_
    refine WC_ret ?_
    refine post_ret rfl (.tmp (lk0) .nil) ?_
    show _ = _
    rw [findI_none fun j hj => hno j hj (by omega)]; rfl
set_option maxRecDepth 100000 in
theorem containsInt_ok {F : Heap} {v : Value} {xs : List Int} (h : Ints F v xs) (p : _ → Bool) {g : FuncId} {cs : List Value} (hg : Body Try.prog g) (hp : ∀ k (hk : k < xs.length), Ok Try.prog g ([Value.int .i64 xs[k]] ++ cs).toArray F fun r _ => r = .bool (p xs[k])) : Ok Try.prog 83 [v, .func (.func g) #[] cs.toArray].toArray F fun r _ => r = .bool (xs.any p) := by
  refine Ok.intro Try.func83 rfl Try.ntmps83 rfl fun w0 => ?_
  refine WC_seq ?_
  refine WC_reg fun ds => ?_
  refine WL_q rfl (q_assign lk_const) ?_
  refine WL_nil ?_
  refine then_n ?_
  refine WC_seq ?_
  refine WC_reg fun ds => ?_
  refine WL_q rfl (q_move (lk1 rfl <| lk_entry rfl)) ?_
  refine WL_q rfl (q_move (lk2 rfl <| lk_entry rfl)) ?_
  refine WL_c rfl (q_call bd_100 lk_func (.cons (lk1 rfl <| lk0) (.cons (lk0) .nil)) (indexInt_ok h p hg hp) (fun _ _ h => h)) ?_
  refine WL_q rfl (q_geq (lk0) lk_const) ?_
  refine WL_q rfl (q_assign (lk0)) ?_
  refine WL_nil ?_
  refine then_n ?_
  refine WC_ret ?_
  refine post_ret rfl (.tmp (lk0) .nil) ?_
  show _ = _
  rw [← findI_any]; rfl
set_option maxRecDepth 100000 in
theorem outside1_ok {F : Heap} {b1 b2 T1 T2 : Nat} {lo hi : Int} (h1 : F b1 = some (bx T1 [.int .i64 lo])) (h2 : F b2 = some (bx T2 [.int .i64 hi])) (z : Int) : Ok Try.prog 84 [.int .i64 z, .pointer (some ⟨b1, 0, none⟩), .pointer (some ⟨b2, 0, none⟩)].toArray F fun r _ => r = .bool (!(inB lo hi z)) := by
  refine Ok.intro Try.func84 rfl Try.ntmps84 rfl fun w0 => ?_
  by_cases hz : z < lo
  ·
   refine WC_seq ?_
   refine WC_reg fun ds => ?_
   refine WL_q rfl (q_assign lk_const) ?_
   refine WL_nil ?_
   refine then_n ?_
   refine WC_seq ?_
   refine WC_reg fun ds => ?_
   refine WL_q rfl (q_move (lk1 rfl <| lk_entry rfl)) ?_
   refine WL_q rfl (q_load1 one_3 (lk2 rfl <| lk_entry rfl) (CellF.own h1 rfl).cell) ?_
   refine WL_q rfl (q_lss (lk1 rfl <| lk0) (lk0)) ?_
   refine WL_q rfl (q_move (lk0)) ?_
   refine WL_pass rfl rfl (lk0) (.inl (congrArg Value.bool (by first | rfl | exact decide_eq_true (by omega)))) rfl ?_
   refine WL_pass rfl rfl (lk1 rfl <| lk0) (.inl (congrArg Value.bool (by first | rfl | exact decide_eq_true (by omega)))) rfl ?_
   refine WL_pass rfl rfl (lk2 rfl <| lk0) (.inl (congrArg Value.bool (by first | rfl | exact decide_eq_true (by omega)))) rfl ?_
   refine WL_q rfl (q_pick_true (lk2 rfl <| lk1 rfl <| lk0) (by first | rfl | exact decide_eq_true (by omega)) lk_const) ?_
   refine WL_q rfl (q_assign (lk0)) ?_
   refine WL_nil ?_
   refine then_n ?_
   refine WC_ret ?_
   refine post_ret rfl (.tmp (lk0) .nil) ?_
   show _ = _
   have : ¬ lo ≤ z := by omega
   simp [outOf, inB, hz, this]
  ·
   refine WC_seq ?_
   refine WC_reg fun ds => ?_
   refine WL_q rfl (q_assign lk_const) ?_
   refine WL_nil ?_
   refine then_n ?_
   refine WC_seq ?_
   refine WC_reg fun ds => ?_
   refine WL_q rfl (q_move (lk1 rfl <| lk_entry rfl)) ?_
   refine WL_q rfl (q_load1 one_3 (lk2 rfl <| lk_entry rfl) (CellF.own h1 rfl).cell) ?_
   refine WL_q rfl (q_lss (lk1 rfl <| lk0) (lk0)) ?_
   refine WL_q rfl (q_move (lk0)) ?_
   refine WL_want rfl rfl (lk0) (by first | rfl | exact decide_eq_false (by omega)) ?_
   refine WL_q rfl (q_move (lk4 rfl <| lk1 rfl <| lk_entry rfl)) ?_
   refine WL_want rfl rfl (lk1 rfl <| lk0) (by first | rfl | exact decide_eq_false (by omega)) ?_
   refine WL_q rfl (q_load1 one_3 (lk4 rfl <| lk2 rfl <| lk_entry rfl) (CellF.own h2 rfl).cell) ?_
   refine WL_want rfl rfl (lk2 rfl <| lk0) (by first | rfl | exact decide_eq_false (by omega)) ?_
   refine WL_q rfl (q_gtr (lk1 rfl <| lk0) (lk0)) ?_
   refine WL_q rfl (q_pick_false (lk2 rfl <| lk1 rfl <| lk0) (by first | rfl | exact decide_eq_false (by omega)) (lk0)) ?_
   refine WL_q rfl (q_assign (lk0)) ?_
   refine WL_nil ?_
   refine then_n ?_
   by_cases hz2 : hi < z
   ·
    refine WC_ret ?_
    refine post_ret rfl (.tmp (lk0) .nil) ?_
    show _ = _
    have : ¬ z ≤ hi := by omega
    simp [outOf, inB, hz2, this]
   ·
    refine WC_ret ?_
    refine post_ret rfl (.tmp (lk0) .nil) ?_
    show _ = _
    have e1 : lo ≤ z := by omega
    have e2 : z ≤ hi := by omega
    simp [outOf, inB, hz2, e1, e2]
set_option maxRecDepth 100000 in
theorem outside_ok {F : Heap} {v : Value} {xs : List Int} (lo hi : Int) (h : Ints F v xs) : Ok Try.prog 51 [.int .i64 lo, .int .i64 hi, v].toArray F fun r _ => r = .bool (xs.any fun z => !(inB lo hi z)) := by
  refine Ok.intro Try.func51 rfl Try.ntmps51 rfl fun w0 => ?_
  refine WC_seq ?_
  refine WC_reg fun ds => ?_
  refine WL_x rfl (x_box (lk_entry rfl) rfl fun b1 hb1 nb1 => ?_)
  refine WL_x rfl (x_box (lk1 rfl <| lk_entry rfl) rfl fun b2 hb2 nb2 => ?_)
  refine WL_q rfl (q_assign lk_const) ?_
  refine WL_nil ?_
  refine then_n ?_
  refine WC_freeze (i := 1) rfl hb1 (.next <| .here) fun F3 hF4 hz1 => ?_
  replace h := h.mono hF4
  refine WC_freeze (i := 0) rfl hb2 (.here) fun F5 hF6 hz2 => ?_
  replace h := h.mono hF6
  replace hz1 := hF6 _ _ hz1
  refine WC_seq ?_
  refine WC_reg fun ds => ?_
  refine WL_q rfl (q_move (lk2 rfl <| lk1 rfl <| lk_entry rfl)) ?_
  refine WL_q rfl (q_makeFunc (.cons (lk2 rfl <| lk1 rfl <| lk0) (.cons (lk2 rfl <| lk0) .nil))) ?_
  refine WL_c rfl (q_call bd_83 lk_func (.cons (lk1 rfl <| lk0) (.cons (lk0) .nil)) (containsInt_ok h (fun z => !(inB lo hi z)) bd_84 fun k hk => outside1_ok hz1 hz2 _) (fun _ _ h => h)) ?_
  refine WL_q rfl (q_assign (lk0)) ?_
  refine WL_nil ?_
  refine then_n ?_
  refine WC_ret ?_
  refine post_ret rfl (.tmp (lk0) .nil) ?_
  rfl
end Go.Proofs.Ytbcjfkcpfjccdaa
namespace Go.Proofs.Ytbcjfkcpfjccdaa
open Go.RowKit
theorem agg_58 : AggT Try.prog 58 4 := aggT_of (by kernel_rfl)
theorem agg_62 : AggT Try.prog 62 5 := aggT_of (by kernel_rfl)
theorem agg_64 : AggT Try.prog 64 2 := aggT_of (by kernel_rfl)
theorem agg_66 : AggT Try.prog 66 2 := aggT_of (by kernel_rfl)
theorem bd_48 : Body Try.prog 48 := body_of (by kernel_rfl)
theorem bd_49 : Body Try.prog 49 := body_of (by kernel_rfl)
theorem bd_50 : Body Try.prog 50 := body_of (by kernel_rfl)
theorem bd_51 : Body Try.prog 51 := body_of (by kernel_rfl)
theorem bd_52 : Body Try.prog 52 := body_of (by kernel_rfl)
theorem bd_53 : Body Try.prog 53 := body_of (by kernel_rfl)
theorem bd_82 : Body Try.prog 82 := body_of (by kernel_rfl)
theorem bd_85 : Body Try.prog 85 := body_of (by kernel_rfl)
theorem fd_27_0 : FieldT Try.prog 27 0 0 := fieldT_of (by kernel_rfl)
theorem fd_27_1 : FieldT Try.prog 27 1 1 := fieldT_of (by kernel_rfl)
theorem fd_27_2 : FieldT Try.prog 27 2 2 := fieldT_of (by kernel_rfl)
theorem fd_27_3 : FieldT Try.prog 27 3 3 := fieldT_of (by kernel_rfl)
theorem fd_58_0 : FieldT Try.prog 58 0 0 := fieldT_of (by kernel_rfl)
theorem fd_58_1 : FieldT Try.prog 58 1 1 := fieldT_of (by kernel_rfl)
theorem fd_58_2 : FieldT Try.prog 58 2 2 := fieldT_of (by kernel_rfl)
theorem fd_58_3 : FieldT Try.prog 58 3 3 := fieldT_of (by kernel_rfl)
theorem fd_62_0 : FieldT Try.prog 62 0 0 := fieldT_of (by kernel_rfl)
theorem fd_62_1 : FieldT Try.prog 62 1 1 := fieldT_of (by kernel_rfl)
theorem fd_62_2 : FieldT Try.prog 62 2 2 := fieldT_of (by kernel_rfl)
theorem fd_64_0 : FieldT Try.prog 64 0 0 := fieldT_of (by kernel_rfl)
theorem fd_64_1 : FieldT Try.prog 64 1 1 := fieldT_of (by kernel_rfl)
theorem fd_66_0 : FieldT Try.prog 66 0 0 := fieldT_of (by kernel_rfl)
theorem one_22 : OneT Try.prog 22 := oneT_of (by kernel_rfl)
theorem one_23 : OneT Try.prog 23 := oneT_of (by kernel_rfl)
theorem one_24 : OneT Try.prog 24 := oneT_of (by kernel_rfl)
theorem one_25 : OneT Try.prog 25 := oneT_of (by kernel_rfl)
theorem sl_22 : SliceT Try.prog 22 62 5 := sliceT_of (by kernel_rfl)
theorem sl_23 : SliceT Try.prog 23 64 2 := sliceT_of (by kernel_rfl)
theorem sl_24 : SliceT Try.prog 24 66 2 := sliceT_of (by kernel_rfl)
theorem sl_25 : SliceT Try.prog 25 58 4 := sliceT_of (by kernel_rfl)
theorem sz_58 : SizeT Try.prog 58 4 := sizeT_of (by kernel_rfl)
theorem sz_62 : SizeT Try.prog 62 5 := sizeT_of (by kernel_rfl)
theorem sz_64 : SizeT Try.prog 64 2 := sizeT_of (by kernel_rfl)
theorem sz_66 : SizeT Try.prog 66 2 := sizeT_of (by kernel_rfl)
theorem zr_3 : ZeroT Try.prog 3 (.int .i64 0) := zeroT_of (by kernel_rfl)
theorem zr_58 : ZeroT Try.prog 58 (.agg #[.int .i64 0, .int .i64 0, .int .i64 0, .int .i64 0]) := zeroT_of (by kernel_rfl)
theorem zr_62 : ZeroT Try.prog 62 (.agg #[.string ⟨#[]⟩, .int .i64 0, .int .i64 0, .int .i64 0, .bool false]) := zeroT_of (by kernel_rfl)
theorem zr_64 : ZeroT Try.prog 64 (.agg #[.string ⟨#[]⟩, .int .i64 0]) := zeroT_of (by kernel_rfl)
theorem zr_66 : ZeroT Try.prog 66 (.agg #[.int .i64 0, .bool false]) := zeroT_of (by kernel_rfl)
set_option maxRecDepth 100000 in
theorem indexBook_ok {F : Heap} {v : Value} {xs : List Book} (h : Sl F v 5 Book.enc xs) (p : _ → Bool) {g : FuncId} {cs : List Value} (hg : Body Try.prog g) (hp : ∀ k (hk : k < xs.length), Ok Try.prog g ([Value.agg (Book.enc xs[k]).toArray] ++ cs).toArray F fun r _ => r = .bool (p xs[k])) : Ok Try.prog 82 [v, .func (.func g) #[] cs.toArray].toArray F fun r _ => r = .int .i64 (findI p xs) := by
  refine Ok.intro Try.func82 rfl Try.ntmps82 rfl fun w0 => ?_
  have hlen := h.plain.lt
  refine WC_seq ?_
  refine WC_reg fun ds => ?_
  refine WL_q rfl (q_assign lk_const) ?_
  refine WL_nil ?_
  refine then_n ?_
  refine WC_seq ?_
  refine WC_seq ?_
  refine WC_reg fun ds => ?_
  refine WL_q rfl (q_move (lk1 rfl <| lk_entry rfl)) ?_
  refine WL_q rfl (q_lenP sl_22 (lk0) h.plain) ?_
  refine WL_q rfl (q_move lk_const) ?_
  refine WL_nil ?_
  refine then_n ?_
  refine WC_block ?_
  refine WC_loopN [4, 5, 8, 9, 10, 11, 12, 13, 14, 15, 16, 17, 18] (fun m e σ => ∃ k : Nat, m + k = xs.length ∧ e 8 = .int .i64 k ∧ σ = ⟨F, []⟩ ∧ ∀ j (hj : j < xs.length), j < k → p xs[j] = false) (xs.length) ?_ ?_
  · exact ⟨0, by omega, (lk0), rfl, fun j hj h => absurd h (by omega)⟩
  ·
   rintro m e _ ⟨k, hm, hs8, rfl, hno⟩
   by_cases hlt : k < xs.length
   ·
    refine WC_seq ?_
    refine WC_reg fun ds => ?_
    refine WL_q rfl (q_lss (lk_in rfl hs8) (lk_off rfl <| lk1 rfl <| lk0)) ?_
    refine WL_nil ?_
    refine then_n ?_
    refine WC_seq ?_
    refine WC_if_true (lk0) (by first | rfl | exact decide_eq_true (by omega)) ?_
    by_cases hpk : p xs[k] = true
    ·
     refine WC_skip ?_
     refine then_n ?_
     refine WC_seq ?_
     refine WC_block ?_
     refine WC_seq ?_
     refine WC_reg fun ds => ?_
     refine WL_q rfl (q_move (lk1 rfl <| lk_in rfl hs8)) ?_
     refine WL_q rfl (q_assign (lk0)) ?_
     refine WL_nil ?_
     refine then_n ?_
     refine WC_seq ?_
     refine WC_reg fun ds => ?_
     refine WL_q rfl (q_move (lk2 rfl <| lk1 rfl <| lk_off rfl <| lk4 rfl <| lk_entry rfl)) ?_
     refine WL_q rfl (q_move (lk4 rfl <| lk_off rfl <| lk4 rfl <| lk_entry rfl)) ?_
     refine WL_q rfl (q_move (lk2 rfl <| lk0)) ?_
     refine WL_q rfl (q_index  sl_22 (lk1 rfl <| lk0) h.plain (lk0) rfl (by omega)) ?_
     refine WL_q rfl (q_loadN agg_62 (lk0) rfl rfl (h.whole (by omega))) ?_
     refine WL_c rfl (q_call hg (lk4 rfl <| lk0) (.cons (lk0) .nil) (hp k hlt) (fun _ _ h => h)) ?_
     refine WL_nil ?_
     refine then_n ?_
     refine WC_if_true (lk0) hpk ?_
     refine WC_seq ?_
     refine WC_reg fun ds => ?_
     refine WL_q rfl (q_move (lk4 rfl <| lk2 rfl <| lk0)) ?_
     refine WL_q rfl (q_assign (lk0)) ?_
     refine WL_nil ?_
     refine then_n ?_
     refine WC_ret ?_
     refine block_r (then_r (then_r (block_r (then_r ?_))))
     refine post_ret rfl (.tmp (lk0) .nil) ?_
     show _ = _
     rw [findI_some hlt hpk hno]; rfl
    ·
     replace hpk : p xs[k] = false := by simpa using hpk
     refine WC_skip ?_
     refine then_n ?_
     refine WC_seq ?_
     refine WC_block ?_
     refine WC_seq ?_
     refine WC_reg fun ds => ?_
     refine WL_q rfl (q_move (lk1 rfl <| lk_in rfl hs8)) ?_
     refine WL_q rfl (q_assign (lk0)) ?_
     refine WL_nil ?_
     refine then_n ?_
     refine WC_seq ?_
     refine WC_reg fun ds => ?_
     refine WL_q rfl (q_move (lk2 rfl <| lk1 rfl <| lk_off rfl <| lk4 rfl <| lk_entry rfl)) ?_
     refine WL_q rfl (q_move (lk4 rfl <| lk_off rfl <| lk4 rfl <| lk_entry rfl)) ?_
     refine WL_q rfl (q_move (lk2 rfl <| lk0)) ?_
     refine WL_q rfl (q_index  sl_22 (lk1 rfl <| lk0) h.plain (lk0) rfl (by omega)) ?_
     refine WL_q rfl (q_loadN agg_62 (lk0) rfl rfl (h.whole (by omega))) ?_
     refine WL_c rfl (q_call hg (lk4 rfl <| lk0) (.cons (lk0) .nil) (hp k hlt) (fun _ _ h => h)) ?_
     refine WL_nil ?_
     refine then_n ?_
     refine WC_if_false (lk0) hpk ?_
     refine WC_skip ?_
     refine block_n (then_n ?_)
     refine WC_reg fun ds => ?_
     refine WL_q rfl (q_add (lk8 rfl <| lk1 rfl <| lk_in rfl hs8) lk_const rfl (by omega) (by omega)) ?_
     refine WL_q rfl (q_move (lk0)) ?_
     refine WL_nil ?_
     refine then_n ⟨_, m - 1, Off.eq (ou8 rfl <| ou2 rfl <| ou1 rfl <| off_over), by omega, ?_⟩
     refine ⟨k + 1, by omega, (lk0), rfl, fun j hj hjk => ?_⟩
     rcases Nat.lt_succ_iff_lt_or_eq.1 hjk with hjk | rfl
     · exact hno j hj hjk
     · exact hpk
   ·
    refine WC_seq ?_
    refine WC_reg fun ds => ?_
    refine WL_q rfl (q_lss (lk_in rfl hs8) (lk_off rfl <| lk1 rfl <| lk0)) ?_
    refine WL_nil ?_
    refine then_n ?_
    refine WC_seq ?_
    refine WC_if_false (lk0) (by first | rfl | exact decide_eq_false (by omega)) ?_
    refine WC_exit ?_
    refine then_x (then_x (exit_here ?_))
    refine then_n ?_
    refine WC_seq ?_
    refine WC_reg fun ds => ?_
    refine WL_q rfl (q_assign lk_const) ?_
    refine WL_nil ?_
    refine then_n ?_
    refine WC_ret ?_
    refine post_ret rfl (.tmp (lk0) .nil) ?_
    show _ = _
    rw [findI_none fun j hj => hno j hj (by omega)]; rfl
set_option maxRecDepth 100000 in
theorem containsBook_ok {F : Heap} {v : Value} {xs : List Book} (h : Sl F v 5 Book.enc xs) (p : _ → Bool) {g : FuncId} {cs : List Value} (hg : Body Try.prog g) (hp : ∀ k (hk : k < xs.length), Ok Try.prog g ([Value.agg (Book.enc xs[k]).toArray] ++ cs).toArray F fun r _ => r = .bool (p xs[k])) : Ok Try.prog 49 [v, .func (.func g) #[] cs.toArray].toArray F fun r _ => r = .bool (xs.any p) := by
  refine Ok.intro Try.func49 rfl Try.ntmps49 rfl fun w0 => ?_
  refine WC_seq ?_
  refine WC_reg fun ds => ?_
  refine WL_q rfl (q_assign lk_const) ?_
  refine WL_nil ?_
  refine then_n ?_
  refine WC_seq ?_
  refine WC_reg fun ds => ?_
  refine WL_q rfl (q_move (lk1 rfl <| lk_entry rfl)) ?_
  refine WL_q rfl (q_move (lk2 rfl <| lk_entry rfl)) ?_
  refine WL_c rfl (q_call bd_82 lk_func (.cons (lk1 rfl <| lk0) (.cons (lk0) .nil)) (indexBook_ok h p hg hp) (fun _ _ h => h)) ?_
  refine WL_q rfl (q_geq (lk0) lk_const) ?_
  refine WL_q rfl (q_assign (lk0)) ?_
  refine WL_nil ?_
  refine then_n ?_
  refine WC_ret ?_
  refine post_ret rfl (.tmp (lk0) .nil) ?_
  show _ = _
  rw [← findI_any]; rfl
set_option maxRecDepth 100000 in
theorem check1_ok {F : Heap} {c TB : Nat} {b : Book} (hb : F c = some (bx TB b.enc)) (x : Book) : Ok Try.prog 50 [.agg x.enc.toArray, .pointer (some ⟨c, 0, none⟩)].toArray F fun r _ => r = .bool (sameS x.name b.name) := by
  refine Ok.intro Try.func50 rfl Try.ntmps50 rfl fun w0 => ?_
  refine WC_seq ?_
  refine WC_reg fun ds => ?_
  refine WL_x rfl (x_box (lk_entry rfl) rfl fun b1 hb1 nb1 => ?_)
  refine WL_q rfl (q_assign lk_const) ?_
  refine WL_nil ?_
  refine then_n ?_
  refine WC_seq ?_
  refine WC_reg fun ds => ?_
  refine WL_q rfl (q_fieldAddrB fd_62_0 (lk1 rfl <| lk0)) ?_
  refine WL_q rfl (q_load1 one_9 (lk0) (Cell.own 0 rfl rfl)) ?_
  refine WL_q rfl (q_fieldAddrB fd_62_0 (lk4 rfl <| lk_entry rfl)) ?_
  refine WL_q rfl (q_load1 one_9 (lk0) (CellF.own hb rfl).cell) ?_
  refine WL_q rfl (q_eqs (lk2 rfl <| lk0) (lk0)) ?_
  refine WL_q rfl (q_assign (lk0)) ?_
  refine WL_nil ?_
  refine then_n ?_
  refine WC_ret ?_
  refine post_ret rfl (.tmp (lk0) .nil) ?_
  rfl
set_option maxRecDepth 100000 in
theorem indexRdr_ok {F : Heap} {v : Value} {xs : List Rdr} (h : Sl F v 2 Rdr.enc xs) (p : _ → Bool) {g : FuncId} {cs : List Value} (hg : Body Try.prog g) (hp : ∀ k (hk : k < xs.length), Ok Try.prog g ([Value.agg (Rdr.enc xs[k]).toArray] ++ cs).toArray F fun r _ => r = .bool (p xs[k])) : Ok Try.prog 85 [v, .func (.func g) #[] cs.toArray].toArray F fun r _ => r = .int .i64 (findI p xs) := by
  refine Ok.intro Try.func85 rfl Try.ntmps85 rfl fun w0 => ?_
  have hlen := h.plain.lt
  refine WC_seq ?_
  refine WC_reg fun ds => ?_
  refine WL_q rfl (q_assign lk_const) ?_
  refine WL_nil ?_
  refine then_n ?_
  refine WC_seq ?_
  refine WC_seq ?_
  refine WC_reg fun ds => ?_
  refine WL_q rfl (q_move (lk1 rfl <| lk_entry rfl)) ?_
  refine WL_q rfl (q_lenP sl_23 (lk0) h.plain) ?_
  refine WL_q rfl (q_move lk_const) ?_
  refine WL_nil ?_
  refine then_n ?_
  refine WC_block ?_
  refine WC_loopN [4, 5, 8, 9, 10, 11, 12, 13, 14, 15, 16, 17, 18] (fun m e σ => ∃ k : Nat, m + k = xs.length ∧ e 8 = .int .i64 k ∧ σ = ⟨F, []⟩ ∧ ∀ j (hj : j < xs.length), j < k → p xs[j] = false) (xs.length) ?_ ?_
  · exact ⟨0, by omega, (lk0), rfl, fun j hj h => absurd h (by omega)⟩
  ·
   rintro m e _ ⟨k, hm, hs8, rfl, hno⟩
   by_cases hlt : k < xs.length
   ·
    refine WC_seq ?_
    refine WC_reg fun ds => ?_
    refine WL_q rfl (q_lss (lk_in rfl hs8) (lk_off rfl <| lk1 rfl <| lk0)) ?_
    refine WL_nil ?_
    refine then_n ?_
    refine WC_seq ?_
    refine WC_if_true (lk0) (by first | rfl | exact decide_eq_true (by omega)) ?_
    by_cases hpk : p xs[k] = true
    ·
     refine WC_skip ?_
     refine then_n ?_
     refine WC_seq ?_
     refine WC_block ?_
     refine WC_seq ?_
     refine WC_reg fun ds => ?_
     refine WL_q rfl (q_move (lk1 rfl <| lk_in rfl hs8)) ?_
     refine WL_q rfl (q_assign (lk0)) ?_
     refine WL_nil ?_
     refine then_n ?_
     refine WC_seq ?_
     refine WC_reg fun ds => ?_
     refine WL_q rfl (q_move (lk2 rfl <| lk1 rfl <| lk_off rfl <| lk4 rfl <| lk_entry rfl)) ?_
     refine WL_q rfl (q_move (lk4 rfl <| lk_off rfl <| lk4 rfl <| lk_entry rfl)) ?_
     refine WL_q rfl (q_move (lk2 rfl <| lk0)) ?_
     refine WL_q rfl (q_index  sl_23 (lk1 rfl <| lk0) h.plain (lk0) rfl (by omega)) ?_
     refine WL_q rfl (q_loadN agg_64 (lk0) rfl rfl (h.whole (by omega))) ?_
     refine WL_c rfl (q_call hg (lk4 rfl <| lk0) (.cons (lk0) .nil) (hp k hlt) (fun _ _ h => h)) ?_
     refine WL_nil ?_
     refine then_n ?_
     refine WC_if_true (lk0) hpk ?_
     refine WC_seq ?_
     refine WC_reg fun ds => ?_
     refine WL_q rfl (q_move (lk4 rfl <| lk2 rfl <| lk0)) ?_
     refine WL_q rfl (q_assign (lk0)) ?_
     refine WL_nil ?_
     refine then_n ?_
     refine WC_ret ?_
     refine block_r (then_r (then_r (block_r (then_r ?_))))
     refine post_ret rfl (.tmp (lk0) .nil) ?_
     show _ = _
     rw [findI_some hlt hpk hno]; rfl
    ·
     replace hpk : p xs[k] = false := by simpa using hpk
     refine WC_skip ?_
     refine then_n ?_
     refine WC_seq ?_
     refine WC_block ?_
     refine WC_seq ?_
     refine WC_reg fun ds => ?_
     refine WL_q rfl (q_move (lk1 rfl <| lk_in rfl hs8)) ?_
     refine WL_q rfl (q_assign (lk0)) ?_
     refine WL_nil ?_
     refine then_n ?_
     refine WC_seq ?_
     refine WC_reg fun ds => ?_
     refine WL_q rfl (q_move (lk2 rfl <| lk1 rfl <| lk_off rfl <| lk4 rfl <| lk_entry rfl)) ?_
     refine WL_q rfl (q_move (lk4 rfl <| lk_off rfl <| lk4 rfl <| lk_entry rfl)) ?_
     refine WL_q rfl (q_move (lk2 rfl <| lk0)) ?_
     refine WL_q rfl (q_index  sl_23 (lk1 rfl <| lk0) h.plain (lk0) rfl (by omega)) ?_
     refine WL_q rfl (q_loadN agg_64 (lk0) rfl rfl (h.whole (by omega))) ?_
     refine WL_c rfl (q_call hg (lk4 rfl <| lk0) (.cons (lk0) .nil) (hp k hlt) (fun _ _ h => h)) ?_
     refine WL_nil ?_
     refine then_n ?_
     refine WC_if_false (lk0) hpk ?_
     refine WC_skip ?_
     refine block_n (then_n ?_)
     refine WC_reg fun ds => ?_
     refine WL_q rfl (q_add (lk8 rfl <| lk1 rfl <| lk_in rfl hs8) lk_const rfl (by omega) (by omega)) ?_
     refine WL_q rfl (q_move (lk0)) ?_
     refine WL_nil ?_
     refine then_n ⟨_, m - 1, Off.eq (ou8 rfl <| ou2 rfl <| ou1 rfl <| off_over), by omega, ?_⟩
     refine ⟨k + 1, by omega, (lk0), rfl, fun j hj hjk => ?_⟩
     rcases Nat.lt_succ_iff_lt_or_eq.1 hjk with hjk | rfl
     · exact hno j hj hjk
     · exact hpk
   ·
    refine WC_seq ?_
    refine WC_reg fun ds => ?_
    refine WL_q rfl (q_lss (lk_in rfl hs8) (lk_off rfl <| lk1 rfl <| lk0)) ?_
    refine WL_nil ?_
    refine then_n ?_
    refine WC_seq ?_
    refine WC_if_false (lk0) (by first | rfl | exact decide_eq_false (by omega)) ?_
    refine WC_exit ?_
    refine then_x (then_x (exit_here ?_))
    refine then_n ?_
    refine WC_seq ?_
    refine WC_reg fun ds => ?_
    refine WL_q rfl (q_assign lk_const) ?_
    refine WL_nil ?_
    refine then_n ?_
    refine WC_ret ?_
    refine post_ret rfl (.tmp (lk0) .nil) ?_
    show _ = _
    rw [findI_none fun j hj => hno j hj (by omega)]; rfl
set_option maxRecDepth 100000 in
theorem containsRdr_ok {F : Heap} {v : Value} {xs : List Rdr} (h : Sl F v 2 Rdr.enc xs) (p : _ → Bool) {g : FuncId} {cs : List Value} (hg : Body Try.prog g) (hp : ∀ k (hk : k < xs.length), Ok Try.prog g ([Value.agg (Rdr.enc xs[k]).toArray] ++ cs).toArray F fun r _ => r = .bool (p xs[k])) : Ok Try.prog 52 [v, .func (.func g) #[] cs.toArray].toArray F fun r _ => r = .bool (xs.any p) := by
  refine Ok.intro Try.func52 rfl Try.ntmps52 rfl fun w0 => ?_
  refine WC_seq ?_
  refine WC_reg fun ds => ?_
  refine WL_q rfl (q_assign lk_const) ?_
  refine WL_nil ?_
  refine then_n ?_
  refine WC_seq ?_
  refine WC_reg fun ds => ?_
  refine WL_q rfl (q_move (lk1 rfl <| lk_entry rfl)) ?_
  refine WL_q rfl (q_move (lk2 rfl <| lk_entry rfl)) ?_
  refine WL_c rfl (q_call bd_85 lk_func (.cons (lk1 rfl <| lk0) (.cons (lk0) .nil)) (indexRdr_ok h p hg hp) (fun _ _ h => h)) ?_
  refine WL_q rfl (q_geq (lk0) lk_const) ?_
  refine WL_q rfl (q_assign (lk0)) ?_
  refine WL_nil ?_
  refine then_n ?_
  refine WC_ret ?_
  refine post_ret rfl (.tmp (lk0) .nil) ?_
  show _ = _
  rw [← findI_any]; rfl
set_option maxRecDepth 100000 in
theorem check2_ok {F : Heap} {c TB : Nat} {b : Rdr} (hb : F c = some (bx TB b.enc)) (x : Rdr) : Ok Try.prog 53 [.agg x.enc.toArray, .pointer (some ⟨c, 0, none⟩)].toArray F fun r _ => r = .bool (sameS x.name b.name) := by
  refine Ok.intro Try.func53 rfl Try.ntmps53 rfl fun w0 => ?_
  refine WC_seq ?_
  refine WC_reg fun ds => ?_
  refine WL_x rfl (x_box (lk_entry rfl) rfl fun b1 hb1 nb1 => ?_)
  refine WL_q rfl (q_assign lk_const) ?_
  refine WL_nil ?_
  refine then_n ?_
  refine WC_seq ?_
  refine WC_reg fun ds => ?_
  refine WL_q rfl (q_fieldAddrB fd_64_0 (lk1 rfl <| lk0)) ?_
  refine WL_q rfl (q_load1 one_9 (lk0) (Cell.own 0 rfl rfl)) ?_
  refine WL_q rfl (q_fieldAddrB fd_64_0 (lk4 rfl <| lk_entry rfl)) ?_
  refine WL_q rfl (q_load1 one_9 (lk0) (CellF.own hb rfl).cell) ?_
  refine WL_q rfl (q_eqs (lk2 rfl <| lk0) (lk0)) ?_
  refine WL_q rfl (q_assign (lk0)) ?_
  refine WL_nil ?_
  refine then_n ?_
  refine WC_ret ?_
  refine post_ret rfl (.tmp (lk0) .nil) ?_
  rfl
set_option maxRecDepth 100000 in
theorem check_ok {F : Heap} {vb vr vs vq : Value} {r : Room} (hr : RoomR F vb vr vs vq r) : Ok Try.prog 15 [.agg #[vb, vr, vs, vq]].toArray F fun v _ => v = checkV r := by
  refine Ok.intro Try.func15 rfl Try.ntmps15 rfl fun w0 => ?_
  by_cases h1 : 8 < r.books.length
  ·
   refine WC_seq ?_
   refine WC_reg fun ds => ?_
   refine WL_x rfl (x_box (lk_entry rfl) rfl fun b1 hb1 nb1 => ?_)
   refine WL_q rfl (q_assign lk_const) ?_
   refine WL_q rfl (q_assign lk_const) ?_
   refine WL_q rfl (q_assign lk_const) ?_
   refine WL_nil ?_
   refine then_n ?_
   refine WC_seq ?_
   refine WC_seq ?_
   refine WC_reg fun ds => ?_
   refine WL_q rfl (q_fieldAddrB fd_27_0 (lk2 rfl <| lk1 rfl <| lk0)) ?_
   refine WL_q rfl (q_load1 one_22 (lk0) (Cell.own 0 rfl rfl)) ?_
   refine WL_q rfl (q_lenP sl_22 (lk0) hr.books.plain) ?_
   refine WL_q rfl (q_gtr (lk0) lk_const) ?_
   refine WL_nil ?_
   refine then_n ?_
   refine WC_if_true (lk0) (by first | rfl | exact decide_eq_true (by omega)) ?_
   refine WC_seq ?_
   refine WC_reg fun ds => ?_
   refine WL_q rfl (q_assign lk_const) ?_
   refine WL_q rfl (q_assign lk_const) ?_
   refine WL_q rfl (q_assign lk_const) ?_
   refine WL_nil ?_
   refine then_n ?_
   refine WC_ret ?_
   refine then_r ?_
   refine post_ret rfl (.tmp (lk2 rfl <| lk0) (.tmp (lk1 rfl <| lk0) (.tmp (lk0) .nil))) ?_
   show _ = _
   exact (checkV1 (checkBooks_long h1)).symm
  ·
   refine WC_seq ?_
   refine WC_reg fun ds => ?_
   refine WL_x rfl (x_box (lk_entry rfl) rfl fun b2 hb2 nb2 => ?_)
   refine WL_q rfl (q_assign lk_const) ?_
   refine WL_q rfl (q_assign lk_const) ?_
   refine WL_q rfl (q_assign lk_const) ?_
   refine WL_nil ?_
   refine then_n ?_
   refine WC_seq ?_
   refine WC_seq ?_
   refine WC_reg fun ds => ?_
   refine WL_q rfl (q_fieldAddrB fd_27_0 (lk2 rfl <| lk1 rfl <| lk0)) ?_
   refine WL_q rfl (q_load1 one_22 (lk0) (Cell.own 0 rfl rfl)) ?_
   refine WL_q rfl (q_lenP sl_22 (lk0) hr.books.plain) ?_
   refine WL_q rfl (q_gtr (lk0) lk_const) ?_
   refine WL_nil ?_
   refine then_n ?_
   refine WC_if_false (lk0) (by first | rfl | exact decide_eq_false (by omega)) ?_
   refine WC_skip ?_
   refine then_n ?_
   refine WC_seq ?_
   refine WC_seq ?_
   refine WC_reg fun ds => ?_
   refine WL_q rfl (q_fieldAddrB fd_27_0 (lk4 rfl <| lk2 rfl <| lk1 rfl <| lk0)) ?_
   refine WL_q rfl (q_load1 one_22 (lk0) (Cell.own 0 rfl rfl)) ?_
   refine WL_q rfl (q_lenP sl_22 (lk0) hr.books.plain) ?_
   refine WL_q rfl (q_move lk_const) ?_
   refine WL_nil ?_
   refine then_n ?_
   refine WC_block ?_
   refine WC_loopN [2, 3, 4, 5, 6, 20, 21, 22, 23, 24, 25, 26, 27, 28, 29, 30, 31, 32, 33, 34, 35, 36, 37, 38, 39, 40, 41, 42, 43, 44, 45, 46, 47, 48, 49, 50, 51, 52, 53, 54, 55, 56, 57, 58, 59, 60, 61, 62, 63, 64] (fun m e σ => ∃ G, RoomR G vb vr vs vq r ∧ ∃ k : Nat, m + k = r.books.length ∧ e 20 = .int .i64 k ∧ σ = ⟨G, [(b2, bx 27 [vb, vr, vs, vq])]⟩ ∧ ∀ j, j < k → bookErr r.books j = 0) (r.books.length) ?_ ?_
   · exact ⟨F, hr, 0, by omega, (lk0), rfl, fun j h => absurd h (by omega)⟩
   ·
    rintro m e _ ⟨G, hr, k, hm, hs20, rfl, hno⟩
    by_cases hlt : k < r.books.length
    ·
     refine WC_seq ?_
     refine WC_reg fun ds => ?_
     refine WL_q rfl (q_lss (lk_in rfl hs20) (lk_off rfl <| lk1 rfl <| lk0)) ?_
     refine WL_nil ?_
     refine then_n ?_
     refine WC_seq ?_
     refine WC_if_true (lk0) (by first | rfl | exact decide_eq_true (by omega)) ?_
     by_cases hn : nameOk r.books[k].name = true
     ·
      refine WC_skip ?_
      refine then_n ?_
      refine WC_seq ?_
      refine WC_block ?_
      refine WC_seq ?_
      refine WC_reg fun ds => ?_
      refine WL_q rfl (q_move (lk1 rfl <| lk_in rfl hs20)) ?_
      refine WL_q rfl (q_index  sl_22 (lk2 rfl <| lk_off rfl <| lk2 rfl <| lk0) hr.books.plain (lk2 rfl <| lk_in rfl hs20) rfl (by omega)) ?_
      refine WL_q rfl (q_loadN agg_62 (lk0) rfl rfl (hr.books.whole (by omega))) ?_
      refine WL_x rfl (x_alloc zr_62 rfl fun b4 hb4 nb4 => ?_)
      refine WL_q rfl (q_assign (lk2 rfl <| lk1 rfl <| lk0)) ?_
      refine WL_x0 (x_storeA sz_62 (lk1 rfl <| lk0) (lk2 rfl <| lk0) (i := 0) rfl rfl rfl rfl Book.enc_one (.here) ?_)
      refine WL_nil ?_
      refine then_n ?_
      refine WC_block ?_
      refine WC_seq ?_
      refine WC_reg fun ds => ?_
      refine WL_q rfl (q_fieldAddrB fd_62_0 (lk1 rfl <| lk0)) ?_
      refine WL_q rfl (q_load1 one_9 (lk0) (Cell.own 0 rfl rfl)) ?_
      refine WL_c rfl (q_call bd_48 lk_func (.cons (lk0) .nil) (quireName_ok _) (fun _ _ h => h)) ?_
      refine WL_q rfl (q_not (lk0)) ?_
      refine WL_q rfl (q_assign (lk0)) ?_
      refine WL_nil ?_
      refine then_n ?_
      refine WC_if_false (lk0) (by first | exact hn | (simp [hn]; done)) ?_
      refine WC_freeze (i := 0) rfl hb4 (.here) fun F5 hF6 hq => ?_
      replace hr := hr.mono hF6
      by_cases ht : (r.books.take k).any (fun y => sameS y.name r.books[k].name) = true
      ·
       refine WC_seq ?_
       refine WC_reg fun ds => ?_
       refine WL_q rfl (q_fieldAddrB fd_27_0 (lk8 rfl <| lk2 rfl <| lk1 rfl <| lk_off rfl <| lk8 rfl <| lk2 rfl <| lk1 rfl <| lk0)) ?_
       refine WL_q rfl (q_load1 one_22 (lk0) (Cell.own 0 rfl rfl)) ?_
       refine WL_q rfl (q_move (lk4 rfl <| lk2 rfl <| lk1 rfl <| lk0)) ?_
       refine WL_q rfl (q_sliceTo sl_22 (lk1 rfl <| lk0) hr.books.plain (lk0) rfl (Nat.le_of_lt hlt)) ?_
       refine WL_q rfl (q_makeFunc (.cons (lk8 rfl <| lk2 rfl <| lk0) .nil)) ?_
       refine WL_c rfl (q_call bd_49 lk_func (.cons (lk1 rfl <| lk0) (.cons (lk0) .nil)) (containsBook_ok (hr.books.to (Nat.le_of_lt hlt)) (fun y => sameS y.name r.books[k].name) bd_50 fun i hi => check1_ok hq _) (fun _ _ h => h)) ?_
       refine WL_q rfl (q_assign (lk0)) ?_
       refine WL_nil ?_
       refine then_n ?_
       refine WC_if_true (lk0) (by first | exact ht | (simp [ht]; done)) ?_
       refine WC_seq ?_
       refine WC_reg fun ds => ?_
       refine WL_q rfl (q_move (lk8 rfl <| lk4 rfl <| lk0)) ?_
       refine WL_q rfl (q_assign lk_const) ?_
       refine WL_q rfl (q_assign (lk1 rfl <| lk0)) ?_
       refine WL_q rfl (q_assign lk_const) ?_
       refine WL_nil ?_
       refine then_n ?_
       refine WC_ret ?_
       refine block_r (block_r (then_r (then_r (block_r (then_r ?_)))))
       refine post_ret rfl (.tmp (lk2 rfl <| lk0) (.tmp (lk1 rfl <| lk0) (.tmp (lk0) .nil))) ?_
       show _ = _
       exact (checkV1 (checkBooks_bad h1 hlt hno (by rw [bookErr_at hlt]; simp [hn, ht]) (by decide))).symm
      ·
       replace ht : (r.books.take k).any (fun y => sameS y.name r.books[k].name) = false := by simpa using ht
       refine WC_seq ?_
       refine WC_reg fun ds => ?_
       refine WL_q rfl (q_fieldAddrB fd_27_0 (lk8 rfl <| lk2 rfl <| lk1 rfl <| lk_off rfl <| lk8 rfl <| lk2 rfl <| lk1 rfl <| lk0)) ?_
       refine WL_q rfl (q_load1 one_22 (lk0) (Cell.own 0 rfl rfl)) ?_
       refine WL_q rfl (q_move (lk4 rfl <| lk2 rfl <| lk1 rfl <| lk0)) ?_
       refine WL_q rfl (q_sliceTo sl_22 (lk1 rfl <| lk0) hr.books.plain (lk0) rfl (Nat.le_of_lt hlt)) ?_
       refine WL_q rfl (q_makeFunc (.cons (lk8 rfl <| lk2 rfl <| lk0) .nil)) ?_
       refine WL_c rfl (q_call bd_49 lk_func (.cons (lk1 rfl <| lk0) (.cons (lk0) .nil)) (containsBook_ok (hr.books.to (Nat.le_of_lt hlt)) (fun y => sameS y.name r.books[k].name) bd_50 fun i hi => check1_ok hq _) (fun _ _ h => h)) ?_
       refine WL_q rfl (q_assign (lk0)) ?_
       refine WL_nil ?_
       refine then_n ?_
       refine WC_if_false (lk0) (by first | exact ht | (simp [ht]; done)) ?_
       by_cases h1c : inB 0 5 r.books[k].cls = true
       ·
        refine WC_seq ?_
        refine WC_reg fun ds => ?_
        refine WL_q rfl (q_fieldAddrB fd_62_1 (lk8 rfl <| lk4 rfl <| lk1 rfl <| lk0)) ?_
        refine WL_q rfl (q_load1 one_3 (lk0) (CellF.own hq rfl).cell) ?_
        refine WL_x rfl (x_build sl_29 zr_3 rfl (.cons (lk0) .nil) rfl rfl (by decide) (by simp [Value.oneCell']) fun b7 hb7 nb7 => ?_)
        refine WL_freeze (i := 0) rfl hb7 .here fun F8 hF9 hz10 => ?_
        replace hr := hr.mono hF9
        replace hq := hF9 _ _ hq
        have hsl11 := ints_box1 hz10
        refine WL_c rfl (q_call bd_51 lk_func (.cons lk_const (.cons lk_const (.cons (lk0) .nil))) (outside_ok _ _ hsl11) (fun _ _ h => h)) ?_
        refine WL_q rfl (q_move (lk0)) ?_
        refine WL_want rfl rfl (lk0) (by first | exact h1c | (simp [h1c]; done)) ?_
        refine WL_q rfl (q_fieldAddrB fd_62_2 (lk16 rfl <| lk2 rfl <| lk0)) ?_
        refine WL_want rfl rfl (lk1 rfl <| lk0) (by first | exact h1c | (simp [h1c]; done)) ?_
        refine WL_q rfl (q_fieldAddrB fd_60_0 (lk0)) ?_
        refine WL_want rfl rfl (lk2 rfl <| lk0) (by first | exact h1c | (simp [h1c]; done)) ?_
        refine WL_q rfl (q_load1 one_3 (lk0) (CellF.own hq rfl).cell) ?_
        refine WL_want rfl rfl (lk2 rfl <| lk1 rfl <| lk0) (by first | exact h1c | (simp [h1c]; done)) ?_
        refine WL_q rfl (q_fieldAddrB fd_62_2 (lk16 rfl <| lk4 rfl <| lk1 rfl <| lk0)) ?_
        refine WL_want rfl rfl (lk4 rfl <| lk0) (by first | exact h1c | (simp [h1c]; done)) ?_
        refine WL_q rfl (q_fieldAddrB fd_60_1 (lk0)) ?_
        refine WL_want rfl rfl (lk4 rfl <| lk1 rfl <| lk0) (by first | exact h1c | (simp [h1c]; done)) ?_
        refine WL_q rfl (q_load1 one_3 (lk0) (CellF.own hq rfl).cell) ?_
        refine WL_want rfl rfl (lk4 rfl <| lk2 rfl <| lk0) (by first | exact h1c | (simp [h1c]; done)) ?_
        refine WL_x rfl (x_build sl_29 zr_3 rfl (.cons (lk2 rfl <| lk1 rfl <| lk0) (.cons (lk0) .nil)) rfl rfl (by decide) (by simp [Value.oneCell']) fun b12 hb12 nb12 => ?_)
        refine WL_freeze (i := 0) rfl hb12 .here fun F13 hF14 hz15 => ?_
        replace hr := hr.mono hF14
        replace hsl11 := hsl11.mono hF14
        replace hq := hF14 _ _ hq
        have hsl16 := ints_box2 hz15
        refine WL_want rfl rfl (lk4 rfl <| lk2 rfl <| lk1 rfl <| lk0) (by first | exact h1c | (simp [h1c]; done)) ?_
        refine WL_c rfl (q_call bd_51 lk_func (.cons lk_const (.cons lk_const (.cons (lk0) .nil))) (outside_ok _ _ hsl16) (fun _ _ h => h)) ?_
        refine WL_q rfl (q_pick_false (lk8 rfl <| lk0) (by first | exact h1c | (simp [h1c]; done)) (lk0)) ?_
        refine WL_q rfl (q_assign (lk0)) ?_
        refine WL_nil ?_
        refine then_n ?_
        by_cases h1l : (inB 0 1000 r.books[k].lo && inB 0 1000 r.books[k].hi) = true
        ·
         refine WC_if_false (lk0) (by simpa using h1l) ?_
         by_cases hw : r.books[k].hi < r.books[k].lo
         ·
          refine WC_seq ?_
          refine WC_reg fun ds => ?_
          refine WL_q rfl (q_fieldAddrB fd_62_2 (lk16 rfl <| lk8 rfl <| lk4 rfl <| lk0)) ?_
          refine WL_q rfl (q_fieldAddrB fd_60_0 (lk0)) ?_
          refine WL_q rfl (q_load1 one_3 (lk0) (CellF.own hq rfl).cell) ?_
          refine WL_q rfl (q_fieldAddrB fd_62_2 (lk16 rfl <| lk8 rfl <| lk4 rfl <| lk2 rfl <| lk1 rfl <| lk0)) ?_
          refine WL_q rfl (q_fieldAddrB fd_60_1 (lk0)) ?_
          refine WL_q rfl (q_load1 one_3 (lk0) (CellF.own hq rfl).cell) ?_
          refine WL_q rfl (q_gtr (lk2 rfl <| lk1 rfl <| lk0) (lk0)) ?_
          refine WL_q rfl (q_assign (lk0)) ?_
          refine WL_nil ?_
          refine then_n ?_
          refine WC_if_true (lk0) (by first | rfl | exact decide_eq_true (by omega)) ?_
          refine WC_seq ?_
          refine WC_reg fun ds => ?_
          refine WL_q rfl (q_move (lk32 rfl <| lk2 rfl <| lk1 rfl <| lk0)) ?_
          refine WL_q rfl (q_assign lk_const) ?_
          refine WL_q rfl (q_assign (lk1 rfl <| lk0)) ?_
          refine WL_q rfl (q_assign lk_const) ?_
          refine WL_nil ?_
          refine then_n ?_
          refine WC_ret ?_
          refine block_r (block_r (then_r (then_r (block_r (then_r ?_)))))
          refine post_ret rfl (.tmp (lk2 rfl <| lk0) (.tmp (lk1 rfl <| lk0) (.tmp (lk0) .nil))) ?_
          show _ = _
          exact (checkV1 (checkBooks_bad h1 hlt hno (by rw [bookErr_at hlt]; simp [hn, ht, h1c, h1l, hw]) (by decide))).symm
         ·
          refine WC_seq ?_
          refine WC_reg fun ds => ?_
          refine WL_q rfl (q_fieldAddrB fd_62_2 (lk16 rfl <| lk8 rfl <| lk4 rfl <| lk0)) ?_
          refine WL_q rfl (q_fieldAddrB fd_60_0 (lk0)) ?_
          refine WL_q rfl (q_load1 one_3 (lk0) (CellF.own hq rfl).cell) ?_
          refine WL_q rfl (q_fieldAddrB fd_62_2 (lk16 rfl <| lk8 rfl <| lk4 rfl <| lk2 rfl <| lk1 rfl <| lk0)) ?_
          refine WL_q rfl (q_fieldAddrB fd_60_1 (lk0)) ?_
          refine WL_q rfl (q_load1 one_3 (lk0) (CellF.own hq rfl).cell) ?_
          refine WL_q rfl (q_gtr (lk2 rfl <| lk1 rfl <| lk0) (lk0)) ?_
          refine WL_q rfl (q_assign (lk0)) ?_
          refine WL_nil ?_
          refine then_n ?_
          refine WC_if_false (lk0) (by first | rfl | exact decide_eq_false (by omega)) ?_
          refine WC_skip ?_
          refine block_n (block_n (then_n ?_))
          refine WC_reg fun ds => ?_
          refine WL_q rfl (q_add (lk32 rfl <| lk8 rfl <| lk1 rfl <| lk_in rfl hs20) lk_const rfl (by omega) (by omega)) ?_
          refine WL_q rfl (q_move (lk0)) ?_
          refine WL_nil ?_
          refine then_n ⟨_, m - 1, Off.eq (ou32 rfl <| ou8 rfl <| ou2 rfl <| ou1 rfl <| off_over), by omega, ?_⟩
          refine ⟨_, hr, k + 1, by omega, (lk0), rfl, fun j hjk => ?_⟩
          rcases Nat.lt_succ_iff_lt_or_eq.1 hjk with hjk | rfl
          · exact hno j hjk
          · rw [bookErr_at hlt]; simp [hn, ht, h1c, h1l, hw]
        ·
         replace h1l : (inB 0 1000 r.books[k].lo && inB 0 1000 r.books[k].hi) = false := by simpa using h1l
         refine WC_if_true (lk0) (by rcases Bool.and_eq_false_iff.1 h1l with h | h <;> simp [h]) ?_
         refine WC_seq ?_
         refine WC_reg fun ds => ?_
         refine WL_q rfl (q_move (lk16 rfl <| lk8 rfl <| lk2 rfl <| lk1 rfl <| lk0)) ?_
         refine WL_q rfl (q_assign lk_const) ?_
         refine WL_q rfl (q_assign (lk1 rfl <| lk0)) ?_
         refine WL_q rfl (q_assign lk_const) ?_
         refine WL_nil ?_
         refine then_n ?_
         refine WC_ret ?_
         refine block_r (block_r (then_r (then_r (block_r (then_r ?_)))))
         refine post_ret rfl (.tmp (lk2 rfl <| lk0) (.tmp (lk1 rfl <| lk0) (.tmp (lk0) .nil))) ?_
         show _ = _
         exact (checkV1 (checkBooks_bad h1 hlt hno (by rw [bookErr_at hlt]; simp [hn, ht, h1c, h1l]) (by decide))).symm
       ·
        replace h1c : inB 0 5 r.books[k].cls = false := by simpa using h1c
        refine WC_seq ?_
        refine WC_reg fun ds => ?_
        refine WL_q rfl (q_fieldAddrB fd_62_1 (lk8 rfl <| lk4 rfl <| lk1 rfl <| lk0)) ?_
        refine WL_q rfl (q_load1 one_3 (lk0) (CellF.own hq rfl).cell) ?_
        refine WL_x rfl (x_build sl_29 zr_3 rfl (.cons (lk0) .nil) rfl rfl (by decide) (by simp [Value.oneCell']) fun b17 hb17 nb17 => ?_)
        refine WL_freeze (i := 0) rfl hb17 .here fun F18 hF19 hz20 => ?_
        replace hr := hr.mono hF19
        replace hq := hF19 _ _ hq
        have hsl21 := ints_box1 hz20
        refine WL_c rfl (q_call bd_51 lk_func (.cons lk_const (.cons lk_const (.cons (lk0) .nil))) (outside_ok _ _ hsl21) (fun _ _ h => h)) ?_
        refine WL_q rfl (q_move (lk0)) ?_
        refine WL_pass rfl rfl (lk0) (.inl (congrArg Value.bool (by simp [h1c]))) rfl ?_
        refine WL_pass rfl rfl (lk1 rfl <| lk0) (.inl (congrArg Value.bool (by simp [h1c]))) rfl ?_
        refine WL_pass rfl rfl (lk2 rfl <| lk0) (.inl (congrArg Value.bool (by simp [h1c]))) rfl ?_
        refine WL_pass rfl rfl (lk2 rfl <| lk1 rfl <| lk0) (.inl (congrArg Value.bool (by simp [h1c]))) rfl ?_
        refine WL_pass rfl rfl (lk4 rfl <| lk0) (.inl (congrArg Value.bool (by simp [h1c]))) rfl ?_
        refine WL_pass rfl rfl (lk4 rfl <| lk1 rfl <| lk0) (.inl (congrArg Value.bool (by simp [h1c]))) rfl ?_
        refine WL_pass rfl rfl (lk4 rfl <| lk2 rfl <| lk0) (.inl (congrArg Value.bool (by simp [h1c]))) rfl ?_
        refine WL_pass rfl rfl (lk4 rfl <| lk2 rfl <| lk1 rfl <| lk0) (.inl (congrArg Value.bool (by simp [h1c]))) rfl ?_
        refine WL_q rfl (q_pick_true (lk8 rfl <| lk0) (by simp [h1c]) lk_const) ?_
        refine WL_q rfl (q_assign (lk0)) ?_
        refine WL_nil ?_
        refine then_n ?_
        refine WC_if_true (lk0) (by first | rfl | simp [h1c]) ?_
        refine WC_seq ?_
        refine WC_reg fun ds => ?_
        refine WL_q rfl (q_move (lk16 rfl <| lk8 rfl <| lk2 rfl <| lk1 rfl <| lk0)) ?_
        refine WL_q rfl (q_assign lk_const) ?_
        refine WL_q rfl (q_assign (lk1 rfl <| lk0)) ?_
        refine WL_q rfl (q_assign lk_const) ?_
        refine WL_nil ?_
        refine then_n ?_
        refine WC_ret ?_
        refine block_r (block_r (then_r (then_r (block_r (then_r ?_)))))
        refine post_ret rfl (.tmp (lk2 rfl <| lk0) (.tmp (lk1 rfl <| lk0) (.tmp (lk0) .nil))) ?_
        show _ = _
        exact (checkV1 (checkBooks_bad h1 hlt hno (by rw [bookErr_at hlt]; simp [hn, ht, h1c]) (by decide))).symm
     ·
      replace hn : nameOk r.books[k].name = false := by simpa using hn
      refine WC_skip ?_
      refine then_n ?_
      refine WC_seq ?_
      refine WC_block ?_
      refine WC_seq ?_
      refine WC_reg fun ds => ?_
      refine WL_q rfl (q_move (lk1 rfl <| lk_in rfl hs20)) ?_
      refine WL_q rfl (q_index  sl_22 (lk2 rfl <| lk_off rfl <| lk2 rfl <| lk0) hr.books.plain (lk2 rfl <| lk_in rfl hs20) rfl (by omega)) ?_
      refine WL_q rfl (q_loadN agg_62 (lk0) rfl rfl (hr.books.whole (by omega))) ?_
      refine WL_x rfl (x_alloc zr_62 rfl fun b22 hb22 nb22 => ?_)
      refine WL_q rfl (q_assign (lk2 rfl <| lk1 rfl <| lk0)) ?_
      refine WL_x0 (x_storeA sz_62 (lk1 rfl <| lk0) (lk2 rfl <| lk0) (i := 0) rfl rfl rfl rfl Book.enc_one (.here) ?_)
      refine WL_nil ?_
      refine then_n ?_
      refine WC_block ?_
      refine WC_seq ?_
      refine WC_reg fun ds => ?_
      refine WL_q rfl (q_fieldAddrB fd_62_0 (lk1 rfl <| lk0)) ?_
      refine WL_q rfl (q_load1 one_9 (lk0) (Cell.own 0 rfl rfl)) ?_
      refine WL_c rfl (q_call bd_48 lk_func (.cons (lk0) .nil) (quireName_ok _) (fun _ _ h => h)) ?_
      refine WL_q rfl (q_not (lk0)) ?_
      refine WL_q rfl (q_assign (lk0)) ?_
      refine WL_nil ?_
      refine then_n ?_
      refine WC_if_true (lk0) (by first | exact hn | (simp [hn]; done)) ?_
      refine WC_seq ?_
      refine WC_reg fun ds => ?_
      refine WL_q rfl (q_move (lk4 rfl <| lk1 rfl <| lk0)) ?_
      refine WL_q rfl (q_assign lk_const) ?_
      refine WL_q rfl (q_assign (lk1 rfl <| lk0)) ?_
      refine WL_q rfl (q_assign lk_const) ?_
      refine WL_nil ?_
      refine then_n ?_
      refine WC_ret ?_
      refine block_r (block_r (then_r (then_r (block_r (then_r ?_)))))
      refine post_ret rfl (.tmp (lk2 rfl <| lk0) (.tmp (lk1 rfl <| lk0) (.tmp (lk0) .nil))) ?_
      show _ = _
      exact (checkV1 (checkBooks_bad h1 hlt hno (by rw [bookErr_at hlt]; simp [hn]) (by decide))).symm
    ·
     refine WC_seq ?_
     refine WC_reg fun ds => ?_
     refine WL_q rfl (q_lss (lk_in rfl hs20) (lk_off rfl <| lk1 rfl <| lk0)) ?_
     refine WL_nil ?_
     refine then_n ?_
     refine WC_seq ?_
     refine WC_if_false (lk0) (by first | rfl | exact decide_eq_false (by omega)) ?_
     have hB := checkBooks_ok h1 fun j hj => hno j (by omega)
     by_cases h2 : 8 < r.readers.length
     ·
      refine WC_exit ?_
      refine then_x (then_x (exit_here ?_))
      refine then_n ?_
      refine WC_seq ?_
      refine WC_seq ?_
      refine WC_reg fun ds => ?_
      refine WL_q rfl (q_fieldAddrB fd_27_1 (lk1 rfl <| lk_off rfl <| lk8 rfl <| lk2 rfl <| lk1 rfl <| lk0)) ?_
      refine WL_q rfl (q_load1 one_23 (lk0) (Cell.own 0 rfl rfl)) ?_
      refine WL_q rfl (q_lenP sl_23 (lk0) hr.readers.plain) ?_
      refine WL_q rfl (q_gtr (lk0) lk_const) ?_
      refine WL_nil ?_
      refine then_n ?_
      refine WC_if_true (lk0) (by first | rfl | exact decide_eq_true (by omega)) ?_
      refine WC_seq ?_
      refine WC_reg fun ds => ?_
      refine WL_q rfl (q_assign lk_const) ?_
      refine WL_q rfl (q_assign lk_const) ?_
      refine WL_q rfl (q_assign lk_const) ?_
      refine WL_nil ?_
      refine then_n ?_
      refine WC_ret ?_
      refine then_r ?_
      refine post_ret rfl (.tmp (lk2 rfl <| lk0) (.tmp (lk1 rfl <| lk0) (.tmp (lk0) .nil))) ?_
      show _ = _
      exact (checkV2 hB (checkRdrs_long h2)).symm
     ·
      refine WC_exit ?_
      refine then_x (then_x (exit_here ?_))
      refine then_n ?_
      refine WC_seq ?_
      refine WC_seq ?_
      refine WC_reg fun ds => ?_
      refine WL_q rfl (q_fieldAddrB fd_27_1 (lk1 rfl <| lk_off rfl <| lk8 rfl <| lk2 rfl <| lk1 rfl <| lk0)) ?_
      refine WL_q rfl (q_load1 one_23 (lk0) (Cell.own 0 rfl rfl)) ?_
      refine WL_q rfl (q_lenP sl_23 (lk0) hr.readers.plain) ?_
      refine WL_q rfl (q_gtr (lk0) lk_const) ?_
      refine WL_nil ?_
      refine then_n ?_
      refine WC_if_false (lk0) (by first | rfl | exact decide_eq_false (by omega)) ?_
      refine WC_skip ?_
      refine then_n ?_
      refine WC_seq ?_
      refine WC_seq ?_
      refine WC_reg fun ds => ?_
      refine WL_q rfl (q_fieldAddrB fd_27_1 (lk4 rfl <| lk1 rfl <| lk_off rfl <| lk8 rfl <| lk2 rfl <| lk1 rfl <| lk0)) ?_
      refine WL_q rfl (q_load1 one_23 (lk0) (Cell.own 0 rfl rfl)) ?_
      refine WL_q rfl (q_lenP sl_23 (lk0) hr.readers.plain) ?_
      refine WL_q rfl (q_move lk_const) ?_
      refine WL_nil ?_
      refine then_n ?_
      refine WC_block ?_
      refine WC_loopN [2, 3, 4, 7, 8, 72, 73, 74, 75, 76, 77, 78, 79, 80, 81, 82, 83, 84, 85, 86, 87, 88, 89, 90, 91, 92, 93, 94, 95, 96, 97] (fun m e σ => ∃ G, RoomR G vb vr vs vq r ∧ ∃ k : Nat, m + k = r.readers.length ∧ e 72 = .int .i64 k ∧ σ = ⟨G, [(b2, bx 27 [vb, vr, vs, vq])]⟩ ∧ ∀ j, j < k → rdrErr r.readers j = 0) (r.readers.length) ?_ ?_
      · exact ⟨G, hr, 0, by omega, (lk0), rfl, fun j h => absurd h (by omega)⟩
      ·
       rintro m e _ ⟨G, hr, k, hm, hs72, rfl, hno⟩
       by_cases hlt : k < r.readers.length
       ·
        refine WC_seq ?_
        refine WC_reg fun ds => ?_
        refine WL_q rfl (q_lss (lk_in rfl hs72) (lk_off rfl <| lk1 rfl <| lk0)) ?_
        refine WL_nil ?_
        refine then_n ?_
        refine WC_seq ?_
        refine WC_if_true (lk0) (by first | rfl | exact decide_eq_true (by omega)) ?_
        by_cases hn : nameOk r.readers[k].name = true
        ·
         refine WC_skip ?_
         refine then_n ?_
         refine WC_seq ?_
         refine WC_block ?_
         refine WC_seq ?_
         refine WC_reg fun ds => ?_
         refine WL_q rfl (q_move (lk1 rfl <| lk_in rfl hs72)) ?_
         refine WL_q rfl (q_index  sl_23 (lk2 rfl <| lk_off rfl <| lk2 rfl <| lk0) hr.readers.plain (lk2 rfl <| lk_in rfl hs72) rfl (by omega)) ?_
         refine WL_q rfl (q_loadN agg_64 (lk0) rfl rfl (hr.readers.whole (by omega))) ?_
         refine WL_x rfl (x_alloc zr_64 rfl fun b24 hb24 nb24 => ?_)
         refine WL_q rfl (q_assign (lk2 rfl <| lk1 rfl <| lk0)) ?_
         refine WL_x0 (x_storeA sz_64 (lk1 rfl <| lk0) (lk2 rfl <| lk0) (i := 0) rfl rfl rfl rfl Rdr.enc_one (.here) ?_)
         refine WL_nil ?_
         refine then_n ?_
         refine WC_block ?_
         refine WC_seq ?_
         refine WC_reg fun ds => ?_
         refine WL_q rfl (q_fieldAddrB fd_64_0 (lk1 rfl <| lk0)) ?_
         refine WL_q rfl (q_load1 one_9 (lk0) (Cell.own 0 rfl rfl)) ?_
         refine WL_c rfl (q_call bd_48 lk_func (.cons (lk0) .nil) (quireName_ok _) (fun _ _ h => h)) ?_
         refine WL_q rfl (q_not (lk0)) ?_
         refine WL_q rfl (q_assign (lk0)) ?_
         refine WL_nil ?_
         refine then_n ?_
         refine WC_if_false (lk0) (by first | exact hn | (simp [hn]; done)) ?_
         refine WC_freeze (i := 0) rfl hb24 (.here) fun F25 hF26 hq => ?_
         replace hr := hr.mono hF26
         by_cases ht : (r.readers.take k).any (fun y => sameS y.name r.readers[k].name) = true
         ·
          refine WC_seq ?_
          refine WC_reg fun ds => ?_
          refine WL_q rfl (q_fieldAddrB fd_27_1 (lk8 rfl <| lk2 rfl <| lk1 rfl <| lk_off rfl <| lk8 rfl <| lk1 rfl <| lk_off rfl <| lk8 rfl <| lk2 rfl <| lk1 rfl <| lk0)) ?_
          refine WL_q rfl (q_load1 one_23 (lk0) (Cell.own 0 rfl rfl)) ?_
          refine WL_q rfl (q_move (lk4 rfl <| lk2 rfl <| lk1 rfl <| lk0)) ?_
          refine WL_q rfl (q_sliceTo sl_23 (lk1 rfl <| lk0) hr.readers.plain (lk0) rfl (Nat.le_of_lt hlt)) ?_
          refine WL_q rfl (q_makeFunc (.cons (lk8 rfl <| lk2 rfl <| lk0) .nil)) ?_
          refine WL_c rfl (q_call bd_52 lk_func (.cons (lk1 rfl <| lk0) (.cons (lk0) .nil)) (containsRdr_ok (hr.readers.to (Nat.le_of_lt hlt)) (fun y => sameS y.name r.readers[k].name) bd_53 fun i hi => check2_ok hq _) (fun _ _ h => h)) ?_
          refine WL_q rfl (q_assign (lk0)) ?_
          refine WL_nil ?_
          refine then_n ?_
          refine WC_if_true (lk0) (by first | exact ht | (simp [ht]; done)) ?_
          refine WC_seq ?_
          refine WC_reg fun ds => ?_
          refine WL_q rfl (q_move (lk8 rfl <| lk4 rfl <| lk0)) ?_
          refine WL_q rfl (q_assign lk_const) ?_
          refine WL_q rfl (q_assign (lk1 rfl <| lk0)) ?_
          refine WL_q rfl (q_assign lk_const) ?_
          refine WL_nil ?_
          refine then_n ?_
          refine WC_ret ?_
          refine block_r (block_r (then_r (then_r (block_r (then_r ?_)))))
          refine post_ret rfl (.tmp (lk2 rfl <| lk0) (.tmp (lk1 rfl <| lk0) (.tmp (lk0) .nil))) ?_
          show _ = _
          exact (checkV2 hB (checkRdrs_bad h2 hlt hno (by rw [rdrErr_at hlt]; simp [hn, ht]) (by decide))).symm
         ·
          replace ht : (r.readers.take k).any (fun y => sameS y.name r.readers[k].name) = false := by simpa using ht
          refine WC_seq ?_
          refine WC_reg fun ds => ?_
          refine WL_q rfl (q_fieldAddrB fd_27_1 (lk8 rfl <| lk2 rfl <| lk1 rfl <| lk_off rfl <| lk8 rfl <| lk1 rfl <| lk_off rfl <| lk8 rfl <| lk2 rfl <| lk1 rfl <| lk0)) ?_
          refine WL_q rfl (q_load1 one_23 (lk0) (Cell.own 0 rfl rfl)) ?_
          refine WL_q rfl (q_move (lk4 rfl <| lk2 rfl <| lk1 rfl <| lk0)) ?_
          refine WL_q rfl (q_sliceTo sl_23 (lk1 rfl <| lk0) hr.readers.plain (lk0) rfl (Nat.le_of_lt hlt)) ?_
          refine WL_q rfl (q_makeFunc (.cons (lk8 rfl <| lk2 rfl <| lk0) .nil)) ?_
          refine WL_c rfl (q_call bd_52 lk_func (.cons (lk1 rfl <| lk0) (.cons (lk0) .nil)) (containsRdr_ok (hr.readers.to (Nat.le_of_lt hlt)) (fun y => sameS y.name r.readers[k].name) bd_53 fun i hi => check2_ok hq _) (fun _ _ h => h)) ?_
          refine WL_q rfl (q_assign (lk0)) ?_
          refine WL_nil ?_
          refine then_n ?_
          refine WC_if_false (lk0) (by first | exact ht | (simp [ht]; done)) ?_
          by_cases h1c : inB 0 5 r.readers[k].permit = true
          ·
           refine WC_seq ?_
           refine WC_reg fun ds => ?_
           refine WL_q rfl (q_fieldAddrB fd_64_1 (lk8 rfl <| lk4 rfl <| lk1 rfl <| lk0)) ?_
           refine WL_q rfl (q_load1 one_3 (lk0) (CellF.own hq rfl).cell) ?_
           refine WL_x rfl (x_build sl_29 zr_3 rfl (.cons (lk0) .nil) rfl rfl (by decide) (by simp [Value.oneCell']) fun b27 hb27 nb27 => ?_)
           refine WL_freeze (i := 0) rfl hb27 .here fun F28 hF29 hz30 => ?_
           replace hr := hr.mono hF29
           replace hq := hF29 _ _ hq
           have hsl31 := ints_box1 hz30
           refine WL_c rfl (q_call bd_51 lk_func (.cons lk_const (.cons lk_const (.cons (lk0) .nil))) (outside_ok _ _ hsl31) (fun _ _ h => h)) ?_
           refine WL_q rfl (q_assign (lk0)) ?_
           refine WL_nil ?_
           refine then_n ?_
           refine WC_if_false (lk0) (by simp [h1c]) ?_
           refine WC_skip ?_
           refine block_n (block_n (then_n ?_))
           refine WC_reg fun ds => ?_
           refine WL_q rfl (q_add (lk16 rfl <| lk4 rfl <| lk2 rfl <| lk1 rfl <| lk_in rfl hs72) lk_const rfl (by omega) (by omega)) ?_
           refine WL_q rfl (q_move (lk0)) ?_
           refine WL_nil ?_
           refine then_n ⟨_, m - 1, Off.eq (ou16 rfl <| ou8 rfl <| ou1 rfl <| off_over), by omega, ?_⟩
           refine ⟨_, hr, k + 1, by omega, (lk0), rfl, fun j hjk => ?_⟩
           rcases Nat.lt_succ_iff_lt_or_eq.1 hjk with hjk | rfl
           · exact hno j hjk
           · rw [rdrErr_at hlt]; simp [hn, ht, h1c]
          ·
           replace h1c : inB 0 5 r.readers[k].permit = false := by simpa using h1c
           refine WC_seq ?_
           refine WC_reg fun ds => ?_
           refine WL_q rfl (q_fieldAddrB fd_64_1 (lk8 rfl <| lk4 rfl <| lk1 rfl <| lk0)) ?_
           refine WL_q rfl (q_load1 one_3 (lk0) (CellF.own hq rfl).cell) ?_
           refine WL_x rfl (x_build sl_29 zr_3 rfl (.cons (lk0) .nil) rfl rfl (by decide) (by simp [Value.oneCell']) fun b32 hb32 nb32 => ?_)
           refine WL_freeze (i := 0) rfl hb32 .here fun F33 hF34 hz35 => ?_
           replace hr := hr.mono hF34
           replace hq := hF34 _ _ hq
           have hsl36 := ints_box1 hz35
           refine WL_c rfl (q_call bd_51 lk_func (.cons lk_const (.cons lk_const (.cons (lk0) .nil))) (outside_ok _ _ hsl36) (fun _ _ h => h)) ?_
           refine WL_q rfl (q_assign (lk0)) ?_
           refine WL_nil ?_
           refine then_n ?_
           refine WC_if_true (lk0) (by simp [h1c]) ?_
           refine WC_seq ?_
           refine WC_reg fun ds => ?_
           refine WL_q rfl (q_move (lk16 rfl <| lk1 rfl <| lk0)) ?_
           refine WL_q rfl (q_assign lk_const) ?_
           refine WL_q rfl (q_assign (lk1 rfl <| lk0)) ?_
           refine WL_q rfl (q_assign lk_const) ?_
           refine WL_nil ?_
           refine then_n ?_
           refine WC_ret ?_
           refine block_r (block_r (then_r (then_r (block_r (then_r ?_)))))
           refine post_ret rfl (.tmp (lk2 rfl <| lk0) (.tmp (lk1 rfl <| lk0) (.tmp (lk0) .nil))) ?_
           show _ = _
           exact (checkV2 hB (checkRdrs_bad h2 hlt hno (by rw [rdrErr_at hlt]; simp [hn, ht, h1c]) (by decide))).symm
        ·
         replace hn : nameOk r.readers[k].name = false := by simpa using hn
         refine WC_skip ?_
         refine then_n ?_
         refine WC_seq ?_
         refine WC_block ?_
         refine WC_seq ?_
         refine WC_reg fun ds => ?_
         refine WL_q rfl (q_move (lk1 rfl <| lk_in rfl hs72)) ?_
         refine WL_q rfl (q_index  sl_23 (lk2 rfl <| lk_off rfl <| lk2 rfl <| lk0) hr.readers.plain (lk2 rfl <| lk_in rfl hs72) rfl (by omega)) ?_
         refine WL_q rfl (q_loadN agg_64 (lk0) rfl rfl (hr.readers.whole (by omega))) ?_
         refine WL_x rfl (x_alloc zr_64 rfl fun b37 hb37 nb37 => ?_)
         refine WL_q rfl (q_assign (lk2 rfl <| lk1 rfl <| lk0)) ?_
         refine WL_x0 (x_storeA sz_64 (lk1 rfl <| lk0) (lk2 rfl <| lk0) (i := 0) rfl rfl rfl rfl Rdr.enc_one (.here) ?_)
         refine WL_nil ?_
         refine then_n ?_
         refine WC_block ?_
         refine WC_seq ?_
         refine WC_reg fun ds => ?_
         refine WL_q rfl (q_fieldAddrB fd_64_0 (lk1 rfl <| lk0)) ?_
         refine WL_q rfl (q_load1 one_9 (lk0) (Cell.own 0 rfl rfl)) ?_
         refine WL_c rfl (q_call bd_48 lk_func (.cons (lk0) .nil) (quireName_ok _) (fun _ _ h => h)) ?_
         refine WL_q rfl (q_not (lk0)) ?_
         refine WL_q rfl (q_assign (lk0)) ?_
         refine WL_nil ?_
         refine then_n ?_
         refine WC_if_true (lk0) (by first | exact hn | (simp [hn]; done)) ?_
         refine WC_seq ?_
         refine WC_reg fun ds => ?_
         refine WL_q rfl (q_move (lk4 rfl <| lk1 rfl <| lk0)) ?_
         refine WL_q rfl (q_assign lk_const) ?_
         refine WL_q rfl (q_assign (lk1 rfl <| lk0)) ?_
         refine WL_q rfl (q_assign lk_const) ?_
         refine WL_nil ?_
         refine then_n ?_
         refine WC_ret ?_
         refine block_r (block_r (then_r (then_r (block_r (then_r ?_)))))
         refine post_ret rfl (.tmp (lk2 rfl <| lk0) (.tmp (lk1 rfl <| lk0) (.tmp (lk0) .nil))) ?_
         show _ = _
         exact (checkV2 hB (checkRdrs_bad h2 hlt hno (by rw [rdrErr_at hlt]; simp [hn]) (by decide))).symm
       ·
        refine WC_seq ?_
        refine WC_reg fun ds => ?_
        refine WL_q rfl (q_lss (lk_in rfl hs72) (lk_off rfl <| lk1 rfl <| lk0)) ?_
        refine WL_nil ?_
        refine then_n ?_
        refine WC_seq ?_
        refine WC_if_false (lk0) (by first | rfl | exact decide_eq_false (by omega)) ?_
        have hR := checkRdrs_ok h2 fun j hj => hno j (by omega)
        by_cases h3 : 6 < r.seats.length
        ·
         refine WC_exit ?_
         refine then_x (then_x (exit_here ?_))
         refine then_n ?_
         refine WC_seq ?_
         refine WC_seq ?_
         refine WC_reg fun ds => ?_
         refine WL_q rfl (q_fieldAddrB fd_27_2 (lk1 rfl <| lk_off rfl <| lk8 rfl <| lk1 rfl <| lk_off rfl <| lk8 rfl <| lk2 rfl <| lk1 rfl <| lk0)) ?_
         refine WL_q rfl (q_load1 one_24 (lk0) (Cell.own 0 rfl rfl)) ?_
         refine WL_q rfl (q_lenP sl_24 (lk0) hr.seats.plain) ?_
         refine WL_q rfl (q_gtr (lk0) lk_const) ?_
         refine WL_nil ?_
         refine then_n ?_
         refine WC_if_true (lk0) (by first | rfl | exact decide_eq_true (by omega)) ?_
         refine WC_seq ?_
         refine WC_reg fun ds => ?_
         refine WL_q rfl (q_assign lk_const) ?_
         refine WL_q rfl (q_assign lk_const) ?_
         refine WL_q rfl (q_assign lk_const) ?_
         refine WL_nil ?_
         refine then_n ?_
         refine WC_ret ?_
         refine then_r ?_
         refine post_ret rfl (.tmp (lk2 rfl <| lk0) (.tmp (lk1 rfl <| lk0) (.tmp (lk0) .nil))) ?_
         show _ = _
         exact (checkV3 hB hR (checkSeats_long h3)).symm
        ·
         refine WC_exit ?_
         refine then_x (then_x (exit_here ?_))
         refine then_n ?_
         refine WC_seq ?_
         refine WC_seq ?_
         refine WC_reg fun ds => ?_
         refine WL_q rfl (q_fieldAddrB fd_27_2 (lk1 rfl <| lk_off rfl <| lk8 rfl <| lk1 rfl <| lk_off rfl <| lk8 rfl <| lk2 rfl <| lk1 rfl <| lk0)) ?_
         refine WL_q rfl (q_load1 one_24 (lk0) (Cell.own 0 rfl rfl)) ?_
         refine WL_q rfl (q_lenP sl_24 (lk0) hr.seats.plain) ?_
         refine WL_q rfl (q_gtr (lk0) lk_const) ?_
         refine WL_nil ?_
         refine then_n ?_
         refine WC_if_false (lk0) (by first | rfl | exact decide_eq_false (by omega)) ?_
         refine WC_skip ?_
         refine then_n ?_
         refine WC_seq ?_
         refine WC_seq ?_
         refine WC_reg fun ds => ?_
         refine WL_q rfl (q_fieldAddrB fd_27_2 (lk4 rfl <| lk1 rfl <| lk_off rfl <| lk8 rfl <| lk1 rfl <| lk_off rfl <| lk8 rfl <| lk2 rfl <| lk1 rfl <| lk0)) ?_
         refine WL_q rfl (q_load1 one_24 (lk0) (Cell.own 0 rfl rfl)) ?_
         refine WL_q rfl (q_lenP sl_24 (lk0) hr.seats.plain) ?_
         refine WL_q rfl (q_move lk_const) ?_
         refine WL_nil ?_
         refine then_n ?_
         refine WC_block ?_
         refine WC_loopN [2, 3, 4, 9, 10, 105, 106, 107, 108, 109, 110, 111, 112, 113, 114, 115] (fun m e σ => ∃ G, RoomR G vb vr vs vq r ∧ ∃ k : Nat, m + k = r.seats.length ∧ e 105 = .int .i64 k ∧ σ = ⟨G, [(b2, bx 27 [vb, vr, vs, vq])]⟩ ∧ ∀ j, j < k → seatErr r.seats j = 0) (r.seats.length) ?_ ?_
         · exact ⟨G, hr, 0, by omega, (lk0), rfl, fun j h => absurd h (by omega)⟩
         ·
          rintro m e _ ⟨G, hr, k, hm, hs105, rfl, hno⟩
          by_cases hlt : k < r.seats.length
          ·
           refine WC_seq ?_
           refine WC_reg fun ds => ?_
           refine WL_q rfl (q_lss (lk_in rfl hs105) (lk_off rfl <| lk1 rfl <| lk0)) ?_
           refine WL_nil ?_
           refine then_n ?_
           refine WC_seq ?_
           refine WC_if_true (lk0) (by first | rfl | exact decide_eq_true (by omega)) ?_
           by_cases h1c : inB 0 100 r.seats[k].light = true
           ·
            refine WC_skip ?_
            refine then_n ?_
            refine WC_seq ?_
            refine WC_block ?_
            refine WC_seq ?_
            refine WC_reg fun ds => ?_
            refine WL_q rfl (q_move (lk1 rfl <| lk_in rfl hs105)) ?_
            refine WL_q rfl (q_index  sl_24 (lk2 rfl <| lk_off rfl <| lk2 rfl <| lk0) hr.seats.plain (lk2 rfl <| lk_in rfl hs105) rfl (by omega)) ?_
            refine WL_q rfl (q_loadN agg_66 (lk0) rfl rfl (hr.seats.whole (by omega))) ?_
            refine WL_x rfl (x_alloc zr_66 rfl fun b39 hb39 nb39 => ?_)
            refine WL_q rfl (q_assign (lk2 rfl <| lk1 rfl <| lk0)) ?_
            refine WL_x0 (x_storeA sz_66 (lk1 rfl <| lk0) (lk2 rfl <| lk0) (i := 0) rfl rfl rfl rfl Seat.enc_one (.here) ?_)
            refine WL_nil ?_
            refine then_n ?_
            refine WC_seq ?_
            refine WC_reg fun ds => ?_
            refine WL_q rfl (q_fieldAddrB fd_66_0 (lk1 rfl <| lk0)) ?_
            refine WL_q rfl (q_load1 one_3 (lk0) (Cell.own 0 rfl rfl)) ?_
            refine WL_x rfl (x_build sl_29 zr_3 rfl (.cons (lk0) .nil) rfl rfl (by decide) (by simp [Value.oneCell']) fun b40 hb40 nb40 => ?_)
            refine WL_freeze (i := 0) rfl hb40 .here fun F41 hF42 hz43 => ?_
            replace hr := hr.mono hF42
            have hsl44 := ints_box1 hz43
            refine WL_c rfl (q_call bd_51 lk_func (.cons lk_const (.cons lk_const (.cons (lk0) .nil))) (outside_ok _ _ hsl44) (fun _ _ h => h)) ?_
            refine WL_nil ?_
            refine then_n ?_
            refine WC_if_false (lk0) (by simp [h1c]) ?_
            refine WC_skip ?_
            refine block_n (then_n ?_)
            refine WC_imp (fun _ _ h => h.drop (.cons _ <| .cons_cons _ <| .refl _)) ?_
            refine WC_reg fun ds => ?_
            refine WL_q rfl (q_add (lk8 rfl <| lk2 rfl <| lk_in rfl hs105) lk_const rfl (by omega) (by omega)) ?_
            refine WL_q rfl (q_move (lk0)) ?_
            refine WL_nil ?_
            refine then_n ⟨_, m - 1, Off.eq (ou8 rfl <| ou4 rfl <| off_over), by omega, ?_⟩
            refine ⟨_, hr, k + 1, by omega, (lk0), rfl, fun j hjk => ?_⟩
            rcases Nat.lt_succ_iff_lt_or_eq.1 hjk with hjk | rfl
            · exact hno j hjk
            · rw [seatErr_at hlt]; simp [h1c]
           ·
            replace h1c : inB 0 100 r.seats[k].light = false := by simpa using h1c
            refine WC_skip ?_
            refine then_n ?_
            refine WC_seq ?_
            refine WC_block ?_
            refine WC_seq ?_
            refine WC_reg fun ds => ?_
            refine WL_q rfl (q_move (lk1 rfl <| lk_in rfl hs105)) ?_
            refine WL_q rfl (q_index  sl_24 (lk2 rfl <| lk_off rfl <| lk2 rfl <| lk0) hr.seats.plain (lk2 rfl <| lk_in rfl hs105) rfl (by omega)) ?_
            refine WL_q rfl (q_loadN agg_66 (lk0) rfl rfl (hr.seats.whole (by omega))) ?_
            refine WL_x rfl (x_alloc zr_66 rfl fun b45 hb45 nb45 => ?_)
            refine WL_q rfl (q_assign (lk2 rfl <| lk1 rfl <| lk0)) ?_
            refine WL_x0 (x_storeA sz_66 (lk1 rfl <| lk0) (lk2 rfl <| lk0) (i := 0) rfl rfl rfl rfl Seat.enc_one (.here) ?_)
            refine WL_nil ?_
            refine then_n ?_
            refine WC_seq ?_
            refine WC_reg fun ds => ?_
            refine WL_q rfl (q_fieldAddrB fd_66_0 (lk1 rfl <| lk0)) ?_
            refine WL_q rfl (q_load1 one_3 (lk0) (Cell.own 0 rfl rfl)) ?_
            refine WL_x rfl (x_build sl_29 zr_3 rfl (.cons (lk0) .nil) rfl rfl (by decide) (by simp [Value.oneCell']) fun b46 hb46 nb46 => ?_)
            refine WL_freeze (i := 0) rfl hb46 .here fun F47 hF48 hz49 => ?_
            replace hr := hr.mono hF48
            have hsl50 := ints_box1 hz49
            refine WL_c rfl (q_call bd_51 lk_func (.cons lk_const (.cons lk_const (.cons (lk0) .nil))) (outside_ok _ _ hsl50) (fun _ _ h => h)) ?_
            refine WL_nil ?_
            refine then_n ?_
            refine WC_if_true (lk0) (by simp [h1c]) ?_
            refine WC_seq ?_
            refine WC_reg fun ds => ?_
            refine WL_q rfl (q_move (lk4 rfl <| lk0)) ?_
            refine WL_q rfl (q_assign lk_const) ?_
            refine WL_q rfl (q_assign (lk1 rfl <| lk0)) ?_
            refine WL_q rfl (q_assign lk_const) ?_
            refine WL_nil ?_
            refine then_n ?_
            refine WC_ret ?_
            refine block_r (then_r (then_r (block_r (then_r ?_))))
            refine post_ret rfl (.tmp (lk2 rfl <| lk0) (.tmp (lk1 rfl <| lk0) (.tmp (lk0) .nil))) ?_
            show _ = _
            exact (checkV3 hB hR (checkSeats_bad h3 hlt hno (by rw [seatErr_at hlt]; simp [h1c]) (by decide))).symm
          ·
           refine WC_seq ?_
           refine WC_reg fun ds => ?_
           refine WL_q rfl (q_lss (lk_in rfl hs105) (lk_off rfl <| lk1 rfl <| lk0)) ?_
           refine WL_nil ?_
           refine then_n ?_
           refine WC_seq ?_
           refine WC_if_false (lk0) (by first | rfl | exact decide_eq_false (by omega)) ?_
           have hS := checkSeats_ok h3 fun j hj => hno j (by omega)
           by_cases h4 : 8 < r.reqs.length
           ·
            refine WC_exit ?_
            refine then_x (then_x (exit_here ?_))
            refine then_n ?_
            refine WC_seq ?_
            refine WC_seq ?_
            refine WC_reg fun ds => ?_
            refine WL_q rfl (q_fieldAddrB fd_27_3 (lk1 rfl <| lk_off rfl <| lk8 rfl <| lk1 rfl <| lk_off rfl <| lk8 rfl <| lk1 rfl <| lk_off rfl <| lk8 rfl <| lk2 rfl <| lk1 rfl <| lk0)) ?_
            refine WL_q rfl (q_load1 one_25 (lk0) (Cell.own 0 rfl rfl)) ?_
            refine WL_q rfl (q_lenP sl_25 (lk0) hr.reqs.plain) ?_
            refine WL_q rfl (q_gtr (lk0) lk_const) ?_
            refine WL_nil ?_
            refine then_n ?_
            refine WC_if_true (lk0) (by first | rfl | exact decide_eq_true (by omega)) ?_
            refine WC_seq ?_
            refine WC_reg fun ds => ?_
            refine WL_q rfl (q_assign lk_const) ?_
            refine WL_q rfl (q_assign lk_const) ?_
            refine WL_q rfl (q_assign lk_const) ?_
            refine WL_nil ?_
            refine then_n ?_
            refine WC_ret ?_
            refine then_r ?_
            refine post_ret rfl (.tmp (lk2 rfl <| lk0) (.tmp (lk1 rfl <| lk0) (.tmp (lk0) .nil))) ?_
            show _ = _
            exact (checkV4 hB hR hS (checkReqs_long h4)).symm
           ·
            refine WC_exit ?_
            refine then_x (then_x (exit_here ?_))
            refine then_n ?_
            refine WC_seq ?_
            refine WC_seq ?_
            refine WC_reg fun ds => ?_
            refine WL_q rfl (q_fieldAddrB fd_27_3 (lk1 rfl <| lk_off rfl <| lk8 rfl <| lk1 rfl <| lk_off rfl <| lk8 rfl <| lk1 rfl <| lk_off rfl <| lk8 rfl <| lk2 rfl <| lk1 rfl <| lk0)) ?_
            refine WL_q rfl (q_load1 one_25 (lk0) (Cell.own 0 rfl rfl)) ?_
            refine WL_q rfl (q_lenP sl_25 (lk0) hr.reqs.plain) ?_
            refine WL_q rfl (q_gtr (lk0) lk_const) ?_
            refine WL_nil ?_
            refine then_n ?_
            refine WC_if_false (lk0) (by first | rfl | exact decide_eq_false (by omega)) ?_
            refine WC_skip ?_
            refine then_n ?_
            refine WC_seq ?_
            refine WC_seq ?_
            refine WC_reg fun ds => ?_
            refine WL_q rfl (q_fieldAddrB fd_27_3 (lk4 rfl <| lk1 rfl <| lk_off rfl <| lk8 rfl <| lk1 rfl <| lk_off rfl <| lk8 rfl <| lk1 rfl <| lk_off rfl <| lk8 rfl <| lk2 rfl <| lk1 rfl <| lk0)) ?_
            refine WL_q rfl (q_load1 one_25 (lk0) (Cell.own 0 rfl rfl)) ?_
            refine WL_q rfl (q_lenP sl_25 (lk0) hr.reqs.plain) ?_
            refine WL_q rfl (q_move lk_const) ?_
            refine WL_nil ?_
            refine then_n ?_
            refine WC_block ?_
            refine WC_loopN [2, 3, 4, 11, 12, 123, 124, 125, 126, 127, 128, 129, 130, 131, 132, 133, 134, 135, 136, 137, 138, 139, 140, 141, 142, 143, 144, 145, 146, 147, 148, 149, 150, 151, 152, 153, 154, 155, 156, 157, 158, 159, 160] (fun m e σ => ∃ G, RoomR G vb vr vs vq r ∧ ∃ k : Nat, m + k = r.reqs.length ∧ e 123 = .int .i64 k ∧ σ = ⟨G, [(b2, bx 27 [vb, vr, vs, vq])]⟩ ∧ ∀ j, j < k → reqErr r j = 0) (r.reqs.length) ?_ ?_
            · exact ⟨G, hr, 0, by omega, (lk0), rfl, fun j h => absurd h (by omega)⟩
            ·
             rintro m e _ ⟨G, hr, k, hm, hs123, rfl, hno⟩
             by_cases hlt : k < r.reqs.length
             ·
              have hL1 := hr.readers.plain.lt
              have hL2 := hr.books.plain.lt
              refine WC_seq ?_
              refine WC_reg fun ds => ?_
              refine WL_q rfl (q_lss (lk_in rfl hs123) (lk_off rfl <| lk1 rfl <| lk0)) ?_
              refine WL_nil ?_
              refine then_n ?_
              refine WC_seq ?_
              refine WC_if_true (lk0) (by first | rfl | exact decide_eq_true (by omega)) ?_
              by_cases h1 : inB 0 (r.readers.length - 1) r.reqs[k].reader = true
              ·
               refine WC_skip ?_
               refine then_n ?_
               refine WC_seq ?_
               refine WC_block ?_
               refine WC_seq ?_
               refine WC_reg fun ds => ?_
               refine WL_q rfl (q_move (lk1 rfl <| lk_in rfl hs123)) ?_
               refine WL_q rfl (q_index  sl_25 (lk2 rfl <| lk_off rfl <| lk2 rfl <| lk0) hr.reqs.plain (lk2 rfl <| lk_in rfl hs123) rfl (by omega)) ?_
               refine WL_q rfl (q_loadN agg_58 (lk0) rfl rfl (hr.reqs.whole (by omega))) ?_
               refine WL_x rfl (x_alloc zr_58 rfl fun b52 hb52 nb52 => ?_)
               refine WL_q rfl (q_assign (lk2 rfl <| lk1 rfl <| lk0)) ?_
               refine WL_x0 (x_storeA sz_58 (lk1 rfl <| lk0) (lk2 rfl <| lk0) (i := 0) rfl rfl rfl rfl Req.enc_one (.here) ?_)
               refine WL_nil ?_
               refine then_n ?_
               refine WC_block ?_
               refine WC_seq ?_
               refine WC_reg fun ds => ?_
               refine WL_q rfl (q_fieldAddrB fd_27_1 (lk4 rfl <| lk2 rfl <| lk_off rfl <| lk8 rfl <| lk1 rfl <| lk_off rfl <| lk8 rfl <| lk1 rfl <| lk_off rfl <| lk8 rfl <| lk1 rfl <| lk_off rfl <| lk8 rfl <| lk2 rfl <| lk1 rfl <| lk0)) ?_
               refine WL_q rfl (q_load1 one_23 (lk0) (Cell.own 1 rfl rfl)) ?_
               refine WL_q rfl (q_lenP sl_23 (lk0) hr.readers.plain) ?_
               refine WL_q rfl (q_sub (lk0) lk_const rfl (by omega) (by omega)) ?_
               refine WL_q rfl (q_fieldAddrB fd_58_0 (lk4 rfl <| lk1 rfl <| lk0)) ?_
               refine WL_q rfl (q_load1 one_3 (lk0) (Cell.own 0 rfl rfl)) ?_
               refine WL_x rfl (x_build sl_29 zr_3 rfl (.cons (lk0) .nil) rfl rfl (by decide) (by simp [Value.oneCell']) fun b53 hb53 nb53 => ?_)
               refine WL_freeze (i := 0) rfl hb53 .here fun F54 hF55 hz56 => ?_
               replace hr := hr.mono hF55
               have hsl57 := ints_box1 hz56
               refine WL_c rfl (q_call bd_51 lk_func (.cons lk_const (.cons (lk2 rfl <| lk1 rfl <| lk0) (.cons (lk0) .nil))) (outside_ok _ _ hsl57) (fun _ _ h => h)) ?_
               refine WL_q rfl (q_move (lk0)) ?_
               refine WL_want rfl rfl (lk0) (by simp [h1]) ?_
               refine WL_q rfl (q_fieldAddrB fd_27_0 (lk8 rfl <| lk4 rfl <| lk2 rfl <| lk1 rfl <| lk_off rfl <| lk8 rfl <| lk1 rfl <| lk_off rfl <| lk8 rfl <| lk1 rfl <| lk_off rfl <| lk8 rfl <| lk1 rfl <| lk_off rfl <| lk8 rfl <| lk2 rfl <| lk1 rfl <| lk0)) ?_
               refine WL_want rfl rfl (lk1 rfl <| lk0) (by simp [h1]) ?_
               refine WL_q rfl (q_load1 one_22 (lk0) (Cell.own 1 rfl rfl)) ?_
               refine WL_want rfl rfl (lk2 rfl <| lk0) (by simp [h1]) ?_
               refine WL_q rfl (q_lenP sl_22 (lk0) hr.books.plain) ?_
               refine WL_want rfl rfl (lk2 rfl <| lk1 rfl <| lk0) (by simp [h1]) ?_
               refine WL_q rfl (q_sub (lk0) lk_const rfl (by omega) (by omega)) ?_
               refine WL_want rfl rfl (lk4 rfl <| lk0) (by simp [h1]) ?_
               refine WL_q rfl (q_fieldAddrB fd_58_1 (lk8 rfl <| lk4 rfl <| lk2 rfl <| lk0)) ?_
               refine WL_want rfl rfl (lk4 rfl <| lk1 rfl <| lk0) (by simp [h1]) ?_
               refine WL_q rfl (q_load1 one_3 (lk0) (Cell.own 0 rfl rfl)) ?_
               refine WL_want rfl rfl (lk4 rfl <| lk2 rfl <| lk0) (by simp [h1]) ?_
               refine WL_x rfl (x_build sl_29 zr_3 rfl (.cons (lk0) .nil) rfl rfl (by decide) (by simp [Value.oneCell']) fun b58 hb58 nb58 => ?_)
               refine WL_freeze (i := 0) rfl hb58 .here fun F59 hF60 hz61 => ?_
               replace hr := hr.mono hF60
               replace hsl57 := hsl57.mono hF60
               have hsl62 := ints_box1 hz61
               refine WL_want rfl rfl (lk4 rfl <| lk2 rfl <| lk1 rfl <| lk0) (by simp [h1]) ?_
               refine WL_c rfl (q_call bd_51 lk_func (.cons lk_const (.cons (lk2 rfl <| lk1 rfl <| lk0) (.cons (lk0) .nil))) (outside_ok _ _ hsl62) (fun _ _ h => h)) ?_
               refine WL_q rfl (q_pick_false (lk8 rfl <| lk0) (by simp [h1]) (lk0)) ?_
               refine WL_q rfl (q_assign (lk0)) ?_
               refine WL_nil ?_
               refine then_n ?_
               by_cases h2 : inB 0 (r.books.length - 1) r.reqs[k].book = true
               ·
                refine WC_if_false (lk0) (by first | rfl | simp [h2]) ?_
                by_cases h3 : inB 1 12 r.reqs[k].hours = true
                ·
                 refine WC_seq ?_
                 refine WC_reg fun ds => ?_
                 refine WL_q rfl (q_fieldAddrB fd_58_2 (lk16 rfl <| lk4 rfl <| lk0)) ?_
                 refine WL_q rfl (q_load1 one_3 (lk0) (Cell.own 0 rfl rfl)) ?_
                 refine WL_x rfl (x_build sl_29 zr_3 rfl (.cons (lk0) .nil) rfl rfl (by decide) (by simp [Value.oneCell']) fun b63 hb63 nb63 => ?_)
                 refine WL_freeze (i := 0) rfl hb63 .here fun F64 hF65 hz66 => ?_
                 replace hr := hr.mono hF65
                 replace hsl57 := hsl57.mono hF65
                 replace hsl62 := hsl62.mono hF65
                 have hsl67 := ints_box1 hz66
                 refine WL_c rfl (q_call bd_51 lk_func (.cons lk_const (.cons lk_const (.cons (lk0) .nil))) (outside_ok _ _ hsl67) (fun _ _ h => h)) ?_
                 refine WL_q rfl (q_move (lk0)) ?_
                 refine WL_want rfl rfl (lk0) (by simp [h3]) ?_
                 refine WL_q rfl (q_fieldAddrB fd_58_3 (lk16 rfl <| lk8 rfl <| lk1 rfl <| lk0)) ?_
                 refine WL_want rfl rfl (lk1 rfl <| lk0) (by simp [h3]) ?_
                 refine WL_q rfl (q_load1 one_3 (lk0) (Cell.own 0 rfl rfl)) ?_
                 refine WL_want rfl rfl (lk2 rfl <| lk0) (by simp [h3]) ?_
                 refine WL_x rfl (x_build sl_29 zr_3 rfl (.cons (lk0) .nil) rfl rfl (by decide) (by simp [Value.oneCell']) fun b68 hb68 nb68 => ?_)
                 refine WL_freeze (i := 0) rfl hb68 .here fun F69 hF70 hz71 => ?_
                 replace hr := hr.mono hF70
                 replace hsl57 := hsl57.mono hF70
                 replace hsl62 := hsl62.mono hF70
                 replace hsl67 := hsl67.mono hF70
                 have hsl72 := ints_box1 hz71
                 refine WL_want rfl rfl (lk2 rfl <| lk1 rfl <| lk0) (by simp [h3]) ?_
                 refine WL_c rfl (q_call bd_51 lk_func (.cons lk_const (.cons lk_const (.cons (lk0) .nil))) (outside_ok _ _ hsl72) (fun _ _ h => h)) ?_
                 refine WL_q rfl (q_pick_false (lk4 rfl <| lk0) (by simp [h3]) (lk0)) ?_
                 refine WL_q rfl (q_assign (lk0)) ?_
                 refine WL_nil ?_
                 refine then_n ?_
                 by_cases h5 : inB 0 100 r.reqs[k].worth = true
                 ·
                  refine WC_if_false (lk0) (by first | rfl | simp [h5]) ?_
                  refine WC_skip ?_
                  refine block_n (block_n (then_n ?_))
                  refine WC_imp (fun _ _ h => h.drop (.cons _ <| .cons_cons _ <| .refl _)) ?_
                  refine WC_reg fun ds => ?_
                  refine WL_q rfl (q_add (lk32 rfl <| lk4 rfl <| lk_in rfl hs123) lk_const rfl (by omega) (by omega)) ?_
                  refine WL_q rfl (q_move (lk0)) ?_
                  refine WL_nil ?_
                  refine then_n ⟨_, m - 1, Off.eq (ou32 rfl <| ou4 rfl <| ou2 rfl <| off_over), by omega, ?_⟩
                  refine ⟨_, hr, k + 1, by omega, (lk0), rfl, fun j hjk => ?_⟩
                  rcases Nat.lt_succ_iff_lt_or_eq.1 hjk with hjk | rfl
                  · exact hno j hjk
                  · rw [reqErr_at hlt]; simp [h1, h2, h3, h5]
                 ·
                  replace h5 : inB 0 100 r.reqs[k].worth = false := by simpa using h5
                  refine WC_if_true (lk0) (by first | rfl | simp [h5]) ?_
                  refine WC_seq ?_
                  refine WC_reg fun ds => ?_
                  refine WL_q rfl (q_move (lk16 rfl <| lk8 rfl <| lk4 rfl <| lk2 rfl <| lk0)) ?_
                  refine WL_q rfl (q_assign lk_const) ?_
                  refine WL_q rfl (q_assign (lk1 rfl <| lk0)) ?_
                  refine WL_q rfl (q_assign lk_const) ?_
                  refine WL_nil ?_
                  refine then_n ?_
                  refine WC_ret ?_
                  refine block_r (block_r (then_r (then_r (block_r (then_r ?_)))))
                  refine post_ret rfl (.tmp (lk2 rfl <| lk0) (.tmp (lk1 rfl <| lk0) (.tmp (lk0) .nil))) ?_
                  show _ = _
                  exact (checkV4 hB hR hS (checkReqs_bad h4 hlt hno (by rw [reqErr_at hlt]; simp [h1, h2, h3, h5]) (by decide))).symm
                ·
                 replace h3 : inB 1 12 r.reqs[k].hours = false := by simpa using h3
                 refine WC_seq ?_
                 refine WC_reg fun ds => ?_
                 refine WL_q rfl (q_fieldAddrB fd_58_2 (lk16 rfl <| lk4 rfl <| lk0)) ?_
                 refine WL_q rfl (q_load1 one_3 (lk0) (Cell.own 0 rfl rfl)) ?_
                 refine WL_x rfl (x_build sl_29 zr_3 rfl (.cons (lk0) .nil) rfl rfl (by decide) (by simp [Value.oneCell']) fun b73 hb73 nb73 => ?_)
                 refine WL_freeze (i := 0) rfl hb73 .here fun F74 hF75 hz76 => ?_
                 replace hr := hr.mono hF75
                 replace hsl57 := hsl57.mono hF75
                 replace hsl62 := hsl62.mono hF75
                 have hsl77 := ints_box1 hz76
                 refine WL_c rfl (q_call bd_51 lk_func (.cons lk_const (.cons lk_const (.cons (lk0) .nil))) (outside_ok _ _ hsl77) (fun _ _ h => h)) ?_
                 refine WL_q rfl (q_move (lk0)) ?_
                 refine WL_pass rfl rfl (lk0) (.inl (congrArg Value.bool (by simp [h3]))) rfl ?_
                 refine WL_pass rfl rfl (lk1 rfl <| lk0) (.inl (congrArg Value.bool (by simp [h3]))) rfl ?_
                 refine WL_pass rfl rfl (lk2 rfl <| lk0) (.inl (congrArg Value.bool (by simp [h3]))) rfl ?_
                 refine WL_pass rfl rfl (lk2 rfl <| lk1 rfl <| lk0) (.inl (congrArg Value.bool (by simp [h3]))) rfl ?_
                 refine WL_q rfl (q_pick_true (lk4 rfl <| lk0) (by simp [h3]) lk_const) ?_
                 refine WL_q rfl (q_assign (lk0)) ?_
                 refine WL_nil ?_
                 refine then_n ?_
                 refine WC_if_true (lk0) (by first | rfl | simp [h3]) ?_
                 refine WC_seq ?_
                 refine WC_reg fun ds => ?_
                 refine WL_q rfl (q_move (lk16 rfl <| lk8 rfl <| lk4 rfl <| lk2 rfl <| lk0)) ?_
                 refine WL_q rfl (q_assign lk_const) ?_
                 refine WL_q rfl (q_assign (lk1 rfl <| lk0)) ?_
                 refine WL_q rfl (q_assign lk_const) ?_
                 refine WL_nil ?_
                 refine then_n ?_
                 refine WC_ret ?_
                 refine block_r (block_r (then_r (then_r (block_r (then_r ?_)))))
                 refine post_ret rfl (.tmp (lk2 rfl <| lk0) (.tmp (lk1 rfl <| lk0) (.tmp (lk0) .nil))) ?_
                 show _ = _
                 exact (checkV4 hB hR hS (checkReqs_bad h4 hlt hno (by rw [reqErr_at hlt]; simp [h1, h2, h3]) (by decide))).symm
               ·
                replace h2 : inB 0 (r.books.length - 1) r.reqs[k].book = false := by simpa using h2
                refine WC_if_true (lk0) (by first | rfl | simp [h2]) ?_
                refine WC_seq ?_
                refine WC_reg fun ds => ?_
                refine WL_q rfl (q_move (lk16 rfl <| lk2 rfl <| lk1 rfl <| lk0)) ?_
                refine WL_q rfl (q_assign lk_const) ?_
                refine WL_q rfl (q_assign (lk1 rfl <| lk0)) ?_
                refine WL_q rfl (q_assign lk_const) ?_
                refine WL_nil ?_
                refine then_n ?_
                refine WC_ret ?_
                refine block_r (block_r (then_r (then_r (block_r (then_r ?_)))))
                refine post_ret rfl (.tmp (lk2 rfl <| lk0) (.tmp (lk1 rfl <| lk0) (.tmp (lk0) .nil))) ?_
                show _ = _
                exact (checkV4 hB hR hS (checkReqs_bad h4 hlt hno (by rw [reqErr_at hlt]; simp [h1, h2]) (by decide))).symm
              ·
               replace h1 : inB 0 (r.readers.length - 1) r.reqs[k].reader = false := by simpa using h1
               refine WC_skip ?_
               refine then_n ?_
               refine WC_seq ?_
               refine WC_block ?_
               refine WC_seq ?_
               refine WC_reg fun ds => ?_
               refine WL_q rfl (q_move (lk1 rfl <| lk_in rfl hs123)) ?_
               refine WL_q rfl (q_index  sl_25 (lk2 rfl <| lk_off rfl <| lk2 rfl <| lk0) hr.reqs.plain (lk2 rfl <| lk_in rfl hs123) rfl (by omega)) ?_
               refine WL_q rfl (q_loadN agg_58 (lk0) rfl rfl (hr.reqs.whole (by omega))) ?_
               refine WL_x rfl (x_alloc zr_58 rfl fun b78 hb78 nb78 => ?_)
               refine WL_q rfl (q_assign (lk2 rfl <| lk1 rfl <| lk0)) ?_
               refine WL_x0 (x_storeA sz_58 (lk1 rfl <| lk0) (lk2 rfl <| lk0) (i := 0) rfl rfl rfl rfl Req.enc_one (.here) ?_)
               refine WL_nil ?_
               refine then_n ?_
               refine WC_block ?_
               refine WC_seq ?_
               refine WC_reg fun ds => ?_
               refine WL_q rfl (q_fieldAddrB fd_27_1 (lk4 rfl <| lk2 rfl <| lk_off rfl <| lk8 rfl <| lk1 rfl <| lk_off rfl <| lk8 rfl <| lk1 rfl <| lk_off rfl <| lk8 rfl <| lk1 rfl <| lk_off rfl <| lk8 rfl <| lk2 rfl <| lk1 rfl <| lk0)) ?_
               refine WL_q rfl (q_load1 one_23 (lk0) (Cell.own 1 rfl rfl)) ?_
               refine WL_q rfl (q_lenP sl_23 (lk0) hr.readers.plain) ?_
               refine WL_q rfl (q_sub (lk0) lk_const rfl (by omega) (by omega)) ?_
               refine WL_q rfl (q_fieldAddrB fd_58_0 (lk4 rfl <| lk1 rfl <| lk0)) ?_
               refine WL_q rfl (q_load1 one_3 (lk0) (Cell.own 0 rfl rfl)) ?_
               refine WL_x rfl (x_build sl_29 zr_3 rfl (.cons (lk0) .nil) rfl rfl (by decide) (by simp [Value.oneCell']) fun b79 hb79 nb79 => ?_)
               refine WL_freeze (i := 0) rfl hb79 .here fun F80 hF81 hz82 => ?_
               replace hr := hr.mono hF81
               have hsl83 := ints_box1 hz82
               refine WL_c rfl (q_call bd_51 lk_func (.cons lk_const (.cons (lk2 rfl <| lk1 rfl <| lk0) (.cons (lk0) .nil))) (outside_ok _ _ hsl83) (fun _ _ h => h)) ?_
               refine WL_q rfl (q_move (lk0)) ?_
               refine WL_pass rfl rfl (lk0) (.inl (congrArg Value.bool (by simp [h1]))) rfl ?_
               refine WL_pass rfl rfl (lk1 rfl <| lk0) (.inl (congrArg Value.bool (by simp [h1]))) rfl ?_
               refine WL_pass rfl rfl (lk2 rfl <| lk0) (.inl (congrArg Value.bool (by simp [h1]))) rfl ?_
               refine WL_pass rfl rfl (lk2 rfl <| lk1 rfl <| lk0) (.inl (congrArg Value.bool (by simp [h1]))) rfl ?_
               refine WL_pass rfl rfl (lk4 rfl <| lk0) (.inl (congrArg Value.bool (by simp [h1]))) rfl ?_
               refine WL_pass rfl rfl (lk4 rfl <| lk1 rfl <| lk0) (.inl (congrArg Value.bool (by simp [h1]))) rfl ?_
               refine WL_pass rfl rfl (lk4 rfl <| lk2 rfl <| lk0) (.inl (congrArg Value.bool (by simp [h1]))) rfl ?_
               refine WL_pass rfl rfl (lk4 rfl <| lk2 rfl <| lk1 rfl <| lk0) (.inl (congrArg Value.bool (by simp [h1]))) rfl ?_
               refine WL_q rfl (q_pick_true (lk8 rfl <| lk0) (by simp [h1]) lk_const) ?_
               refine WL_q rfl (q_assign (lk0)) ?_
               refine WL_nil ?_
               refine then_n ?_
               refine WC_if_true (lk0) (by first | rfl | simp [h1]) ?_
               refine WC_seq ?_
               refine WC_reg fun ds => ?_
               refine WL_q rfl (q_move (lk16 rfl <| lk2 rfl <| lk1 rfl <| lk0)) ?_
               refine WL_q rfl (q_assign lk_const) ?_
               refine WL_q rfl (q_assign (lk1 rfl <| lk0)) ?_
               refine WL_q rfl (q_assign lk_const) ?_
               refine WL_nil ?_
               refine then_n ?_
               refine WC_ret ?_
               refine block_r (block_r (then_r (then_r (block_r (then_r ?_)))))
               refine post_ret rfl (.tmp (lk2 rfl <| lk0) (.tmp (lk1 rfl <| lk0) (.tmp (lk0) .nil))) ?_
               show _ = _
               exact (checkV4 hB hR hS (checkReqs_bad h4 hlt hno (by rw [reqErr_at hlt]; simp [h1]) (by decide))).symm
             ·
              refine WC_seq ?_
              refine WC_reg fun ds => ?_
              refine WL_q rfl (q_lss (lk_in rfl hs123) (lk_off rfl <| lk1 rfl <| lk0)) ?_
              refine WL_nil ?_
              refine then_n ?_
              refine WC_seq ?_
              refine WC_if_false (lk0) (by first | rfl | exact decide_eq_false (by omega)) ?_
              refine WC_exit ?_
              refine then_x (then_x (exit_here ?_))
              refine then_n ?_
              refine WC_seq ?_
              refine WC_reg fun ds => ?_
              refine WL_q rfl (q_assign lk_const) ?_
              refine WL_q rfl (q_assign lk_const) ?_
              refine WL_q rfl (q_assign lk_const) ?_
              refine WL_nil ?_
              refine then_n ?_
              refine WC_ret ?_
              refine post_ret rfl (.tmp (lk2 rfl <| lk0) (.tmp (lk1 rfl <| lk0) (.tmp (lk0) .nil))) ?_
              show _ = _
              exact (checkV0 hB hR hS (checkReqs_ok h4 fun j hj => hno j (by omega))).symm
end Go.Proofs.Ytbcjfkcpfjccdaa
namespace Go.Proofs.Ytbcjfkcpfjccdaa
open Go.RowKit
theorem agg_60 : AggT Try.prog 60 2 := aggT_of (by kernel_rfl)
theorem bd_56 : Body Try.prog 56 := body_of (by kernel_rfl)
theorem bd_86 : Body Try.prog 86 := body_of (by kernel_rfl)
theorem bd_87 : Body Try.prog 87 := body_of (by kernel_rfl)
theorem el_9 : ElemT Try.prog 9 1 16 (.string ⟨#[]⟩) := elemT_of (by kernel_rfl) rfl (by decide)
theorem zr_9 : ZeroT Try.prog 9 (.string ⟨#[]⟩) := zeroT_of (by kernel_rfl)
set_option maxRecDepth 100000 in
theorem refBooks_ok {F : Heap} {v : Value} {bs : List Book} (h : Sl F v 5 Book.enc bs) : Ok Try.prog 54 [v].toArray F fun r _ => r = optV (checkBooks bs) := by
  refine Ok.intro Try.func54 rfl Try.ntmps54 rfl fun w0 => ?_
  have hlen := h.plain.lt
  by_cases h1 : 8 < bs.length
  ·
   refine WC_seq ?_
   refine WC_reg fun ds => ?_
   refine WL_q rfl (q_assign lk_const) ?_
   refine WL_q rfl (q_assign lk_const) ?_
   refine WL_nil ?_
   refine then_n ?_
   refine WC_seq ?_
   refine WC_seq ?_
   refine WC_reg fun ds => ?_
   refine WL_q rfl (q_move (lk2 rfl <| lk_entry rfl)) ?_
   refine WL_q rfl (q_lenP sl_22 (lk0) h.plain) ?_
   refine WL_q rfl (q_gtr (lk0) lk_const) ?_
   refine WL_nil ?_
   refine then_n ?_
   refine WC_if_true (lk0) (by first | rfl | exact decide_eq_true (by omega)) ?_
   refine WC_seq ?_
   refine WC_reg fun ds => ?_
   refine WL_q rfl (q_assign lk_const) ?_
   refine WL_q rfl (q_assign lk_const) ?_
   refine WL_nil ?_
   refine then_n ?_
   refine WC_ret ?_
   refine then_r ?_
   refine post_ret rfl (.tmp (lk1 rfl <| lk0) (.tmp (lk0) .nil)) ?_
   show _ = _
   rw [checkBooks_long h1]; rfl
  ·
   refine WC_seq ?_
   refine WC_reg fun ds => ?_
   refine WL_q rfl (q_assign lk_const) ?_
   refine WL_q rfl (q_assign lk_const) ?_
   refine WL_nil ?_
   refine then_n ?_
   refine WC_seq ?_
   refine WC_seq ?_
   refine WC_reg fun ds => ?_
   refine WL_q rfl (q_move (lk2 rfl <| lk_entry rfl)) ?_
   refine WL_q rfl (q_lenP sl_22 (lk0) h.plain) ?_
   refine WL_q rfl (q_gtr (lk0) lk_const) ?_
   refine WL_nil ?_
   refine then_n ?_
   refine WC_if_false (lk0) (by first | rfl | exact decide_eq_false (by omega)) ?_
   refine WC_skip ?_
   refine then_n ?_
   refine WC_seq ?_
   refine WC_reg fun ds => ?_
   refine WL_q rfl (q_assign lk_const) ?_
   refine WL_nil ?_
   refine then_n ?_
   refine WC_seq ?_
   refine WC_seq ?_
   refine WC_reg fun ds => ?_
   refine WL_q rfl (q_assign lk_const) ?_
   refine WL_nil ?_
   refine then_n ?_
   refine WC_block ?_
   refine WC_loopN [2, 3, 4, 5, 6, 10, 11, 12, 13, 14, 15, 16, 17, 18, 19, 20, 21, 22, 23, 24, 25, 26, 27, 28, 29, 30, 31, 32, 33, 34, 35, 36, 37, 38, 39, 40, 41, 42, 43, 44, 45, 46, 47, 48, 49, 50, 51, 52, 53] (fun m e σ => ∃ k : Nat, m + k = bs.length ∧ e 5 = .int .i64 k ∧ ∃ v R, e 4 = v ∧ Own 9 1 v (bnames bs k).length ((bnames bs k).flatMap strE) R ∧ σ = ⟨F, R⟩ ∧ ∀ j, j < k → bookErr bs j = 0) (bs.length) ?_ ?_
   · exact ⟨0, by omega, (lk0), _, _, (lk1 rfl <| lk0), Own.nil, rfl, fun j h => absurd h (by omega)⟩
   ·
    rintro m e _ ⟨k, hm, hs5, v4, R4, hs4, ho, rfl, hno⟩
    by_cases hlt : k < bs.length
    ·
     have hnl := bnames_length (Nat.le_of_lt hlt)
     refine WC_seq ?_
     refine WC_seq ?_
     refine WC_reg fun ds => ?_
     refine WL_q rfl (q_move (lk_in rfl hs5)) ?_
     refine WL_q rfl (q_move (lk1 rfl <| lk_off rfl <| lk4 rfl <| lk2 rfl <| lk1 rfl <| lk_entry rfl)) ?_
     refine WL_q rfl (q_lenP sl_22 (lk0) h.plain) ?_
     refine WL_q rfl (q_lss (lk2 rfl <| lk0) (lk0)) ?_
     refine WL_nil ?_
     refine then_n ?_
     refine WC_if_true (lk0) (by first | rfl | exact decide_eq_true (by omega)) ?_
     by_cases hf : freshE bs[k].name (bnames bs k) = 0
     ·
      refine WC_skip ?_
      refine then_n ?_
      refine WC_seq ?_
      refine WC_block ?_
      refine WC_seq ?_
      refine WC_reg fun ds => ?_
      refine WL_q rfl (q_move (lk4 rfl <| lk_off rfl <| lk4 rfl <| lk2 rfl <| lk1 rfl <| lk_entry rfl)) ?_
      refine WL_q rfl (q_move (lk4 rfl <| lk1 rfl <| lk_in rfl hs5)) ?_
      refine WL_q rfl (q_index  sl_22 (lk1 rfl <| lk0) h.plain (lk0) rfl (by omega)) ?_
      refine WL_q rfl (q_fieldAddr fd_62_0 (lk0)) ?_
      refine WL_q rfl (q_load1 one_9 (lk0) (h.cell (by omega) rfl)) ?_
      refine WL_q rfl (q_move (lk8 rfl <| lk1 rfl <| lk_in rfl hs4)) ?_
      refine WL_c rfl (q_callH bd_86 lk_func (.cons (lk1 rfl <| lk0) (.cons (lk0) .nil)) (fun G _ hG => fresh_ok (ho.sl (fun _ => rfl) (fun p hp => hG p (by simpa using hp)) (by omega)) _) (fun _ _ h => h)) ?_
      refine WL_q rfl (q_assign (lk0)) ?_
      refine WL_nil ?_
      refine then_n ?_
      refine WC_seq ?_
      refine WC_reg fun ds => ?_
      refine WL_q rfl (q_move (lk8 rfl <| lk4 rfl <| lk_in rfl hs4)) ?_
      refine WL_q rfl (q_move (lk8 rfl <| lk4 rfl <| lk1 rfl <| lk_off rfl <| lk4 rfl <| lk2 rfl <| lk1 rfl <| lk_entry rfl)) ?_
      refine WL_q rfl (q_move (lk8 rfl <| lk4 rfl <| lk2 rfl <| lk_in rfl hs5)) ?_
      refine WL_q rfl (q_index  sl_22 (lk1 rfl <| lk0) h.plain (lk0) rfl (by omega)) ?_
      refine WL_q rfl (q_fieldAddr fd_62_0 (lk0)) ?_
      refine WL_q rfl (q_load1 one_9 (lk0) (h.cell (by omega) rfl)) ?_
      refine WL_x rfl (x_build sl_136 zr_9 rfl (.cons (lk0) .nil) rfl rfl (by decide) (by simp [Value.oneCell']) fun b2 hb2 nb2 => ?_)
      refine WL_x rfl (x_append sl_136 el_9 (lk4 rfl <| lk2 rfl <| lk0) ho (lk0) (src_box (s := 1) 0 rfl rfl (by simp [Value.oneCell'])) (by rw [hnl]; omega) (by rw [hnl]; omega) (.s <| .z) .last fun v3 R4 ho5 => ?_)
      have ho2 := ho5.snoc rfl rfl
      rw [← bnames_succ hlt] at ho2
      clear ho5
      refine WL_q rfl (q_assign (lk0)) ?_
      refine WL_nil ?_
      refine then_n ?_
      refine WC_seq ?_
      refine WC_seq ?_
      refine WC_reg fun ds => ?_
      refine WL_q rfl (q_move (lk8 rfl <| lk1 rfl <| lk0)) ?_
      refine WL_q rfl (q_eql (lk0) lk_const) ?_
      refine WL_q rfl (q_move (lk0)) ?_
      refine WL_want rfl rfl (lk0) (decide_eq_true hf) ?_
      refine WL_q rfl (q_move (lk16 rfl <| lk8 rfl <| lk_off rfl <| lk4 rfl <| lk2 rfl <| lk1 rfl <| lk_entry rfl)) ?_
      refine WL_want rfl rfl (lk1 rfl <| lk0) (decide_eq_true hf) ?_
      refine WL_q rfl (q_move (lk16 rfl <| lk8 rfl <| lk1 rfl <| lk_in rfl hs5)) ?_
      refine WL_want rfl rfl (lk2 rfl <| lk0) (decide_eq_true hf) ?_
      refine WL_q rfl (q_index  sl_22 (lk1 rfl <| lk0) h.plain (lk0) rfl (by omega)) ?_
      refine WL_want rfl rfl (lk2 rfl <| lk1 rfl <| lk0) (decide_eq_true hf) ?_
      refine WL_q rfl (q_fieldAddr fd_62_1 (lk0)) ?_
      refine WL_want rfl rfl (lk4 rfl <| lk0) (decide_eq_true hf) ?_
      refine WL_q rfl (q_load1 one_3 (lk0) (h.cell (by omega) rfl)) ?_
      refine WL_want rfl rfl (lk4 rfl <| lk1 rfl <| lk0) (decide_eq_true hf) ?_
      refine WL_c rfl (q_call bd_56 lk_func (.cons (lk0) (.cons lk_const (.cons lk_const .nil))) (in10_ok _ _ _) (fun _ _ h => h)) ?_
      refine WL_want rfl rfl (lk4 rfl <| lk2 rfl <| lk0) (decide_eq_true hf) ?_
      refine WL_q rfl (q_not (lk0)) ?_
      refine WL_q rfl (q_pick_true (lk4 rfl <| lk2 rfl <| lk1 rfl <| lk0) (decide_eq_true hf) (lk0)) ?_
      refine WL_nil ?_
      refine then_n ?_
      by_cases hc : inB 0 5 bs[k].cls = true
      ·
       refine WC_if_false (lk0) (by simp [hc]) ?_
       refine WC_skip ?_
       refine then_n ?_
       refine WC_seq ?_
       refine WC_seq ?_
       refine WC_reg fun ds => ?_
       refine WL_q rfl (q_move (lk16 rfl <| lk4 rfl <| lk0)) ?_
       refine WL_q rfl (q_eql (lk0) lk_const) ?_
       refine WL_nil ?_
       refine then_n ?_
       refine WC_if_true (lk0) (by first | rfl | exact decide_eq_true hf) ?_
       by_cases hg : rangeE bs[k].lo bs[k].hi 0 1000 = 0
       ·
        refine WC_reg fun ds => ?_
        refine WL_q rfl (q_move (lk32 rfl <| lk2 rfl <| lk_off rfl <| lk4 rfl <| lk2 rfl <| lk1 rfl <| lk_entry rfl)) ?_
        refine WL_q rfl (q_move (lk32 rfl <| lk2 rfl <| lk1 rfl <| lk_in rfl hs5)) ?_
        refine WL_q rfl (q_index  sl_22 (lk1 rfl <| lk0) h.plain (lk0) rfl (by omega)) ?_
        refine WL_q rfl (q_fieldAddr fd_62_2 (lk0)) ?_
        refine WL_q rfl (q_loadN (vs := [.int .i64 bs[k].lo, .int .i64 bs[k].hi]) agg_60 (lk0) rfl rfl (h.part hlt rfl)) ?_
        refine WL_c rfl (q_call bd_87 lk_func (.cons (lk0) (.cons lk_const (.cons lk_const .nil))) (range_ok _ _ _ _) (fun _ _ h => h)) ?_
        refine WL_q rfl (q_assign (lk0)) ?_
        refine WL_nil ?_
        refine then_n ?_
        refine WC_seq ?_
        refine WC_reg fun ds => ?_
        refine WL_q rfl (q_move (lk0)) ?_
        refine WL_q rfl (q_neq (lk0) lk_const) ?_
        refine WL_nil ?_
        refine then_n ?_
        refine WC_if_false (lk0) (by simp [hg]) ?_
        refine WC_skip ?_
        refine block_n (then_n ?_)
        refine WC_imp (fun _ _ h => h.drop (.cons _ <| .refl _)) ?_
        refine WC_reg fun ds => ?_
        refine WL_q rfl (q_move (lk32 rfl <| lk8 rfl <| lk2 rfl <| lk1 rfl <| lk_in rfl hs5)) ?_
        refine WL_q rfl (q_add (lk0) lk_const rfl (by omega) (by omega)) ?_
        refine WL_q rfl (q_assign (lk0)) ?_
        refine WL_nil ?_
        refine then_n ⟨_, m - 1, Off.eq (ou32 rfl <| ou8 rfl <| ou4 rfl <| ou2 rfl <| off_over), by omega, ?_⟩
        refine ⟨k + 1, by omega, (lk0), _, _, (lk16 rfl <| lk8 rfl <| lk1 rfl <| lk0), ho2, rfl, fun j hjk => ?_⟩
        rcases Nat.lt_succ_iff_lt_or_eq.1 hjk with hjk | rfl
        · exact hno j hjk
        · rw [bookErr_rest hlt hf, hc]; simpa using hg
       ·
        refine WC_reg fun ds => ?_
        refine WL_q rfl (q_move (lk32 rfl <| lk2 rfl <| lk_off rfl <| lk4 rfl <| lk2 rfl <| lk1 rfl <| lk_entry rfl)) ?_
        refine WL_q rfl (q_move (lk32 rfl <| lk2 rfl <| lk1 rfl <| lk_in rfl hs5)) ?_
        refine WL_q rfl (q_index  sl_22 (lk1 rfl <| lk0) h.plain (lk0) rfl (by omega)) ?_
        refine WL_q rfl (q_fieldAddr fd_62_2 (lk0)) ?_
        refine WL_q rfl (q_loadN (vs := [.int .i64 bs[k].lo, .int .i64 bs[k].hi]) agg_60 (lk0) rfl rfl (h.part hlt rfl)) ?_
        refine WL_c rfl (q_call bd_87 lk_func (.cons (lk0) (.cons lk_const (.cons lk_const .nil))) (range_ok _ _ _ _) (fun _ _ h => h)) ?_
        refine WL_q rfl (q_assign (lk0)) ?_
        refine WL_nil ?_
        refine then_n ?_
        refine WC_seq ?_
        refine WC_reg fun ds => ?_
        refine WL_q rfl (q_move (lk0)) ?_
        refine WL_q rfl (q_neq (lk0) lk_const) ?_
        refine WL_nil ?_
        refine then_n ?_
        refine WC_if_true (lk0) (by simp [hg]) ?_
        refine WC_seq ?_
        refine WC_reg fun ds => ?_
        refine WL_q rfl (q_move (lk32 rfl <| lk8 rfl <| lk2 rfl <| lk1 rfl <| lk_in rfl hs5)) ?_
        refine WL_q rfl (q_move (lk2 rfl <| lk1 rfl <| lk0)) ?_
        refine WL_q rfl (q_assign (lk1 rfl <| lk0)) ?_
        refine WL_q rfl (q_assign (lk1 rfl <| lk0)) ?_
        refine WL_nil ?_
        refine then_n ?_
        refine WC_ret ?_
        refine block_r (then_r (then_r (block_r (then_r ?_))))
        refine post_ret rfl (.tmp (lk1 rfl <| lk0) (.tmp (lk0) .nil)) ?_
        show _ = _
        rw [checkBooks_bad h1 hlt hno (by rw [bookErr_rest hlt hf, hc]; rfl) hg]; rfl
      ·
       replace hc : inB 0 5 bs[k].cls = false := by simpa using hc
       refine WC_if_true (lk0) (by simp [hc]) ?_
       refine WC_reg fun ds => ?_
       refine WL_q rfl (q_assign lk_const) ?_
       refine WL_nil ?_
       refine then_n ?_
       refine WC_seq ?_
       refine WC_seq ?_
       refine WC_reg fun ds => ?_
       refine WL_q rfl (q_move (lk0)) ?_
       refine WL_q rfl (q_eql (lk0) lk_const) ?_
       refine WL_nil ?_
       refine then_n ?_
       refine WC_if_false (lk0) (by first | rfl | decide) ?_
       refine WC_skip ?_
       refine then_n ?_
       refine WC_seq ?_
       refine WC_reg fun ds => ?_
       refine WL_q rfl (q_move (lk2 rfl <| lk0)) ?_
       refine WL_q rfl (q_neq (lk0) lk_const) ?_
       refine WL_nil ?_
       refine then_n ?_
       refine WC_if_true (lk0) (by first | rfl | decide) ?_
       refine WC_seq ?_
       refine WC_reg fun ds => ?_
       refine WL_q rfl (q_move (lk32 rfl <| lk4 rfl <| lk1 rfl <| lk_in rfl hs5)) ?_
       refine WL_q rfl (q_move (lk4 rfl <| lk1 rfl <| lk0)) ?_
       refine WL_q rfl (q_assign (lk1 rfl <| lk0)) ?_
       refine WL_q rfl (q_assign (lk1 rfl <| lk0)) ?_
       refine WL_nil ?_
       refine then_n ?_
       refine WC_ret ?_
       refine block_r (then_r (then_r (block_r (then_r ?_))))
       refine post_ret rfl (.tmp (lk1 rfl <| lk0) (.tmp (lk0) .nil)) ?_
       show _ = _
       rw [checkBooks_bad h1 hlt hno (e := 7) (by rw [bookErr_rest hlt hf, hc]; rfl) (by decide)]; rfl
     ·
      refine WC_skip ?_
      refine then_n ?_
      refine WC_seq ?_
      refine WC_block ?_
      refine WC_seq ?_
      refine WC_reg fun ds => ?_
      refine WL_q rfl (q_move (lk4 rfl <| lk_off rfl <| lk4 rfl <| lk2 rfl <| lk1 rfl <| lk_entry rfl)) ?_
      refine WL_q rfl (q_move (lk4 rfl <| lk1 rfl <| lk_in rfl hs5)) ?_
      refine WL_q rfl (q_index  sl_22 (lk1 rfl <| lk0) h.plain (lk0) rfl (by omega)) ?_
      refine WL_q rfl (q_fieldAddr fd_62_0 (lk0)) ?_
      refine WL_q rfl (q_load1 one_9 (lk0) (h.cell (by omega) rfl)) ?_
      refine WL_q rfl (q_move (lk8 rfl <| lk1 rfl <| lk_in rfl hs4)) ?_
      refine WL_c rfl (q_callH bd_86 lk_func (.cons (lk1 rfl <| lk0) (.cons (lk0) .nil)) (fun G _ hG => fresh_ok (ho.sl (fun _ => rfl) (fun p hp => hG p (by simpa using hp)) (by omega)) _) (fun _ _ h => h)) ?_
      refine WL_q rfl (q_assign (lk0)) ?_
      refine WL_nil ?_
      refine then_n ?_
      refine WC_seq ?_
      refine WC_reg fun ds => ?_
      refine WL_q rfl (q_move (lk8 rfl <| lk4 rfl <| lk_in rfl hs4)) ?_
      refine WL_q rfl (q_move (lk8 rfl <| lk4 rfl <| lk1 rfl <| lk_off rfl <| lk4 rfl <| lk2 rfl <| lk1 rfl <| lk_entry rfl)) ?_
      refine WL_q rfl (q_move (lk8 rfl <| lk4 rfl <| lk2 rfl <| lk_in rfl hs5)) ?_
      refine WL_q rfl (q_index  sl_22 (lk1 rfl <| lk0) h.plain (lk0) rfl (by omega)) ?_
      refine WL_q rfl (q_fieldAddr fd_62_0 (lk0)) ?_
      refine WL_q rfl (q_load1 one_9 (lk0) (h.cell (by omega) rfl)) ?_
      refine WL_x rfl (x_build sl_136 zr_9 rfl (.cons (lk0) .nil) rfl rfl (by decide) (by simp [Value.oneCell']) fun b6 hb6 nb6 => ?_)
      refine WL_x rfl (x_append sl_136 el_9 (lk4 rfl <| lk2 rfl <| lk0) ho (lk0) (src_box (s := 1) 0 rfl rfl (by simp [Value.oneCell'])) (by rw [hnl]; omega) (by rw [hnl]; omega) (.s <| .z) .last fun v7 R8 ho9 => ?_)
      have ho2 := ho9.snoc rfl rfl
      rw [← bnames_succ hlt] at ho2
      clear ho9
      refine WL_q rfl (q_assign (lk0)) ?_
      refine WL_nil ?_
      refine then_n ?_
      refine WC_seq ?_
      refine WC_seq ?_
      refine WC_reg fun ds => ?_
      refine WL_q rfl (q_move (lk8 rfl <| lk1 rfl <| lk0)) ?_
      refine WL_q rfl (q_eql (lk0) lk_const) ?_
      refine WL_q rfl (q_move (lk0)) ?_
      refine WL_pass rfl rfl (lk0) (.inl (congrArg Value.bool (decide_eq_false hf))) rfl ?_
      refine WL_pass rfl rfl (lk1 rfl <| lk0) (.inl (congrArg Value.bool (decide_eq_false hf))) rfl ?_
      refine WL_pass rfl rfl (lk2 rfl <| lk0) (.inl (congrArg Value.bool (decide_eq_false hf))) rfl ?_
      refine WL_pass rfl rfl (lk2 rfl <| lk1 rfl <| lk0) (.inl (congrArg Value.bool (decide_eq_false hf))) rfl ?_
      refine WL_pass rfl rfl (lk4 rfl <| lk0) (.inl (congrArg Value.bool (decide_eq_false hf))) rfl ?_
      refine WL_pass rfl rfl (lk4 rfl <| lk1 rfl <| lk0) (.inl (congrArg Value.bool (decide_eq_false hf))) rfl ?_
      refine WL_pass rfl rfl (lk4 rfl <| lk2 rfl <| lk0) (.inl (congrArg Value.bool (decide_eq_false hf))) rfl ?_
      refine WL_q rfl (q_pick_false (lk4 rfl <| lk2 rfl <| lk1 rfl <| lk0) (decide_eq_false hf) lk_const) ?_
      refine WL_nil ?_
      refine then_n ?_
      refine WC_if_false (lk0) (by simp [hf]) ?_
      refine WC_skip ?_
      refine then_n ?_
      refine WC_seq ?_
      refine WC_seq ?_
      refine WC_reg fun ds => ?_
      refine WL_q rfl (q_move (lk16 rfl <| lk4 rfl <| lk0)) ?_
      refine WL_q rfl (q_eql (lk0) lk_const) ?_
      refine WL_nil ?_
      refine then_n ?_
      refine WC_if_false (lk0) (by simp [hf]) ?_
      refine WC_skip ?_
      refine then_n ?_
      refine WC_seq ?_
      refine WC_reg fun ds => ?_
      refine WL_q rfl (q_move (lk16 rfl <| lk4 rfl <| lk2 rfl <| lk0)) ?_
      refine WL_q rfl (q_neq (lk0) lk_const) ?_
      refine WL_nil ?_
      refine then_n ?_
      refine WC_if_true (lk0) (by simp [hf]) ?_
      refine WC_seq ?_
      refine WC_reg fun ds => ?_
      refine WL_q rfl (q_move (lk32 rfl <| lk4 rfl <| lk_in rfl hs5)) ?_
      refine WL_q rfl (q_move (lk16 rfl <| lk8 rfl <| lk1 rfl <| lk0)) ?_
      refine WL_q rfl (q_assign (lk1 rfl <| lk0)) ?_
      refine WL_q rfl (q_assign (lk1 rfl <| lk0)) ?_
      refine WL_nil ?_
      refine then_n ?_
      refine WC_ret ?_
      refine block_r (then_r (then_r (block_r (then_r ?_))))
      refine post_ret rfl (.tmp (lk1 rfl <| lk0) (.tmp (lk0) .nil)) ?_
      show _ = _
      rw [checkBooks_bad h1 hlt hno (bookErr_fresh hlt hf) hf]; rfl
    ·
     refine WC_seq ?_
     refine WC_seq ?_
     refine WC_reg fun ds => ?_
     refine WL_q rfl (q_move (lk_in rfl hs5)) ?_
     refine WL_q rfl (q_move (lk1 rfl <| lk_off rfl <| lk4 rfl <| lk2 rfl <| lk1 rfl <| lk_entry rfl)) ?_
     refine WL_q rfl (q_lenP sl_22 (lk0) h.plain) ?_
     refine WL_q rfl (q_lss (lk2 rfl <| lk0) (lk0)) ?_
     refine WL_nil ?_
     refine then_n ?_
     refine WC_if_false (lk0) (by first | rfl | exact decide_eq_false (by omega)) ?_
     refine WC_exit ?_
     refine then_x (then_x (exit_here ?_))
     refine then_n ?_
     refine WC_seq ?_
     refine WC_reg fun ds => ?_
     refine WL_q rfl (q_assign lk_const) ?_
     refine WL_q rfl (q_assign lk_const) ?_
     refine WL_nil ?_
     refine then_n ?_
     refine WC_ret ?_
     refine post_ret rfl (.tmp (lk1 rfl <| lk0) (.tmp (lk0) .nil)) ?_
     show _ = _
     rw [checkBooks_ok h1 fun j hj => hno j (by omega)]; rfl
set_option maxRecDepth 100000 in
theorem refReaders_ok {F : Heap} {v : Value} {bs : List Rdr} (h : Sl F v 2 Rdr.enc bs) : Ok Try.prog 55 [v].toArray F fun r _ => r = optV (checkRdrs bs) := by
  refine Ok.intro Try.func55 rfl Try.ntmps55 rfl fun w0 => ?_
  have hlen := h.plain.lt
  by_cases h1 : 8 < bs.length
  ·
   refine WC_seq ?_
   refine WC_reg fun ds => ?_
   refine WL_q rfl (q_assign lk_const) ?_
   refine WL_q rfl (q_assign lk_const) ?_
   refine WL_nil ?_
   refine then_n ?_
   refine WC_seq ?_
   refine WC_seq ?_
   refine WC_reg fun ds => ?_
   refine WL_q rfl (q_move (lk2 rfl <| lk_entry rfl)) ?_
   refine WL_q rfl (q_lenP sl_23 (lk0) h.plain) ?_
   refine WL_q rfl (q_gtr (lk0) lk_const) ?_
   refine WL_nil ?_
   refine then_n ?_
   refine WC_if_true (lk0) (by first | rfl | exact decide_eq_true (by omega)) ?_
   refine WC_seq ?_
   refine WC_reg fun ds => ?_
   refine WL_q rfl (q_assign lk_const) ?_
   refine WL_q rfl (q_assign lk_const) ?_
   refine WL_nil ?_
   refine then_n ?_
   refine WC_ret ?_
   refine then_r ?_
   refine post_ret rfl (.tmp (lk1 rfl <| lk0) (.tmp (lk0) .nil)) ?_
   show _ = _
   rw [checkRdrs_long h1]; rfl
  ·
   refine WC_seq ?_
   refine WC_reg fun ds => ?_
   refine WL_q rfl (q_assign lk_const) ?_
   refine WL_q rfl (q_assign lk_const) ?_
   refine WL_nil ?_
   refine then_n ?_
   refine WC_seq ?_
   refine WC_seq ?_
   refine WC_reg fun ds => ?_
   refine WL_q rfl (q_move (lk2 rfl <| lk_entry rfl)) ?_
   refine WL_q rfl (q_lenP sl_23 (lk0) h.plain) ?_
   refine WL_q rfl (q_gtr (lk0) lk_const) ?_
   refine WL_nil ?_
   refine then_n ?_
   refine WC_if_false (lk0) (by first | rfl | exact decide_eq_false (by omega)) ?_
   refine WC_skip ?_
   refine then_n ?_
   refine WC_seq ?_
   refine WC_reg fun ds => ?_
   refine WL_q rfl (q_assign lk_const) ?_
   refine WL_nil ?_
   refine then_n ?_
   refine WC_seq ?_
   refine WC_seq ?_
   refine WC_reg fun ds => ?_
   refine WL_q rfl (q_assign lk_const) ?_
   refine WL_nil ?_
   refine then_n ?_
   refine WC_block ?_
   refine WC_loopN [2, 3, 4, 5, 6, 10, 11, 12, 13, 14, 15, 16, 17, 18, 19, 20, 21, 22, 23, 24, 25, 26, 27, 28, 29, 30, 31, 32, 33, 34, 35, 36, 37, 38, 39, 40, 41, 42, 43, 44, 45] (fun m e σ => ∃ k : Nat, m + k = bs.length ∧ e 5 = .int .i64 k ∧ ∃ v R, e 4 = v ∧ Own 9 1 v (rnames bs k).length ((rnames bs k).flatMap strE) R ∧ σ = ⟨F, R⟩ ∧ ∀ j, j < k → rdrErr bs j = 0) (bs.length) ?_ ?_
   · exact ⟨0, by omega, (lk0), _, _, (lk1 rfl <| lk0), Own.nil, rfl, fun j h => absurd h (by omega)⟩
   ·
    rintro m e _ ⟨k, hm, hs5, v4, R4, hs4, ho, rfl, hno⟩
    by_cases hlt : k < bs.length
    ·
     have hnl := rnames_length (Nat.le_of_lt hlt)
     refine WC_seq ?_
     refine WC_seq ?_
     refine WC_reg fun ds => ?_
     refine WL_q rfl (q_move (lk_in rfl hs5)) ?_
     refine WL_q rfl (q_move (lk1 rfl <| lk_off rfl <| lk4 rfl <| lk2 rfl <| lk1 rfl <| lk_entry rfl)) ?_
     refine WL_q rfl (q_lenP sl_23 (lk0) h.plain) ?_
     refine WL_q rfl (q_lss (lk2 rfl <| lk0) (lk0)) ?_
     refine WL_nil ?_
     refine then_n ?_
     refine WC_if_true (lk0) (by first | rfl | exact decide_eq_true (by omega)) ?_
     by_cases hf : freshE bs[k].name (rnames bs k) = 0
     ·
      refine WC_skip ?_
      refine then_n ?_
      refine WC_seq ?_
      refine WC_block ?_
      refine WC_seq ?_
      refine WC_reg fun ds => ?_
      refine WL_q rfl (q_move (lk4 rfl <| lk_off rfl <| lk4 rfl <| lk2 rfl <| lk1 rfl <| lk_entry rfl)) ?_
      refine WL_q rfl (q_move (lk4 rfl <| lk1 rfl <| lk_in rfl hs5)) ?_
      refine WL_q rfl (q_index  sl_23 (lk1 rfl <| lk0) h.plain (lk0) rfl (by omega)) ?_
      refine WL_q rfl (q_fieldAddr fd_64_0 (lk0)) ?_
      refine WL_q rfl (q_load1 one_9 (lk0) (h.cell (by omega) rfl)) ?_
      refine WL_q rfl (q_move (lk8 rfl <| lk1 rfl <| lk_in rfl hs4)) ?_
      refine WL_c rfl (q_callH bd_86 lk_func (.cons (lk1 rfl <| lk0) (.cons (lk0) .nil)) (fun G _ hG => fresh_ok (ho.sl (fun _ => rfl) (fun p hp => hG p (by simpa using hp)) (by omega)) _) (fun _ _ h => h)) ?_
      refine WL_q rfl (q_assign (lk0)) ?_
      refine WL_nil ?_
      refine then_n ?_
      refine WC_seq ?_
      refine WC_reg fun ds => ?_
      refine WL_q rfl (q_move (lk8 rfl <| lk4 rfl <| lk_in rfl hs4)) ?_
      refine WL_q rfl (q_move (lk8 rfl <| lk4 rfl <| lk1 rfl <| lk_off rfl <| lk4 rfl <| lk2 rfl <| lk1 rfl <| lk_entry rfl)) ?_
      refine WL_q rfl (q_move (lk8 rfl <| lk4 rfl <| lk2 rfl <| lk_in rfl hs5)) ?_
      refine WL_q rfl (q_index  sl_23 (lk1 rfl <| lk0) h.plain (lk0) rfl (by omega)) ?_
      refine WL_q rfl (q_fieldAddr fd_64_0 (lk0)) ?_
      refine WL_q rfl (q_load1 one_9 (lk0) (h.cell (by omega) rfl)) ?_
      refine WL_x rfl (x_build sl_136 zr_9 rfl (.cons (lk0) .nil) rfl rfl (by decide) (by simp [Value.oneCell']) fun b2 hb2 nb2 => ?_)
      refine WL_x rfl (x_append sl_136 el_9 (lk4 rfl <| lk2 rfl <| lk0) ho (lk0) (src_box (s := 1) 0 rfl rfl (by simp [Value.oneCell'])) (by rw [hnl]; omega) (by rw [hnl]; omega) (.s <| .z) .last fun v3 R4 ho5 => ?_)
      have ho2 := ho5.snoc rfl rfl
      rw [← rnames_succ hlt] at ho2
      clear ho5
      refine WL_q rfl (q_assign (lk0)) ?_
      refine WL_nil ?_
      refine then_n ?_
      refine WC_seq ?_
      refine WC_seq ?_
      refine WC_reg fun ds => ?_
      refine WL_q rfl (q_move (lk8 rfl <| lk1 rfl <| lk0)) ?_
      refine WL_q rfl (q_eql (lk0) lk_const) ?_
      refine WL_q rfl (q_move (lk0)) ?_
      refine WL_want rfl rfl (lk0) (decide_eq_true hf) ?_
      refine WL_q rfl (q_move (lk16 rfl <| lk8 rfl <| lk_off rfl <| lk4 rfl <| lk2 rfl <| lk1 rfl <| lk_entry rfl)) ?_
      refine WL_want rfl rfl (lk1 rfl <| lk0) (decide_eq_true hf) ?_
      refine WL_q rfl (q_move (lk16 rfl <| lk8 rfl <| lk1 rfl <| lk_in rfl hs5)) ?_
      refine WL_want rfl rfl (lk2 rfl <| lk0) (decide_eq_true hf) ?_
      refine WL_q rfl (q_index  sl_23 (lk1 rfl <| lk0) h.plain (lk0) rfl (by omega)) ?_
      refine WL_want rfl rfl (lk2 rfl <| lk1 rfl <| lk0) (decide_eq_true hf) ?_
      refine WL_q rfl (q_fieldAddr fd_64_1 (lk0)) ?_
      refine WL_want rfl rfl (lk4 rfl <| lk0) (decide_eq_true hf) ?_
      refine WL_q rfl (q_load1 one_3 (lk0) (h.cell (by omega) rfl)) ?_
      refine WL_want rfl rfl (lk4 rfl <| lk1 rfl <| lk0) (decide_eq_true hf) ?_
      refine WL_c rfl (q_call bd_56 lk_func (.cons (lk0) (.cons lk_const (.cons lk_const .nil))) (in10_ok _ _ _) (fun _ _ h => h)) ?_
      refine WL_want rfl rfl (lk4 rfl <| lk2 rfl <| lk0) (decide_eq_true hf) ?_
      refine WL_q rfl (q_not (lk0)) ?_
      refine WL_q rfl (q_pick_true (lk4 rfl <| lk2 rfl <| lk1 rfl <| lk0) (decide_eq_true hf) (lk0)) ?_
      refine WL_nil ?_
      refine then_n ?_
      by_cases hc : inB 0 5 bs[k].permit = true
      ·
       refine WC_if_false (lk0) (by simp [hc]) ?_
       refine WC_skip ?_
       refine then_n ?_
       refine WC_seq ?_
       refine WC_reg fun ds => ?_
       refine WL_q rfl (q_move (lk16 rfl <| lk4 rfl <| lk0)) ?_
       refine WL_q rfl (q_neq (lk0) lk_const) ?_
       refine WL_nil ?_
       refine then_n ?_
       refine WC_if_false (lk0) (by simp [hf]) ?_
       refine WC_skip ?_
       refine block_n (then_n ?_)
       refine WC_imp (fun _ _ h => h.drop (.cons _ <| .refl _)) ?_
       refine WC_reg fun ds => ?_
       refine WL_q rfl (q_move (lk32 rfl <| lk2 rfl <| lk_in rfl hs5)) ?_
       refine WL_q rfl (q_add (lk0) lk_const rfl (by omega) (by omega)) ?_
       refine WL_q rfl (q_assign (lk0)) ?_
       refine WL_nil ?_
       refine then_n ⟨_, m - 1, Off.eq (ou32 rfl <| ou4 rfl <| ou1 rfl <| off_over), by omega, ?_⟩
       refine ⟨k + 1, by omega, (lk0), _, _, (lk16 rfl <| lk0), ho2, rfl, fun j hjk => ?_⟩
       rcases Nat.lt_succ_iff_lt_or_eq.1 hjk with hjk | rfl
       · exact hno j hjk
       · rw [rdrErr_rest hlt hf, hc]; rfl
      ·
       replace hc : inB 0 5 bs[k].permit = false := by simpa using hc
       refine WC_if_true (lk0) (by simp [hc]) ?_
       refine WC_reg fun ds => ?_
       refine WL_q rfl (q_assign lk_const) ?_
       refine WL_nil ?_
       refine then_n ?_
       refine WC_seq ?_
       refine WC_reg fun ds => ?_
       refine WL_q rfl (q_move (lk0)) ?_
       refine WL_q rfl (q_neq (lk0) lk_const) ?_
       refine WL_nil ?_
       refine then_n ?_
       refine WC_if_true (lk0) (by first | rfl | decide) ?_
       refine WC_seq ?_
       refine WC_reg fun ds => ?_
       refine WL_q rfl (q_move (lk32 rfl <| lk2 rfl <| lk1 rfl <| lk_in rfl hs5)) ?_
       refine WL_q rfl (q_move (lk2 rfl <| lk1 rfl <| lk0)) ?_
       refine WL_q rfl (q_assign (lk1 rfl <| lk0)) ?_
       refine WL_q rfl (q_assign (lk1 rfl <| lk0)) ?_
       refine WL_nil ?_
       refine then_n ?_
       refine WC_ret ?_
       refine block_r (then_r (then_r (block_r (then_r ?_))))
       refine post_ret rfl (.tmp (lk1 rfl <| lk0) (.tmp (lk0) .nil)) ?_
       show _ = _
       rw [checkRdrs_bad h1 hlt hno (e := 7) (by rw [rdrErr_rest hlt hf, hc]; rfl) (by decide)]; rfl
     ·
      refine WC_skip ?_
      refine then_n ?_
      refine WC_seq ?_
      refine WC_block ?_
      refine WC_seq ?_
      refine WC_reg fun ds => ?_
      refine WL_q rfl (q_move (lk4 rfl <| lk_off rfl <| lk4 rfl <| lk2 rfl <| lk1 rfl <| lk_entry rfl)) ?_
      refine WL_q rfl (q_move (lk4 rfl <| lk1 rfl <| lk_in rfl hs5)) ?_
      refine WL_q rfl (q_index  sl_23 (lk1 rfl <| lk0) h.plain (lk0) rfl (by omega)) ?_
      refine WL_q rfl (q_fieldAddr fd_64_0 (lk0)) ?_
      refine WL_q rfl (q_load1 one_9 (lk0) (h.cell (by omega) rfl)) ?_
      refine WL_q rfl (q_move (lk8 rfl <| lk1 rfl <| lk_in rfl hs4)) ?_
      refine WL_c rfl (q_callH bd_86 lk_func (.cons (lk1 rfl <| lk0) (.cons (lk0) .nil)) (fun G _ hG => fresh_ok (ho.sl (fun _ => rfl) (fun p hp => hG p (by simpa using hp)) (by omega)) _) (fun _ _ h => h)) ?_
      refine WL_q rfl (q_assign (lk0)) ?_
      refine WL_nil ?_
      refine then_n ?_
      refine WC_seq ?_
      refine WC_reg fun ds => ?_
      refine WL_q rfl (q_move (lk8 rfl <| lk4 rfl <| lk_in rfl hs4)) ?_
      refine WL_q rfl (q_move (lk8 rfl <| lk4 rfl <| lk1 rfl <| lk_off rfl <| lk4 rfl <| lk2 rfl <| lk1 rfl <| lk_entry rfl)) ?_
      refine WL_q rfl (q_move (lk8 rfl <| lk4 rfl <| lk2 rfl <| lk_in rfl hs5)) ?_
      refine WL_q rfl (q_index  sl_23 (lk1 rfl <| lk0) h.plain (lk0) rfl (by omega)) ?_
      refine WL_q rfl (q_fieldAddr fd_64_0 (lk0)) ?_
      refine WL_q rfl (q_load1 one_9 (lk0) (h.cell (by omega) rfl)) ?_
      refine WL_x rfl (x_build sl_136 zr_9 rfl (.cons (lk0) .nil) rfl rfl (by decide) (by simp [Value.oneCell']) fun b6 hb6 nb6 => ?_)
      refine WL_x rfl (x_append sl_136 el_9 (lk4 rfl <| lk2 rfl <| lk0) ho (lk0) (src_box (s := 1) 0 rfl rfl (by simp [Value.oneCell'])) (by rw [hnl]; omega) (by rw [hnl]; omega) (.s <| .z) .last fun v7 R8 ho9 => ?_)
      have ho2 := ho9.snoc rfl rfl
      rw [← rnames_succ hlt] at ho2
      clear ho9
      refine WL_q rfl (q_assign (lk0)) ?_
      refine WL_nil ?_
      refine then_n ?_
      refine WC_seq ?_
      refine WC_seq ?_
      refine WC_reg fun ds => ?_
      refine WL_q rfl (q_move (lk8 rfl <| lk1 rfl <| lk0)) ?_
      refine WL_q rfl (q_eql (lk0) lk_const) ?_
      refine WL_q rfl (q_move (lk0)) ?_
      refine WL_pass rfl rfl (lk0) (.inl (congrArg Value.bool (decide_eq_false hf))) rfl ?_
      refine WL_pass rfl rfl (lk1 rfl <| lk0) (.inl (congrArg Value.bool (decide_eq_false hf))) rfl ?_
      refine WL_pass rfl rfl (lk2 rfl <| lk0) (.inl (congrArg Value.bool (decide_eq_false hf))) rfl ?_
      refine WL_pass rfl rfl (lk2 rfl <| lk1 rfl <| lk0) (.inl (congrArg Value.bool (decide_eq_false hf))) rfl ?_
      refine WL_pass rfl rfl (lk4 rfl <| lk0) (.inl (congrArg Value.bool (decide_eq_false hf))) rfl ?_
      refine WL_pass rfl rfl (lk4 rfl <| lk1 rfl <| lk0) (.inl (congrArg Value.bool (decide_eq_false hf))) rfl ?_
      refine WL_pass rfl rfl (lk4 rfl <| lk2 rfl <| lk0) (.inl (congrArg Value.bool (decide_eq_false hf))) rfl ?_
      refine WL_q rfl (q_pick_false (lk4 rfl <| lk2 rfl <| lk1 rfl <| lk0) (decide_eq_false hf) lk_const) ?_
      refine WL_nil ?_
      refine then_n ?_
      refine WC_if_false (lk0) (by simp [hf]) ?_
      refine WC_skip ?_
      refine then_n ?_
      refine WC_seq ?_
      refine WC_reg fun ds => ?_
      refine WL_q rfl (q_move (lk16 rfl <| lk4 rfl <| lk0)) ?_
      refine WL_q rfl (q_neq (lk0) lk_const) ?_
      refine WL_nil ?_
      refine then_n ?_
      refine WC_if_true (lk0) (by simp [hf]) ?_
      refine WC_seq ?_
      refine WC_reg fun ds => ?_
      refine WL_q rfl (q_move (lk32 rfl <| lk2 rfl <| lk_in rfl hs5)) ?_
      refine WL_q rfl (q_move (lk16 rfl <| lk4 rfl <| lk2 rfl <| lk1 rfl <| lk0)) ?_
      refine WL_q rfl (q_assign (lk1 rfl <| lk0)) ?_
      refine WL_q rfl (q_assign (lk1 rfl <| lk0)) ?_
      refine WL_nil ?_
      refine then_n ?_
      refine WC_ret ?_
      refine block_r (then_r (then_r (block_r (then_r ?_))))
      refine post_ret rfl (.tmp (lk1 rfl <| lk0) (.tmp (lk0) .nil)) ?_
      show _ = _
      rw [checkRdrs_bad h1 hlt hno (rdrErr_fresh hlt hf) hf]; rfl
    ·
     refine WC_seq ?_
     refine WC_seq ?_
     refine WC_reg fun ds => ?_
     refine WL_q rfl (q_move (lk_in rfl hs5)) ?_
     refine WL_q rfl (q_move (lk1 rfl <| lk_off rfl <| lk4 rfl <| lk2 rfl <| lk1 rfl <| lk_entry rfl)) ?_
     refine WL_q rfl (q_lenP sl_23 (lk0) h.plain) ?_
     refine WL_q rfl (q_lss (lk2 rfl <| lk0) (lk0)) ?_
     refine WL_nil ?_
     refine then_n ?_
     refine WC_if_false (lk0) (by first | rfl | exact decide_eq_false (by omega)) ?_
     refine WC_exit ?_
     refine then_x (then_x (exit_here ?_))
     refine then_n ?_
     refine WC_seq ?_
     refine WC_reg fun ds => ?_
     refine WL_q rfl (q_assign lk_const) ?_
     refine WL_q rfl (q_assign lk_const) ?_
     refine WL_nil ?_
     refine then_n ?_
     refine WC_ret ?_
     refine post_ret rfl (.tmp (lk1 rfl <| lk0) (.tmp (lk0) .nil)) ?_
     show _ = _
     rw [checkRdrs_ok h1 fun j hj => hno j (by omega)]; rfl
end Go.Proofs.Ytbcjfkcpfjccdaa
