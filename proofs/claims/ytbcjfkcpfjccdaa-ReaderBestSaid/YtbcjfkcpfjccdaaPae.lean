/-
  A part of a proof: ReaderBest returns true of any room, granted requests and request, and leaves what it is handed as it was. No conditions.
-/
import Derived.Test.YtbcjfkcpfjccdaaPad
import Derived.Maps.Keyed
import Derived.DeepKeys4
namespace Go.Proofs.Ytbcjfkcpfjccdaa
open Go.RowKit
theorem agg_105 : AggT Try.prog 105 3 := aggT_of (by kernel_rfl)
theorem bd_39 : Body Try.prog 39 := body_of (by kernel_rfl)
theorem bd_89 : Body Try.prog 89 := body_of (by kernel_rfl)
theorem el_3 : ElemT Try.prog 3 1 8 (.int .i64 0) := elemT_of (by kernel_rfl) rfl (by decide)
theorem fd_105_0 : FieldT Try.prog 105 0 0 := fieldT_of (by kernel_rfl)
theorem fd_105_1 : FieldT Try.prog 105 1 1 := fieldT_of (by kernel_rfl)
theorem fd_105_2 : FieldT Try.prog 105 2 2 := fieldT_of (by kernel_rfl)
theorem one_29 : OneT Try.prog 29 := oneT_of (by kernel_rfl)
theorem sz_105 : SizeT Try.prog 105 3 := sizeT_of (by kernel_rfl)
theorem zr_105 : ZeroT Try.prog 105 (.agg #[.bool false, .slice none 0 0, .int .i64 0]) := zeroT_of (by kernel_rfl)
theorem bt_105 : BuildT Try.prog 105 [.bool false, .slice none 0 0, .int .i64 0] [(0, 1), (1, 1), (2, 1)] := buildT_of zr_105 (by kernel_rfl) (by decide)
set_option maxRecDepth 100000 in
theorem give_step {F : Heap} {vb vr vs vq : Value} {r : Room} (hr : RoomR F vb vr vs vq r) (hv : Valid r) {vl vt : Value} {q : Nat} {rest taken : List Nat} (hl : Nats F vl (q :: rest)) (ht : Nats F vt taken) (hlt2 : ∀ i ∈ q :: rest, i < r.reqs.length) (hn : taken.length + (rest.length + 1) ≤ 1000) (ih : ∀ {G : Heap} {w1 w2 : Value} {tk : List Nat}, RoomR G vb vr vs vq r → Nats G w1 rest → Nats G w2 tk → tk.length + rest.length ≤ 1000 → Ok Try.prog 89 [.agg #[vb, vr, vs, vq], w1, w2].toArray G fun u G' => ∃ is vs n, u = .agg #[.bool is, vs, .int .i64 n] ∧ GivenC G' (giveR r rest tk) is vs n) : Ok Try.prog 89 [.agg #[vb, vr, vs, vq], vl, vt].toArray F fun u G' => ∃ is vs n, u = .agg #[.bool is, vs, .int .i64 n] ∧ GivenC G' (giveR r (q :: rest) taken) is vs n := by
  refine Ok.intro Try.func89 rfl Try.ntmps89 rfl fun w0 => ?_
  have hL1 := hr.seats.plain.lt
  refine WC_seq ?_
  refine WC_reg fun ds => ?_
  refine WL_x rfl (x_box (lk_entry rfl) rfl fun b1 hb1 nb1 => ?_)
  refine WL_x rfl (x_alloc zr_105 rfl fun b2 hb2 nb2 => ?_)
  refine WL_nil ?_
  refine then_n ?_
  refine WC_seq ?_
  refine WC_seq ?_
  refine WC_reg fun ds => ?_
  refine WL_q rfl (q_move (lk2 rfl <| lk_entry rfl)) ?_
  refine WL_q rfl (q_lenP sl_29 (lk0) hl.plain) ?_
  refine WL_q rfl (q_eql (lk0) lk_const) ?_
  refine WL_nil ?_
  refine then_n ?_
  refine WC_if_false (lk0) (decide_eq_false (by simp only [List.length_cons]; omega)) ?_
  refine WC_skip ?_
  refine then_n ?_
  refine WC_seq ?_
  refine WC_reg fun ds => ?_
  refine WL_x rfl (x_alloc zr_105 rfl fun b3 hb3 nb3 => ?_)
  refine WL_nil ?_
  refine then_n ?_
  refine WC_seq ?_
  refine WC_seq ?_
  refine WC_reg fun ds => ?_
  refine WL_q rfl (q_assign lk_const) ?_
  refine WL_nil ?_
  refine then_n ?_
  refine WC_block ?_
  refine WC_loopN [8, 9, 10, 15, 16, 17, 18, 19, 20, 21, 22, 23, 24, 25, 26, 27, 28, 29, 30, 31, 32, 33, 34, 35, 36, 37, 38, 39, 40, 41, 42, 43, 44, 45, 46, 47, 48, 49, 50, 51, 52, 53, 54, 55, 56, 57, 58, 59, 60, 61, 62, 63, 64, 65, 66, 67, 68, 69, 70, 71, 72] (fun m e σ => ∃ G, RoomR G vb vr vs vq r ∧ Nats G vl (q :: rest) ∧ Nats G vt taken ∧ ∃ k : Nat, m + k = r.seats.length ∧ e 8 = .int .i64 k ∧ ∃ is vs2 n, GivenC G ((List.range k).foldl (step r q taken (giveR r rest)) none) is vs2 n ∧ σ = ⟨G, [(b3, bx 105 [.bool is, vs2, .int .i64 n]), (b2, bx 105 [.bool false, .slice none 0 0, .int .i64 0]), (b1, bx 27 [vb, vr, vs, vq])]⟩) (r.seats.length) ?_ ?_
  · exact ⟨_, hr, hl, ht, 0, by omega, (lk0), _, _, _, GivenC.none, rfl⟩
  ·
   rintro m e _ ⟨G, hr, hl, ht, k, hm1, hs8, is, vs2, n, hG, rfl⟩
   by_cases hk : k < r.seats.length
   ·
    refine WC_seq ?_
    refine WC_seq ?_
    refine WC_reg fun ds => ?_
    refine WL_q rfl (q_move (lk_in rfl hs8)) ?_
    refine WL_q rfl (q_fieldAddrB fd_27_2 (lk1 rfl <| lk_off rfl <| lk4 rfl <| lk2 rfl <| lk0)) ?_
    refine WL_q rfl (q_load1 one_24 (lk0) (Cell.own 2 rfl rfl)) ?_
    refine WL_q rfl (q_lenP sl_24 (lk0) hr.seats.plain) ?_
    refine WL_q rfl (q_lss (lk2 rfl <| lk1 rfl <| lk0) (lk0)) ?_
    refine WL_nil ?_
    refine then_n ?_
    refine WC_if_true (lk0) (by first | rfl | exact decide_eq_true (by omega)) ?_
    by_cases hm : k ∈ taken
    ·
     refine WC_skip ?_
     refine then_n ?_
     refine WC_seq ?_
     refine WC_block ?_
     refine WC_seq ?_
     refine WC_seq ?_
     refine WC_draw (.inl rfl) (fun _ _ h => h) (by kernel_rfl) (by kernel_rfl) fun ds => ?_
     refine WQ_q rfl (q_move (lk4 rfl <| lk1 rfl <| lk_off rfl <| lk4 rfl <| lk2 rfl <| lk1 rfl <| lk_entry rfl)) ?_
     refine WQ_q rfl (q_move (lk4 rfl <| lk2 rfl <| lk_in rfl hs8)) ?_
     refine WQ_c rfl (q_call bd_39 lk_func (.cons (lk1 rfl <| lk0) (.cons (lk0) .nil)) (has_nat ht k) (fun _ _ h => h)) ?_
     refine WQ_q rfl (q_move (lk0)) ?_
     refine WQ_pass rfl rfl (lk0) (.inl (congrArg Value.bool (decide_eq_true hm))) rfl ?_
     refine WQ_pass rfl rfl (lk1 rfl <| lk0) (.inl (congrArg Value.bool (decide_eq_true hm))) rfl ?_
     refine WQ_pass rfl rfl (lk2 rfl <| lk0) (.inl (congrArg Value.bool (decide_eq_true hm))) rfl ?_
     refine WQ_pass rfl rfl (lk2 rfl <| lk1 rfl <| lk0) (.inl (congrArg Value.bool (decide_eq_true hm))) rfl ?_
     refine WQ_pass rfl rfl (lk4 rfl <| lk0) (.inl (congrArg Value.bool (decide_eq_true hm))) rfl ?_
     refine WQ_pass rfl rfl (lk4 rfl <| lk1 rfl <| lk0) (.inl (congrArg Value.bool (decide_eq_true hm))) rfl ?_
     refine WQ_pass rfl rfl (lk4 rfl <| lk2 rfl <| lk0) (.inl (congrArg Value.bool (decide_eq_true hm))) rfl ?_
     refine WQ_q rfl (q_pick_true (lk4 rfl <| lk2 rfl <| lk1 rfl <| lk0) (decide_eq_true hm) lk_const) ?_
     refine WQ_nil ?_
     refine then_n ?_
     refine WC_if_true (lk0) (by first | rfl | exact decide_eq_true hm) ?_
     refine WC_exit ?_
     refine then_x (exit_here ?_)
     refine then_n ?_
     refine WC_reg fun ds => ?_
     refine WL_q rfl (q_move (lk16 rfl <| lk1 rfl <| lk_in rfl hs8)) ?_
     refine WL_q rfl (q_add (lk0) lk_const rfl (by omega) (by omega)) ?_
     refine WL_q rfl (q_assign (lk0)) ?_
     refine WL_nil ?_
     refine then_n ⟨_, m - 1, Off.eq (ou16 rfl <| ou4 rfl <| off_over), by omega, ?_⟩
     refine ⟨_, hr, hl, ht, k + 1, by omega, (lk0), is, vs2, n, ?_, rfl⟩
     rw [fold_succ, step_skip (.inl hm)]; exact hG
    ·
     refine WC_skip ?_
     refine then_n ?_
     refine WC_seq ?_
     refine WC_block ?_
     refine WC_seq ?_
     refine WC_seq ?_
     refine WC_draw (.inl rfl) (fun _ _ h => h) (by kernel_rfl) (by kernel_rfl) fun ds => ?_
     refine WQ_q rfl (q_move (lk4 rfl <| lk1 rfl <| lk_off rfl <| lk4 rfl <| lk2 rfl <| lk1 rfl <| lk_entry rfl)) ?_
     refine WQ_q rfl (q_move (lk4 rfl <| lk2 rfl <| lk_in rfl hs8)) ?_
     refine WQ_c rfl (q_call bd_39 lk_func (.cons (lk1 rfl <| lk0) (.cons (lk0) .nil)) (has_nat ht k) (fun _ _ h => h)) ?_
     refine WQ_q rfl (q_move (lk0)) ?_
     refine WQ_want rfl rfl (lk0) (decide_eq_false hm) ?_
     refine WQ_q rfl (q_loadN agg_27 (lk8 rfl <| lk1 rfl <| lk_off rfl <| lk4 rfl <| lk2 rfl <| lk0) rfl rfl (own_whole 2 rfl)) ?_
     refine WQ_want rfl rfl (lk1 rfl <| lk0) (decide_eq_false hm) ?_
     refine WQ_q rfl (q_move (lk8 rfl <| lk2 rfl <| lk_off rfl <| lk4 rfl <| lk2 rfl <| lk1 rfl <| lk_entry rfl)) ?_
     refine WQ_want rfl rfl (lk2 rfl <| lk0) (decide_eq_false hm) ?_
     refine WQ_q rfl (q_index (k := 0) sl_29 (lk0) hl.plain lk_const rfl (by simp)) ?_
     refine WQ_want rfl rfl (lk2 rfl <| lk1 rfl <| lk0) (decide_eq_false hm) ?_
     refine WQ_q rfl (q_load1 one_3 (lk0) (hl.cell1 (by simp) rfl)) ?_
     refine WQ_want rfl rfl (lk4 rfl <| lk0) (decide_eq_false hm) ?_
     refine WQ_q rfl (q_move (lk8 rfl <| lk4 rfl <| lk1 rfl <| lk_in rfl hs8)) ?_
     refine WQ_want rfl rfl (lk4 rfl <| lk1 rfl <| lk0) (decide_eq_false hm) ?_
     refine WQ_c rfl (q_call bd_59 lk_func (.cons (lk4 rfl <| lk0) (.cons (lk1 rfl <| lk0) (.cons (lk0) .nil))) (refReason_ok (i := q) hr hv (hlt2 q (by simp)) hk) (fun _ _ h => h)) ?_
     refine WQ_want rfl rfl (lk4 rfl <| lk2 rfl <| lk0) (decide_eq_false hm) ?_
     refine WQ_q rfl (q_neq (lk0) lk_const) ?_
     refine WQ_q rfl (q_pick_false (lk4 rfl <| lk2 rfl <| lk1 rfl <| lk0) (decide_eq_false hm) (lk0)) ?_
     refine WQ_nil ?_
     refine then_n ?_
     by_cases hrs : reason r q k ≠ 0
     ·
      refine WC_if_true (lk0) (decide_eq_true hrs) ?_
      refine WC_exit ?_
      refine then_x (exit_here ?_)
      refine then_n ?_
      refine WC_reg fun ds => ?_
      refine WL_q rfl (q_move (lk16 rfl <| lk1 rfl <| lk_in rfl hs8)) ?_
      refine WL_q rfl (q_add (lk0) lk_const rfl (by omega) (by omega)) ?_
      refine WL_q rfl (q_assign (lk0)) ?_
      refine WL_nil ?_
      refine then_n ⟨_, m - 1, Off.eq (ou16 rfl <| ou4 rfl <| off_over), by omega, ?_⟩
      refine ⟨_, hr, hl, ht, k + 1, by omega, (lk0), is, vs2, n, ?_, rfl⟩
      rw [fold_succ, step_skip (.inr hrs)]; exact hG
     ·
      refine WC_if_false (lk0) (decide_eq_false hrs) ?_
      refine WC_skip ?_
      refine then_n ?_
      refine WC_seq ?_
      refine WC_cut [9, 34, 35, 36, 37, 38, 39, 40, 41, 42, 43] (fun s σ => ∃ G2 p9 is3 vs3 n3, s 9 = ptr p9 ∧ RoomR G2 vb vr vs vq r ∧ Nats G2 vl (q :: rest) ∧ Nats G2 vt taken ∧ GivenC G2 ((List.range k).foldl (step r q taken (giveR r rest)) none) is vs2 n ∧ GivenC G2 (giveR r rest (taken ++ [k])) is3 vs3 n3 ∧ σ = ⟨G2, [(p9, bx 105 [.bool is3, vs3, .int .i64 n3]), (b3, bx 105 [.bool is, vs2, .int .i64 n]), (b2, bx 105 [.bool false, .slice none 0 0, .int .i64 0]), (b1, bx 27 [vb, vr, vs, vq])]⟩) ?_ ?_
      ·
       refine WC_drawS (.inl rfl) (fun _ _ h => h) (.cons_cons _ <| .cons_cons _ <| .cons_cons _ <| .refl _) [9, 11] (by kernel_rfl) fun ds => ?_
       refine WX_take 0 rfl (by kernel_rfl) (by kernel_rfl) (by kernel_rfl) (by kernel_rfl) rfl rfl (fun _ h => h.drop (.cons_cons _ <| .cons_cons _ <| .cons_cons _ <| .refl _)) (fun _ _ _ h => h) (q_loadN agg_27 (lk16 rfl <| lk1 rfl <| lk_off rfl <| lk4 rfl <| lk2 rfl <| lk0) rfl rfl (own_whole 2 rfl)) ?_
       refine WX_take 1 rfl (by kernel_rfl) (by kernel_rfl) (by kernel_rfl) (by kernel_rfl) rfl rfl (fun _ h => h.drop (.cons_cons _ <| .cons_cons _ <| .cons_cons _ <| .refl _)) (fun _ _ _ h => h) (q_move (lk16 rfl <| lk2 rfl <| lk_off rfl <| lk4 rfl <| lk2 rfl <| lk1 rfl <| lk_entry rfl)) ?_
       refine WX_take 2 rfl (by kernel_rfl) (by kernel_rfl) (by kernel_rfl) (by kernel_rfl) rfl rfl (fun _ h => h.drop (.cons_cons _ <| .cons_cons _ <| .cons_cons _ <| .refl _)) (fun _ _ _ h => h) (q_sliceFrom sl_29 (lk0) hl.plain lk_const (k := 1) rfl (by simp)) ?_
       refine WX_take 4 rfl (by kernel_rfl) (by kernel_rfl) (by kernel_rfl) (by kernel_rfl) rfl rfl (fun _ h => h.drop (.cons_cons _ <| .cons_cons _ <| .cons_cons _ <| .refl _)) (fun _ _ _ h => h) (q_move (lk16 rfl <| lk4 rfl <| lk_off rfl <| lk4 rfl <| lk2 rfl <| lk1 rfl <| lk_entry rfl)) ?_
       refine WX_take 6 rfl (by kernel_rfl) (by kernel_rfl) (by kernel_rfl) (by kernel_rfl) rfl rfl (fun _ h => h.drop (.cons_cons _ <| .cons_cons _ <| .cons_cons _ <| .refl _)) (fun _ _ _ h => h) (q_move (lk16 rfl <| lk4 rfl <| lk1 rfl <| lk_in rfl hs8)) ?_
       refine WX_pick [3, 7, 10] (by kernel_rfl) (by decide) (in3 ?_ ?_ ?_)
       ·
        refine WXop_x rfl rfl (x_build sl_29 zr_3 rfl .nil rfl rfl (by decide) (by simp [Value.oneCell']) fun b5 hb5 nb5 => ⟨fun _ _ => (fun _ h => h.drop (.cons _ <| .cons_cons _ <| .cons_cons _ <| .cons_cons _ <| .refl _)), ?_⟩)
        refine WX_pick [5, 7, 10] (by kernel_rfl) (by decide) (in3 ?_ ?_ ?_)
        ·
         refine WXop_x rfl rfl (x_append sl_29 el_3 (lk0) (own_box rfl) (lk2 rfl <| lk0) (ht.src (fun _ => rfl) natE_one) (by omega) (by omega) (.z) .box fun v6 R7 ho8 => ⟨fun _ _ => (fun _ h => h.drop (List.sublist_append_of_sublist_right <| .cons_cons _ <| .cons_cons _ <| .cons_cons _ <| .refl _)), ?_⟩)
         have ho2 : Own 3 1 v6 taken.length (taken.flatMap natE) R7 := by simpa using ho8
         refine WX_pick [7, 10] (by kernel_rfl) (by decide) (in2 ?_ ?_)
         ·
          refine WXop_x rfl rfl (x_build sl_29 zr_3 rfl (.cons (lk2 rfl <| lk0) .nil) rfl rfl (by decide) (by simp [Value.oneCell']) fun b9 hb9 nb9 => ⟨fun _ _ => (fun _ h => h.drop (.cons _ <| List.sublist_append_of_sublist_right <| .cons_cons _ <| .cons_cons _ <| .cons_cons _ <| .refl _)), ?_⟩)
          refine WX_pick [8, 10] (by kernel_rfl) (by decide) (in2 ?_ ?_)
          ·
           refine WXop_x rfl rfl (x_append sl_29 el_3 (lk1 rfl <| lk0) ho2 (lk0) (src_box (s := 1) 0 rfl rfl (by simp [Value.oneCell'])) (by omega) (by omega) (.s <| .z) .more fun v10 R11 ho12 => ⟨fun _ _ => (fun _ h => h.drop (.cons _ <| List.sublist_append_of_sublist_right <| .cons_cons _ <| .cons_cons _ <| .cons_cons _ <| .refl _)), ?_⟩)
           have ho3 := ho12.snoc (x := k) rfl rfl
           refine WX_pick [9, 10] (by kernel_rfl) (by decide) (in2 ?_ ?_)
           ·
            refine WXop_freezeR (σ := ⟨_, _⟩) (by rfl) ho3 (.s <| .z) .more fun F13 hF14 hz15 => ?_
            replace hr := hr.mono hF14
            replace hl := hl.mono hF14
            replace ht := ht.mono hF14
            replace hG := hG.mono hF14
            have hn2 := ho3.sl (fun _ => rfl) hz15 (by simp only [List.length_append, List.length_singleton]; omega)
            refine WXop_x rfl rfl (x_call bd_89 lk_func (.cons (lk8 rfl <| lk0) (.cons (lk4 rfl <| lk2 rfl <| lk0) (.cons (lk0) .nil))) (ih hr (hl.from (k := 1) (by simp)) hn2 (by simp only [List.length_append, List.length_singleton]; omega)) fun v16 F17 hr18 hF19 => ⟨(fun h => nomatch h), ?_⟩)
            replace hr := hr.mono hF19
            replace hl := hl.mono hF19
            replace ht := ht.mono hF19
            replace hG := hG.mono hF19
            replace hn2 := hn2.mono hF19
            obtain ⟨is3, vs3, n3, rfl, hG2⟩ := hr18
            refine WX_x 10 rfl (by kernel_rfl) rfl (x_alloc zr_105 rfl fun b20 hb20 nb20 => ⟨(fun _ => late (by kernel_rfl)), ?_⟩)
            refine WX_x0 11 rfl (by kernel_rfl) (x_storeA sz_105 (lk0) (lk1 rfl <| lk0) (i := 0) rfl rfl rfl rfl hG2.ones (.here) ⟨(fun h => nomatch h), ?_⟩)
            refine WX_order (.cons (.here) <| .cons (.next <| .here) <| .cons (.next <| .here) <| .cons (.next <| .here) <| .nil) ?_
            refine WX_done (by kernel_rfl) ?_ _
            refine then_n ⟨_, Off.eq (ou8 rfl <| ou2 rfl <| ou1 rfl <| off_refl), ?_⟩
            exact ⟨_, _, _, _, _, (lk0), hr, hl, ht, hG, hG2, rfl⟩
           ·
            refine WXop_x rfl rfl (x_alloc zr_105 rfl fun b21 hb21 nb21 => ⟨fun _ _ => (fun _ h => h.drop (.cons _ <| .cons _ <| List.sublist_append_of_sublist_right <| .cons_cons _ <| .cons_cons _ <| .cons_cons _ <| .refl _)), ?_⟩)
            refine WX_freezeR (σ := ⟨_, _⟩) (by rfl) ho3 (.s <| .s <| .z) .more fun F22 hF23 hz24 => ?_
            replace hr := hr.mono hF23
            replace hl := hl.mono hF23
            replace ht := ht.mono hF23
            replace hG := hG.mono hF23
            have hn2 := ho3.sl (fun _ => rfl) hz24 (by simp only [List.length_append, List.length_singleton]; omega)
            refine WX_x 9 rfl (by kernel_rfl) rfl (x_call bd_89 lk_func (.cons (lk8 rfl <| lk1 rfl <| lk0) (.cons (lk4 rfl <| lk2 rfl <| lk1 rfl <| lk0) (.cons (lk1 rfl <| lk0) .nil))) (ih hr (hl.from (k := 1) (by simp)) hn2 (by simp only [List.length_append, List.length_singleton]; omega)) fun v25 F26 hr27 hF28 => ⟨(fun h => nomatch h), ?_⟩)
            replace hr := hr.mono hF28
            replace hl := hl.mono hF28
            replace ht := ht.mono hF28
            replace hG := hG.mono hF28
            replace hn2 := hn2.mono hF28
            obtain ⟨is3, vs3, n3, rfl, hG2⟩ := hr27
            refine WX_x0 11 rfl (by kernel_rfl) (x_storeA sz_105 (lk1 rfl <| lk0) (lk0) (i := 0) rfl rfl rfl rfl hG2.ones (.here) ⟨(fun h => nomatch h), ?_⟩)
            refine WX_order (.cons (.here) <| .cons (.next <| .here) <| .cons (.next <| .here) <| .cons (.next <| .here) <| .nil) ?_
            refine WX_done (by kernel_rfl) ?_ _
            refine then_n ⟨_, Off.eq (ou8 rfl <| ou2 rfl <| ou1 rfl <| off_refl), ?_⟩
            exact ⟨_, _, _, _, _, (lk1 rfl <| lk0), hr, hl, ht, hG, hG2, rfl⟩
          ·
           refine WXop_x rfl rfl (x_alloc zr_105 rfl fun b29 hb29 nb29 => ⟨fun _ _ => (fun _ h => h.drop (.cons _ <| .cons _ <| List.sublist_append_of_sublist_right <| .cons_cons _ <| .cons_cons _ <| .cons_cons _ <| .refl _)), ?_⟩)
           refine WX_x 8 rfl (by kernel_rfl) rfl (x_append sl_29 el_3 (lk2 rfl <| lk0) ho2 (lk1 rfl <| lk0) (src_box (s := 1) 1 rfl rfl (by simp [Value.oneCell'])) (by omega) (by omega) (.s <| .s <| .z) .more fun v30 R31 ho32 => ⟨fun _ _ => (fun _ h => h.drop (.cons _ <| .cons _ <| List.sublist_append_of_sublist_right <| .cons_cons _ <| .cons_cons _ <| .cons_cons _ <| .refl _)), ?_⟩)
           have ho3 := ho32.snoc (x := k) rfl rfl
           refine WX_freezeR (σ := ⟨_, _⟩) (by rfl) ho3 (.s <| .s <| .z) .more fun F33 hF34 hz35 => ?_
           replace hr := hr.mono hF34
           replace hl := hl.mono hF34
           replace ht := ht.mono hF34
           replace hG := hG.mono hF34
           have hn2 := ho3.sl (fun _ => rfl) hz35 (by simp only [List.length_append, List.length_singleton]; omega)
           refine WX_x 9 rfl (by kernel_rfl) rfl (x_call bd_89 lk_func (.cons (lk8 rfl <| lk1 rfl <| lk0) (.cons (lk4 rfl <| lk2 rfl <| lk1 rfl <| lk0) (.cons (lk0) .nil))) (ih hr (hl.from (k := 1) (by simp)) hn2 (by simp only [List.length_append, List.length_singleton]; omega)) fun v36 F37 hr38 hF39 => ⟨(fun h => nomatch h), ?_⟩)
           replace hr := hr.mono hF39
           replace hl := hl.mono hF39
           replace ht := ht.mono hF39
           replace hG := hG.mono hF39
           replace hn2 := hn2.mono hF39
           obtain ⟨is3, vs3, n3, rfl, hG2⟩ := hr38
           refine WX_x0 11 rfl (by kernel_rfl) (x_storeA sz_105 (lk2 rfl <| lk0) (lk0) (i := 0) rfl rfl rfl rfl hG2.ones (.here) ⟨(fun h => nomatch h), ?_⟩)
           refine WX_order (.cons (.here) <| .cons (.next <| .here) <| .cons (.next <| .here) <| .cons (.next <| .here) <| .nil) ?_
           refine WX_done (by kernel_rfl) ?_ _
           refine then_n ⟨_, Off.eq (ou8 rfl <| ou2 rfl <| ou1 rfl <| off_refl), ?_⟩
           exact ⟨_, _, _, _, _, (lk2 rfl <| lk0), hr, hl, ht, hG, hG2, rfl⟩
         ·
          refine WXop_x rfl rfl (x_alloc zr_105 rfl fun b40 hb40 nb40 => ⟨fun _ _ => (fun _ h => h.drop (.cons _ <| List.sublist_append_of_sublist_right <| .cons_cons _ <| .cons_cons _ <| .cons_cons _ <| .refl _)), ?_⟩)
          refine WX_x 7 rfl (by kernel_rfl) rfl (x_build sl_29 zr_3 rfl (.cons (lk2 rfl <| lk1 rfl <| lk0) .nil) rfl rfl (by decide) (by simp [Value.oneCell']) fun b41 hb41 nb41 => ⟨fun _ _ => (fun _ h => h.drop (.cons _ <| .cons _ <| List.sublist_append_of_sublist_right <| .cons_cons _ <| .cons_cons _ <| .cons_cons _ <| .refl _)), ?_⟩)
          refine WX_x 8 rfl (by kernel_rfl) rfl (x_append sl_29 el_3 (lk2 rfl <| lk0) ho2 (lk0) (src_box (s := 1) 0 rfl rfl (by simp [Value.oneCell'])) (by omega) (by omega) (.s <| .s <| .z) .more fun v42 R43 ho44 => ⟨fun _ _ => (fun _ h => h.drop (.cons _ <| .cons _ <| List.sublist_append_of_sublist_right <| .cons_cons _ <| .cons_cons _ <| .cons_cons _ <| .refl _)), ?_⟩)
          have ho3 := ho44.snoc (x := k) rfl rfl
          refine WX_freezeR (σ := ⟨_, _⟩) (by rfl) ho3 (.s <| .s <| .z) .more fun F45 hF46 hz47 => ?_
          replace hr := hr.mono hF46
          replace hl := hl.mono hF46
          replace ht := ht.mono hF46
          replace hG := hG.mono hF46
          have hn2 := ho3.sl (fun _ => rfl) hz47 (by simp only [List.length_append, List.length_singleton]; omega)
          refine WX_x 9 rfl (by kernel_rfl) rfl (x_call bd_89 lk_func (.cons (lk8 rfl <| lk1 rfl <| lk0) (.cons (lk4 rfl <| lk2 rfl <| lk1 rfl <| lk0) (.cons (lk0) .nil))) (ih hr (hl.from (k := 1) (by simp)) hn2 (by simp only [List.length_append, List.length_singleton]; omega)) fun v48 F49 hr50 hF51 => ⟨(fun h => nomatch h), ?_⟩)
          replace hr := hr.mono hF51
          replace hl := hl.mono hF51
          replace ht := ht.mono hF51
          replace hG := hG.mono hF51
          replace hn2 := hn2.mono hF51
          obtain ⟨is3, vs3, n3, rfl, hG2⟩ := hr50
          refine WX_x0 11 rfl (by kernel_rfl) (x_storeA sz_105 (lk2 rfl <| lk1 rfl <| lk0) (lk0) (i := 1) rfl rfl rfl rfl hG2.ones (.next <| .here) ⟨(fun h => nomatch h), ?_⟩)
          refine WX_order (.cons (.next <| .here) <| .cons (.next <| .here) <| .cons (.next <| .here) <| .cons (.next <| .here) <| .nil) ?_
          refine WX_done (by kernel_rfl) ?_ _
          refine then_n ⟨_, Off.eq (ou8 rfl <| ou2 rfl <| ou1 rfl <| off_refl), ?_⟩
          exact ⟨_, _, _, _, _, (lk2 rfl <| lk1 rfl <| lk0), hr, hl, ht, hG, hG2, rfl⟩
        ·
         refine WXop_x rfl rfl (x_build sl_29 zr_3 rfl (.cons (lk1 rfl <| lk0) .nil) rfl rfl (by decide) (by simp [Value.oneCell']) fun b52 hb52 nb52 => ⟨fun _ _ => (fun _ h => h.drop (.cons _ <| .cons _ <| .cons_cons _ <| .cons_cons _ <| .cons_cons _ <| .refl _)), ?_⟩)
         refine WX_pick [5, 10] (by kernel_rfl) (by decide) (in2 ?_ ?_)
         ·
          refine WXop_x rfl rfl (x_append sl_29 el_3 (lk1 rfl <| lk0) (own_box rfl) (lk2 rfl <| lk1 rfl <| lk0) (ht.src (fun _ => rfl) natE_one) (by omega) (by omega) (.s <| .z) .box fun v53 R54 ho55 => ⟨fun _ _ => (fun _ h => h.drop (.cons _ <| List.sublist_append_of_sublist_right <| .cons_cons _ <| .cons_cons _ <| .cons_cons _ <| .refl _)), ?_⟩)
          have ho2 : Own 3 1 v53 taken.length (taken.flatMap natE) R54 := by simpa using ho55
          refine WX_pick [8, 10] (by kernel_rfl) (by decide) (in2 ?_ ?_)
          ·
           refine WXop_x rfl rfl (x_append sl_29 el_3 (lk0) ho2 (lk1 rfl <| lk0) (src_box (s := 1) 0 rfl rfl (by simp [Value.oneCell'])) (by omega) (by omega) (.s <| .z) .more fun v56 R57 ho58 => ⟨fun _ _ => (fun _ h => h.drop (.cons _ <| List.sublist_append_of_sublist_right <| .cons_cons _ <| .cons_cons _ <| .cons_cons _ <| .refl _)), ?_⟩)
           have ho3 := ho58.snoc (x := k) rfl rfl
           refine WX_pick [9, 10] (by kernel_rfl) (by decide) (in2 ?_ ?_)
           ·
            refine WXop_freezeR (σ := ⟨_, _⟩) (by rfl) ho3 (.s <| .z) .more fun F59 hF60 hz61 => ?_
            replace hr := hr.mono hF60
            replace hl := hl.mono hF60
            replace ht := ht.mono hF60
            replace hG := hG.mono hF60
            have hn2 := ho3.sl (fun _ => rfl) hz61 (by simp only [List.length_append, List.length_singleton]; omega)
            refine WXop_x rfl rfl (x_call bd_89 lk_func (.cons (lk8 rfl <| lk0) (.cons (lk4 rfl <| lk2 rfl <| lk0) (.cons (lk0) .nil))) (ih hr (hl.from (k := 1) (by simp)) hn2 (by simp only [List.length_append, List.length_singleton]; omega)) fun v62 F63 hr64 hF65 => ⟨(fun h => nomatch h), ?_⟩)
            replace hr := hr.mono hF65
            replace hl := hl.mono hF65
            replace ht := ht.mono hF65
            replace hG := hG.mono hF65
            replace hn2 := hn2.mono hF65
            obtain ⟨is3, vs3, n3, rfl, hG2⟩ := hr64
            refine WX_x 10 rfl (by kernel_rfl) rfl (x_alloc zr_105 rfl fun b66 hb66 nb66 => ⟨(fun _ => late (by kernel_rfl)), ?_⟩)
            refine WX_x0 11 rfl (by kernel_rfl) (x_storeA sz_105 (lk0) (lk1 rfl <| lk0) (i := 0) rfl rfl rfl rfl hG2.ones (.here) ⟨(fun h => nomatch h), ?_⟩)
            refine WX_order (.cons (.here) <| .cons (.next <| .here) <| .cons (.next <| .here) <| .cons (.next <| .here) <| .nil) ?_
            refine WX_done (by kernel_rfl) ?_ _
            refine then_n ⟨_, Off.eq (ou8 rfl <| ou2 rfl <| ou1 rfl <| off_refl), ?_⟩
            exact ⟨_, _, _, _, _, (lk0), hr, hl, ht, hG, hG2, rfl⟩
           ·
            refine WXop_x rfl rfl (x_alloc zr_105 rfl fun b67 hb67 nb67 => ⟨fun _ _ => (fun _ h => h.drop (.cons _ <| .cons _ <| List.sublist_append_of_sublist_right <| .cons_cons _ <| .cons_cons _ <| .cons_cons _ <| .refl _)), ?_⟩)
            refine WX_freezeR (σ := ⟨_, _⟩) (by rfl) ho3 (.s <| .s <| .z) .more fun F68 hF69 hz70 => ?_
            replace hr := hr.mono hF69
            replace hl := hl.mono hF69
            replace ht := ht.mono hF69
            replace hG := hG.mono hF69
            have hn2 := ho3.sl (fun _ => rfl) hz70 (by simp only [List.length_append, List.length_singleton]; omega)
            refine WX_x 9 rfl (by kernel_rfl) rfl (x_call bd_89 lk_func (.cons (lk8 rfl <| lk1 rfl <| lk0) (.cons (lk4 rfl <| lk2 rfl <| lk1 rfl <| lk0) (.cons (lk1 rfl <| lk0) .nil))) (ih hr (hl.from (k := 1) (by simp)) hn2 (by simp only [List.length_append, List.length_singleton]; omega)) fun v71 F72 hr73 hF74 => ⟨(fun h => nomatch h), ?_⟩)
            replace hr := hr.mono hF74
            replace hl := hl.mono hF74
            replace ht := ht.mono hF74
            replace hG := hG.mono hF74
            replace hn2 := hn2.mono hF74
            obtain ⟨is3, vs3, n3, rfl, hG2⟩ := hr73
            refine WX_x0 11 rfl (by kernel_rfl) (x_storeA sz_105 (lk1 rfl <| lk0) (lk0) (i := 0) rfl rfl rfl rfl hG2.ones (.here) ⟨(fun h => nomatch h), ?_⟩)
            refine WX_order (.cons (.here) <| .cons (.next <| .here) <| .cons (.next <| .here) <| .cons (.next <| .here) <| .nil) ?_
            refine WX_done (by kernel_rfl) ?_ _
            refine then_n ⟨_, Off.eq (ou8 rfl <| ou2 rfl <| ou1 rfl <| off_refl), ?_⟩
            exact ⟨_, _, _, _, _, (lk1 rfl <| lk0), hr, hl, ht, hG, hG2, rfl⟩
          ·
           refine WXop_x rfl rfl (x_alloc zr_105 rfl fun b75 hb75 nb75 => ⟨fun _ _ => (fun _ h => h.drop (.cons _ <| .cons _ <| List.sublist_append_of_sublist_right <| .cons_cons _ <| .cons_cons _ <| .cons_cons _ <| .refl _)), ?_⟩)
           refine WX_x 8 rfl (by kernel_rfl) rfl (x_append sl_29 el_3 (lk1 rfl <| lk0) ho2 (lk2 rfl <| lk0) (src_box (s := 1) 1 rfl rfl (by simp [Value.oneCell'])) (by omega) (by omega) (.s <| .s <| .z) .more fun v76 R77 ho78 => ⟨fun _ _ => (fun _ h => h.drop (.cons _ <| .cons _ <| List.sublist_append_of_sublist_right <| .cons_cons _ <| .cons_cons _ <| .cons_cons _ <| .refl _)), ?_⟩)
           have ho3 := ho78.snoc (x := k) rfl rfl
           refine WX_freezeR (σ := ⟨_, _⟩) (by rfl) ho3 (.s <| .s <| .z) .more fun F79 hF80 hz81 => ?_
           replace hr := hr.mono hF80
           replace hl := hl.mono hF80
           replace ht := ht.mono hF80
           replace hG := hG.mono hF80
           have hn2 := ho3.sl (fun _ => rfl) hz81 (by simp only [List.length_append, List.length_singleton]; omega)
           refine WX_x 9 rfl (by kernel_rfl) rfl (x_call bd_89 lk_func (.cons (lk8 rfl <| lk1 rfl <| lk0) (.cons (lk4 rfl <| lk2 rfl <| lk1 rfl <| lk0) (.cons (lk0) .nil))) (ih hr (hl.from (k := 1) (by simp)) hn2 (by simp only [List.length_append, List.length_singleton]; omega)) fun v82 F83 hr84 hF85 => ⟨(fun h => nomatch h), ?_⟩)
           replace hr := hr.mono hF85
           replace hl := hl.mono hF85
           replace ht := ht.mono hF85
           replace hG := hG.mono hF85
           replace hn2 := hn2.mono hF85
           obtain ⟨is3, vs3, n3, rfl, hG2⟩ := hr84
           refine WX_x0 11 rfl (by kernel_rfl) (x_storeA sz_105 (lk2 rfl <| lk0) (lk0) (i := 0) rfl rfl rfl rfl hG2.ones (.here) ⟨(fun h => nomatch h), ?_⟩)
           refine WX_order (.cons (.here) <| .cons (.next <| .here) <| .cons (.next <| .here) <| .cons (.next <| .here) <| .nil) ?_
           refine WX_done (by kernel_rfl) ?_ _
           refine then_n ⟨_, Off.eq (ou8 rfl <| ou2 rfl <| ou1 rfl <| off_refl), ?_⟩
           exact ⟨_, _, _, _, _, (lk2 rfl <| lk0), hr, hl, ht, hG, hG2, rfl⟩
         ·
          refine WXop_x rfl rfl (x_alloc zr_105 rfl fun b86 hb86 nb86 => ⟨fun _ _ => (fun _ h => h.drop (.cons _ <| .cons _ <| .cons _ <| .cons_cons _ <| .cons_cons _ <| .cons_cons _ <| .refl _)), ?_⟩)
          refine WX_x 5 rfl (by kernel_rfl) rfl (x_append sl_29 el_3 (lk2 rfl <| lk0) (own_box rfl) (lk4 rfl <| lk0) (ht.src (fun _ => rfl) natE_one) (by omega) (by omega) (.s <| .s <| .z) .box fun v87 R88 ho89 => ⟨fun _ _ => (fun _ h => h.drop (.cons _ <| .cons _ <| List.sublist_append_of_sublist_right <| .cons_cons _ <| .cons_cons _ <| .cons_cons _ <| .refl _)), ?_⟩)
          have ho2 : Own 3 1 v87 taken.length (taken.flatMap natE) R88 := by simpa using ho89
          refine WX_x 8 rfl (by kernel_rfl) rfl (x_append sl_29 el_3 (lk0) ho2 (lk2 rfl <| lk0) (src_box (s := 1) 1 rfl rfl (by simp [Value.oneCell'])) (by omega) (by omega) (.s <| .s <| .z) .more fun v90 R91 ho92 => ⟨fun _ _ => (fun _ h => h.drop (.cons _ <| .cons _ <| List.sublist_append_of_sublist_right <| .cons_cons _ <| .cons_cons _ <| .cons_cons _ <| .refl _)), ?_⟩)
          have ho3 := ho92.snoc (x := k) rfl rfl
          refine WX_freezeR (σ := ⟨_, _⟩) (by rfl) ho3 (.s <| .s <| .z) .more fun F93 hF94 hz95 => ?_
          replace hr := hr.mono hF94
          replace hl := hl.mono hF94
          replace ht := ht.mono hF94
          replace hG := hG.mono hF94
          have hn2 := ho3.sl (fun _ => rfl) hz95 (by simp only [List.length_append, List.length_singleton]; omega)
          refine WX_x 9 rfl (by kernel_rfl) rfl (x_call bd_89 lk_func (.cons (lk8 rfl <| lk1 rfl <| lk0) (.cons (lk4 rfl <| lk2 rfl <| lk1 rfl <| lk0) (.cons (lk0) .nil))) (ih hr (hl.from (k := 1) (by simp)) hn2 (by simp only [List.length_append, List.length_singleton]; omega)) fun v96 F97 hr98 hF99 => ⟨(fun h => nomatch h), ?_⟩)
          replace hr := hr.mono hF99
          replace hl := hl.mono hF99
          replace ht := ht.mono hF99
          replace hG := hG.mono hF99
          replace hn2 := hn2.mono hF99
          obtain ⟨is3, vs3, n3, rfl, hG2⟩ := hr98
          refine WX_x0 11 rfl (by kernel_rfl) (x_storeA sz_105 (lk2 rfl <| lk1 rfl <| lk0) (lk0) (i := 0) rfl rfl rfl rfl hG2.ones (.here) ⟨(fun h => nomatch h), ?_⟩)
          refine WX_order (.cons (.here) <| .cons (.next <| .here) <| .cons (.next <| .here) <| .cons (.next <| .here) <| .nil) ?_
          refine WX_done (by kernel_rfl) ?_ _
          refine then_n ⟨_, Off.eq (ou8 rfl <| ou2 rfl <| ou1 rfl <| off_refl), ?_⟩
          exact ⟨_, _, _, _, _, (lk2 rfl <| lk1 rfl <| lk0), hr, hl, ht, hG, hG2, rfl⟩
        ·
         refine WXop_x rfl rfl (x_alloc zr_105 rfl fun b100 hb100 nb100 => ⟨fun _ _ => (fun _ h => h.drop (.cons _ <| .cons _ <| .cons_cons _ <| .cons_cons _ <| .cons_cons _ <| .refl _)), ?_⟩)
         refine WX_pick [5, 7] (by kernel_rfl) (by decide) (in2 ?_ ?_)
         ·
          refine WXop_x rfl rfl (x_append sl_29 el_3 (lk1 rfl <| lk0) (own_box rfl) (lk2 rfl <| lk1 rfl <| lk0) (ht.src (fun _ => rfl) natE_one) (by omega) (by omega) (.s <| .z) .box fun v101 R102 ho103 => ⟨fun _ _ => (fun _ h => h.drop (.cons _ <| List.sublist_append_of_sublist_right <| .cons_cons _ <| .cons_cons _ <| .cons_cons _ <| .refl _)), ?_⟩)
          have ho2 : Own 3 1 v101 taken.length (taken.flatMap natE) R102 := by simpa using ho103
          refine WX_x 7 rfl (by kernel_rfl) rfl (x_build sl_29 zr_3 rfl (.cons (lk2 rfl <| lk1 rfl <| lk0) .nil) rfl rfl (by decide) (by simp [Value.oneCell']) fun b104 hb104 nb104 => ⟨fun _ _ => (fun _ h => h.drop (.cons _ <| .cons _ <| List.sublist_append_of_sublist_right <| .cons_cons _ <| .cons_cons _ <| .cons_cons _ <| .refl _)), ?_⟩)
          refine WX_x 8 rfl (by kernel_rfl) rfl (x_append sl_29 el_3 (lk1 rfl <| lk0) ho2 (lk0) (src_box (s := 1) 0 rfl rfl (by simp [Value.oneCell'])) (by omega) (by omega) (.s <| .s <| .z) .more fun v105 R106 ho107 => ⟨fun _ _ => (fun _ h => h.drop (.cons _ <| .cons _ <| List.sublist_append_of_sublist_right <| .cons_cons _ <| .cons_cons _ <| .cons_cons _ <| .refl _)), ?_⟩)
          have ho3 := ho107.snoc (x := k) rfl rfl
          refine WX_freezeR (σ := ⟨_, _⟩) (by rfl) ho3 (.s <| .s <| .z) .more fun F108 hF109 hz110 => ?_
          replace hr := hr.mono hF109
          replace hl := hl.mono hF109
          replace ht := ht.mono hF109
          replace hG := hG.mono hF109
          have hn2 := ho3.sl (fun _ => rfl) hz110 (by simp only [List.length_append, List.length_singleton]; omega)
          refine WX_x 9 rfl (by kernel_rfl) rfl (x_call bd_89 lk_func (.cons (lk8 rfl <| lk1 rfl <| lk0) (.cons (lk4 rfl <| lk2 rfl <| lk1 rfl <| lk0) (.cons (lk0) .nil))) (ih hr (hl.from (k := 1) (by simp)) hn2 (by simp only [List.length_append, List.length_singleton]; omega)) fun v111 F112 hr113 hF114 => ⟨(fun h => nomatch h), ?_⟩)
          replace hr := hr.mono hF114
          replace hl := hl.mono hF114
          replace ht := ht.mono hF114
          replace hG := hG.mono hF114
          replace hn2 := hn2.mono hF114
          obtain ⟨is3, vs3, n3, rfl, hG2⟩ := hr113
          refine WX_x0 11 rfl (by kernel_rfl) (x_storeA sz_105 (lk4 rfl <| lk0) (lk0) (i := 1) rfl rfl rfl rfl hG2.ones (.next <| .here) ⟨(fun h => nomatch h), ?_⟩)
          refine WX_order (.cons (.next <| .here) <| .cons (.next <| .here) <| .cons (.next <| .here) <| .cons (.next <| .here) <| .nil) ?_
          refine WX_done (by kernel_rfl) ?_ _
          refine then_n ⟨_, Off.eq (ou8 rfl <| ou2 rfl <| ou1 rfl <| off_refl), ?_⟩
          exact ⟨_, _, _, _, _, (lk4 rfl <| lk0), hr, hl, ht, hG, hG2, rfl⟩
         ·
          refine WXop_x rfl rfl (x_build sl_29 zr_3 rfl (.cons (lk2 rfl <| lk0) .nil) rfl rfl (by decide) (by simp [Value.oneCell']) fun b115 hb115 nb115 => ⟨fun _ _ => (fun _ h => h.drop (.cons _ <| .cons _ <| .cons _ <| .cons_cons _ <| .cons_cons _ <| .cons_cons _ <| .refl _)), ?_⟩)
          refine WX_x 5 rfl (by kernel_rfl) rfl (x_append sl_29 el_3 (lk2 rfl <| lk0) (own_box rfl) (lk4 rfl <| lk0) (ht.src (fun _ => rfl) natE_one) (by omega) (by omega) (.s <| .s <| .z) .box fun v116 R117 ho118 => ⟨fun _ _ => (fun _ h => h.drop (.cons _ <| .cons _ <| List.sublist_append_of_sublist_right <| .cons_cons _ <| .cons_cons _ <| .cons_cons _ <| .refl _)), ?_⟩)
          have ho2 : Own 3 1 v116 taken.length (taken.flatMap natE) R117 := by simpa using ho118
          refine WX_x 8 rfl (by kernel_rfl) rfl (x_append sl_29 el_3 (lk0) ho2 (lk1 rfl <| lk0) (src_box (s := 1) 0 rfl rfl (by simp [Value.oneCell'])) (by omega) (by omega) (.s <| .s <| .z) .more fun v119 R120 ho121 => ⟨fun _ _ => (fun _ h => h.drop (.cons _ <| .cons _ <| List.sublist_append_of_sublist_right <| .cons_cons _ <| .cons_cons _ <| .cons_cons _ <| .refl _)), ?_⟩)
          have ho3 := ho121.snoc (x := k) rfl rfl
          refine WX_freezeR (σ := ⟨_, _⟩) (by rfl) ho3 (.s <| .s <| .z) .more fun F122 hF123 hz124 => ?_
          replace hr := hr.mono hF123
          replace hl := hl.mono hF123
          replace ht := ht.mono hF123
          replace hG := hG.mono hF123
          have hn2 := ho3.sl (fun _ => rfl) hz124 (by simp only [List.length_append, List.length_singleton]; omega)
          refine WX_x 9 rfl (by kernel_rfl) rfl (x_call bd_89 lk_func (.cons (lk8 rfl <| lk1 rfl <| lk0) (.cons (lk4 rfl <| lk2 rfl <| lk1 rfl <| lk0) (.cons (lk0) .nil))) (ih hr (hl.from (k := 1) (by simp)) hn2 (by simp only [List.length_append, List.length_singleton]; omega)) fun v125 F126 hr127 hF128 => ⟨(fun h => nomatch h), ?_⟩)
          replace hr := hr.mono hF128
          replace hl := hl.mono hF128
          replace ht := ht.mono hF128
          replace hG := hG.mono hF128
          replace hn2 := hn2.mono hF128
          obtain ⟨is3, vs3, n3, rfl, hG2⟩ := hr127
          refine WX_x0 11 rfl (by kernel_rfl) (x_storeA sz_105 (lk4 rfl <| lk0) (lk0) (i := 1) rfl rfl rfl rfl hG2.ones (.next <| .here) ⟨(fun h => nomatch h), ?_⟩)
          refine WX_order (.cons (.next <| .here) <| .cons (.next <| .here) <| .cons (.next <| .here) <| .cons (.next <| .here) <| .nil) ?_
          refine WX_done (by kernel_rfl) ?_ _
          refine then_n ⟨_, Off.eq (ou8 rfl <| ou2 rfl <| ou1 rfl <| off_refl), ?_⟩
          exact ⟨_, _, _, _, _, (lk4 rfl <| lk0), hr, hl, ht, hG, hG2, rfl⟩
       ·
        refine WXop_x rfl rfl (x_build sl_29 zr_3 rfl (.cons (lk0) .nil) rfl rfl (by decide) (by simp [Value.oneCell']) fun b129 hb129 nb129 => ⟨fun _ _ => (fun _ h => h.drop (.cons _ <| .cons_cons _ <| .cons_cons _ <| .cons_cons _ <| .refl _)), ?_⟩)
        refine WX_pick [3, 10] (by kernel_rfl) (by decide) (in2 ?_ ?_)
        ·
         refine WXop_x rfl rfl (x_build sl_29 zr_3 rfl .nil rfl rfl (by decide) (by simp [Value.oneCell']) fun b130 hb130 nb130 => ⟨fun _ _ => (fun _ h => h.drop (.cons _ <| .cons _ <| .cons_cons _ <| .cons_cons _ <| .cons_cons _ <| .refl _)), ?_⟩)
         refine WX_pick [5, 10] (by kernel_rfl) (by decide) (in2 ?_ ?_)
         ·
          refine WXop_x rfl rfl (x_append sl_29 el_3 (lk0) (own_box rfl) (lk2 rfl <| lk1 rfl <| lk0) (ht.src (fun _ => rfl) natE_one) (by omega) (by omega) (.z) .box fun v131 R132 ho133 => ⟨fun _ _ => (fun _ h => h.drop (List.sublist_append_of_sublist_right <| .cons _ <| .cons_cons _ <| .cons_cons _ <| .cons_cons _ <| .refl _)), ?_⟩)
          have ho2 : Own 3 1 v131 taken.length (taken.flatMap natE) R132 := by simpa using ho133
          refine WX_pick [8, 10] (by kernel_rfl) (by decide) (in2 ?_ ?_)
          ·
           refine WXop_x rfl rfl (x_append sl_29 el_3 (lk0) ho2 (lk2 rfl <| lk0) (src_boxM (s := 1) (List.mem_append_right _ <| .head _) rfl (by simp [Value.oneCell'])) (by omega) (by omega) (.z) .more fun v134 R135 ho136 => ⟨fun _ _ => (fun _ h => h.drop (List.sublist_append_of_sublist_right <| .cons _ <| .cons_cons _ <| .cons_cons _ <| .cons_cons _ <| .refl _)), ?_⟩)
           have ho3 := ho136.snoc (x := k) rfl rfl
           refine WX_pick [9, 10] (by kernel_rfl) (by decide) (in2 ?_ ?_)
           ·
            refine WXop_freezeR (σ := ⟨_, _⟩) (by rfl) ho3 (.z) .more fun F137 hF138 hz139 => ?_
            replace hr := hr.mono hF138
            replace hl := hl.mono hF138
            replace ht := ht.mono hF138
            replace hG := hG.mono hF138
            have hn2 := ho3.sl (fun _ => rfl) hz139 (by simp only [List.length_append, List.length_singleton]; omega)
            refine WXop_x rfl rfl (x_call bd_89 lk_func (.cons (lk8 rfl <| lk0) (.cons (lk4 rfl <| lk2 rfl <| lk0) (.cons (lk0) .nil))) (ih hr (hl.from (k := 1) (by simp)) hn2 (by simp only [List.length_append, List.length_singleton]; omega)) fun v140 F141 hr142 hF143 => ⟨(fun h => nomatch h), ?_⟩)
            replace hr := hr.mono hF143
            replace hl := hl.mono hF143
            replace ht := ht.mono hF143
            replace hG := hG.mono hF143
            replace hn2 := hn2.mono hF143
            obtain ⟨is3, vs3, n3, rfl, hG2⟩ := hr142
            refine WX_x 10 rfl (by kernel_rfl) rfl (x_alloc zr_105 rfl fun b144 hb144 nb144 => ⟨(fun _ => late (by kernel_rfl)), ?_⟩)
            refine WX_x0 11 rfl (by kernel_rfl) (x_storeA sz_105 (lk0) (lk1 rfl <| lk0) (i := 0) rfl rfl rfl rfl hG2.ones (.here) ⟨(fun h => nomatch h), ?_⟩)
            refine WX_order (.cons (.here) <| .cons (.next <| .here) <| .cons (.next <| .here) <| .cons (.next <| .here) <| .nil) ?_
            refine WX_done (by kernel_rfl) ?_ _
            refine then_n ⟨_, Off.eq (ou8 rfl <| ou2 rfl <| ou1 rfl <| off_refl), ?_⟩
            exact ⟨_, _, _, _, _, (lk0), hr, hl, ht, hG, hG2, rfl⟩
           ·
            refine WXop_x rfl rfl (x_alloc zr_105 rfl fun b145 hb145 nb145 => ⟨fun _ _ => (fun _ h => h.drop (.cons _ <| List.sublist_append_of_sublist_right <| .cons _ <| .cons_cons _ <| .cons_cons _ <| .cons_cons _ <| .refl _)), ?_⟩)
            refine WX_freezeR (σ := ⟨_, _⟩) (by rfl) ho3 (.s <| .z) .more fun F146 hF147 hz148 => ?_
            replace hr := hr.mono hF147
            replace hl := hl.mono hF147
            replace ht := ht.mono hF147
            replace hG := hG.mono hF147
            have hn2 := ho3.sl (fun _ => rfl) hz148 (by simp only [List.length_append, List.length_singleton]; omega)
            refine WX_x 9 rfl (by kernel_rfl) rfl (x_call bd_89 lk_func (.cons (lk8 rfl <| lk1 rfl <| lk0) (.cons (lk4 rfl <| lk2 rfl <| lk1 rfl <| lk0) (.cons (lk1 rfl <| lk0) .nil))) (ih hr (hl.from (k := 1) (by simp)) hn2 (by simp only [List.length_append, List.length_singleton]; omega)) fun v149 F150 hr151 hF152 => ⟨(fun h => nomatch h), ?_⟩)
            replace hr := hr.mono hF152
            replace hl := hl.mono hF152
            replace ht := ht.mono hF152
            replace hG := hG.mono hF152
            replace hn2 := hn2.mono hF152
            obtain ⟨is3, vs3, n3, rfl, hG2⟩ := hr151
            refine WX_x0 11 rfl (by kernel_rfl) (x_storeA sz_105 (lk1 rfl <| lk0) (lk0) (i := 0) rfl rfl rfl rfl hG2.ones (.here) ⟨(fun h => nomatch h), ?_⟩)
            refine WX_order (.cons (.here) <| .cons (.next <| .here) <| .cons (.next <| .here) <| .cons (.next <| .here) <| .nil) ?_
            refine WX_done (by kernel_rfl) ?_ _
            refine then_n ⟨_, Off.eq (ou8 rfl <| ou2 rfl <| ou1 rfl <| off_refl), ?_⟩
            exact ⟨_, _, _, _, _, (lk1 rfl <| lk0), hr, hl, ht, hG, hG2, rfl⟩
          ·
           refine WXop_x rfl rfl (x_alloc zr_105 rfl fun b153 hb153 nb153 => ⟨fun _ _ => (fun _ h => h.drop (.cons _ <| List.sublist_append_of_sublist_right <| .cons _ <| .cons_cons _ <| .cons_cons _ <| .cons_cons _ <| .refl _)), ?_⟩)
           refine WX_x 8 rfl (by kernel_rfl) rfl (x_append sl_29 el_3 (lk1 rfl <| lk0) ho2 (lk2 rfl <| lk1 rfl <| lk0) (src_boxM (s := 1) (.tail _ <| List.mem_append_right _ <| .head _) rfl (by simp [Value.oneCell'])) (by omega) (by omega) (.s <| .z) .more fun v154 R155 ho156 => ⟨fun _ _ => (fun _ h => h.drop (.cons _ <| List.sublist_append_of_sublist_right <| .cons _ <| .cons_cons _ <| .cons_cons _ <| .cons_cons _ <| .refl _)), ?_⟩)
           have ho3 := ho156.snoc (x := k) rfl rfl
           refine WX_freezeR (σ := ⟨_, _⟩) (by rfl) ho3 (.s <| .z) .more fun F157 hF158 hz159 => ?_
           replace hr := hr.mono hF158
           replace hl := hl.mono hF158
           replace ht := ht.mono hF158
           replace hG := hG.mono hF158
           have hn2 := ho3.sl (fun _ => rfl) hz159 (by simp only [List.length_append, List.length_singleton]; omega)
           refine WX_x 9 rfl (by kernel_rfl) rfl (x_call bd_89 lk_func (.cons (lk8 rfl <| lk1 rfl <| lk0) (.cons (lk4 rfl <| lk2 rfl <| lk1 rfl <| lk0) (.cons (lk0) .nil))) (ih hr (hl.from (k := 1) (by simp)) hn2 (by simp only [List.length_append, List.length_singleton]; omega)) fun v160 F161 hr162 hF163 => ⟨(fun h => nomatch h), ?_⟩)
           replace hr := hr.mono hF163
           replace hl := hl.mono hF163
           replace ht := ht.mono hF163
           replace hG := hG.mono hF163
           replace hn2 := hn2.mono hF163
           obtain ⟨is3, vs3, n3, rfl, hG2⟩ := hr162
           refine WX_x0 11 rfl (by kernel_rfl) (x_storeA sz_105 (lk2 rfl <| lk0) (lk0) (i := 0) rfl rfl rfl rfl hG2.ones (.here) ⟨(fun h => nomatch h), ?_⟩)
           refine WX_order (.cons (.here) <| .cons (.next <| .here) <| .cons (.next <| .here) <| .cons (.next <| .here) <| .nil) ?_
           refine WX_done (by kernel_rfl) ?_ _
           refine then_n ⟨_, Off.eq (ou8 rfl <| ou2 rfl <| ou1 rfl <| off_refl), ?_⟩
           exact ⟨_, _, _, _, _, (lk2 rfl <| lk0), hr, hl, ht, hG, hG2, rfl⟩
         ·
          refine WXop_x rfl rfl (x_alloc zr_105 rfl fun b164 hb164 nb164 => ⟨fun _ _ => (fun _ h => h.drop (.cons _ <| .cons _ <| .cons _ <| .cons_cons _ <| .cons_cons _ <| .cons_cons _ <| .refl _)), ?_⟩)
          refine WX_x 5 rfl (by kernel_rfl) rfl (x_append sl_29 el_3 (lk1 rfl <| lk0) (own_box rfl) (lk4 rfl <| lk0) (ht.src (fun _ => rfl) natE_one) (by omega) (by omega) (.s <| .z) .box fun v165 R166 ho167 => ⟨fun _ _ => (fun _ h => h.drop (.cons _ <| List.sublist_append_of_sublist_right <| .cons _ <| .cons_cons _ <| .cons_cons _ <| .cons_cons _ <| .refl _)), ?_⟩)
          have ho2 : Own 3 1 v165 taken.length (taken.flatMap natE) R166 := by simpa using ho167
          refine WX_x 8 rfl (by kernel_rfl) rfl (x_append sl_29 el_3 (lk0) ho2 (lk2 rfl <| lk1 rfl <| lk0) (src_boxM (s := 1) (.tail _ <| List.mem_append_right _ <| .head _) rfl (by simp [Value.oneCell'])) (by omega) (by omega) (.s <| .z) .more fun v168 R169 ho170 => ⟨fun _ _ => (fun _ h => h.drop (.cons _ <| List.sublist_append_of_sublist_right <| .cons _ <| .cons_cons _ <| .cons_cons _ <| .cons_cons _ <| .refl _)), ?_⟩)
          have ho3 := ho170.snoc (x := k) rfl rfl
          refine WX_freezeR (σ := ⟨_, _⟩) (by rfl) ho3 (.s <| .z) .more fun F171 hF172 hz173 => ?_
          replace hr := hr.mono hF172
          replace hl := hl.mono hF172
          replace ht := ht.mono hF172
          replace hG := hG.mono hF172
          have hn2 := ho3.sl (fun _ => rfl) hz173 (by simp only [List.length_append, List.length_singleton]; omega)
          refine WX_x 9 rfl (by kernel_rfl) rfl (x_call bd_89 lk_func (.cons (lk8 rfl <| lk1 rfl <| lk0) (.cons (lk4 rfl <| lk2 rfl <| lk1 rfl <| lk0) (.cons (lk0) .nil))) (ih hr (hl.from (k := 1) (by simp)) hn2 (by simp only [List.length_append, List.length_singleton]; omega)) fun v174 F175 hr176 hF177 => ⟨(fun h => nomatch h), ?_⟩)
          replace hr := hr.mono hF177
          replace hl := hl.mono hF177
          replace ht := ht.mono hF177
          replace hG := hG.mono hF177
          replace hn2 := hn2.mono hF177
          obtain ⟨is3, vs3, n3, rfl, hG2⟩ := hr176
          refine WX_x0 11 rfl (by kernel_rfl) (x_storeA sz_105 (lk2 rfl <| lk1 rfl <| lk0) (lk0) (i := 0) rfl rfl rfl rfl hG2.ones (.here) ⟨(fun h => nomatch h), ?_⟩)
          refine WX_order (.cons (.here) <| .cons (.next <| .here) <| .cons (.next <| .here) <| .cons (.next <| .here) <| .nil) ?_
          refine WX_done (by kernel_rfl) ?_ _
          refine then_n ⟨_, Off.eq (ou8 rfl <| ou2 rfl <| ou1 rfl <| off_refl), ?_⟩
          exact ⟨_, _, _, _, _, (lk2 rfl <| lk1 rfl <| lk0), hr, hl, ht, hG, hG2, rfl⟩
        ·
         refine WXop_x rfl rfl (x_alloc zr_105 rfl fun b178 hb178 nb178 => ⟨fun _ _ => (fun _ h => h.drop (.cons _ <| .cons _ <| .cons_cons _ <| .cons_cons _ <| .cons_cons _ <| .refl _)), ?_⟩)
         refine WX_x 3 rfl (by kernel_rfl) rfl (x_build sl_29 zr_3 rfl .nil rfl rfl (by decide) (by simp [Value.oneCell']) fun b179 hb179 nb179 => ⟨fun _ _ => (fun _ h => h.drop (.cons _ <| .cons _ <| .cons _ <| .cons_cons _ <| .cons_cons _ <| .cons_cons _ <| .refl _)), ?_⟩)
         refine WX_x 5 rfl (by kernel_rfl) rfl (x_append sl_29 el_3 (lk0) (own_box rfl) (lk4 rfl <| lk0) (ht.src (fun _ => rfl) natE_one) (by omega) (by omega) (.z) .box fun v180 R181 ho182 => ⟨fun _ _ => (fun _ h => h.drop (List.sublist_append_of_sublist_right <| .cons _ <| .cons _ <| .cons_cons _ <| .cons_cons _ <| .cons_cons _ <| .refl _)), ?_⟩)
         have ho2 : Own 3 1 v180 taken.length (taken.flatMap natE) R181 := by simpa using ho182
         refine WX_x 8 rfl (by kernel_rfl) rfl (x_append sl_29 el_3 (lk0) ho2 (lk2 rfl <| lk1 rfl <| lk0) (src_boxM (s := 1) (List.mem_append_right _ <| .tail _ <| .head _) rfl (by simp [Value.oneCell'])) (by omega) (by omega) (.z) .more fun v183 R184 ho185 => ⟨fun _ _ => (fun _ h => h.drop (List.sublist_append_of_sublist_right <| .cons _ <| .cons _ <| .cons_cons _ <| .cons_cons _ <| .cons_cons _ <| .refl _)), ?_⟩)
         have ho3 := ho185.snoc (x := k) rfl rfl
         refine WX_freezeR (σ := ⟨_, _⟩) (by rfl) ho3 (.z) .more fun F186 hF187 hz188 => ?_
         replace hr := hr.mono hF187
         replace hl := hl.mono hF187
         replace ht := ht.mono hF187
         replace hG := hG.mono hF187
         have hn2 := ho3.sl (fun _ => rfl) hz188 (by simp only [List.length_append, List.length_singleton]; omega)
         refine WX_x 9 rfl (by kernel_rfl) rfl (x_call bd_89 lk_func (.cons (lk8 rfl <| lk1 rfl <| lk0) (.cons (lk4 rfl <| lk2 rfl <| lk1 rfl <| lk0) (.cons (lk0) .nil))) (ih hr (hl.from (k := 1) (by simp)) hn2 (by simp only [List.length_append, List.length_singleton]; omega)) fun v189 F190 hr191 hF192 => ⟨(fun h => nomatch h), ?_⟩)
         replace hr := hr.mono hF192
         replace hl := hl.mono hF192
         replace ht := ht.mono hF192
         replace hG := hG.mono hF192
         replace hn2 := hn2.mono hF192
         obtain ⟨is3, vs3, n3, rfl, hG2⟩ := hr191
         refine WX_x0 11 rfl (by kernel_rfl) (x_storeA sz_105 (lk4 rfl <| lk0) (lk0) (i := 0) rfl rfl rfl rfl hG2.ones (.here) ⟨(fun h => nomatch h), ?_⟩)
         refine WX_order (.cons (.here) <| .cons (.next <| .here) <| .cons (.next <| .here) <| .cons (.next <| .here) <| .nil) ?_
         refine WX_done (by kernel_rfl) ?_ _
         refine then_n ⟨_, Off.eq (ou8 rfl <| ou2 rfl <| ou1 rfl <| off_refl), ?_⟩
         exact ⟨_, _, _, _, _, (lk4 rfl <| lk0), hr, hl, ht, hG, hG2, rfl⟩
       ·
        refine WXop_x rfl rfl (x_alloc zr_105 rfl fun b193 hb193 nb193 => ⟨fun _ _ => (fun _ h => h.drop (.cons _ <| .cons_cons _ <| .cons_cons _ <| .cons_cons _ <| .refl _)), ?_⟩)
        refine WX_pick [3, 7] (by kernel_rfl) (by decide) (in2 ?_ ?_)
        ·
         refine WXop_x rfl rfl (x_build sl_29 zr_3 rfl .nil rfl rfl (by decide) (by simp [Value.oneCell']) fun b194 hb194 nb194 => ⟨fun _ _ => (fun _ h => h.drop (.cons _ <| .cons _ <| .cons_cons _ <| .cons_cons _ <| .cons_cons _ <| .refl _)), ?_⟩)
         refine WX_pick [5, 7] (by kernel_rfl) (by decide) (in2 ?_ ?_)
         ·
          refine WXop_x rfl rfl (x_append sl_29 el_3 (lk0) (own_box rfl) (lk2 rfl <| lk1 rfl <| lk0) (ht.src (fun _ => rfl) natE_one) (by omega) (by omega) (.z) .box fun v195 R196 ho197 => ⟨fun _ _ => (fun _ h => h.drop (List.sublist_append_of_sublist_right <| .cons _ <| .cons_cons _ <| .cons_cons _ <| .cons_cons _ <| .refl _)), ?_⟩)
          have ho2 : Own 3 1 v195 taken.length (taken.flatMap natE) R196 := by simpa using ho197
          refine WX_x 7 rfl (by kernel_rfl) rfl (x_build sl_29 zr_3 rfl (.cons (lk2 rfl <| lk1 rfl <| lk0) .nil) rfl rfl (by decide) (by simp [Value.oneCell']) fun b198 hb198 nb198 => ⟨fun _ _ => (fun _ h => h.drop (.cons _ <| List.sublist_append_of_sublist_right <| .cons _ <| .cons_cons _ <| .cons_cons _ <| .cons_cons _ <| .refl _)), ?_⟩)
          refine WX_x 8 rfl (by kernel_rfl) rfl (x_append sl_29 el_3 (lk1 rfl <| lk0) ho2 (lk0) (src_box (s := 1) 0 rfl rfl (by simp [Value.oneCell'])) (by omega) (by omega) (.s <| .z) .more fun v199 R200 ho201 => ⟨fun _ _ => (fun _ h => h.drop (.cons _ <| List.sublist_append_of_sublist_right <| .cons _ <| .cons_cons _ <| .cons_cons _ <| .cons_cons _ <| .refl _)), ?_⟩)
          have ho3 := ho201.snoc (x := k) rfl rfl
          refine WX_freezeR (σ := ⟨_, _⟩) (by rfl) ho3 (.s <| .z) .more fun F202 hF203 hz204 => ?_
          replace hr := hr.mono hF203
          replace hl := hl.mono hF203
          replace ht := ht.mono hF203
          replace hG := hG.mono hF203
          have hn2 := ho3.sl (fun _ => rfl) hz204 (by simp only [List.length_append, List.length_singleton]; omega)
          refine WX_x 9 rfl (by kernel_rfl) rfl (x_call bd_89 lk_func (.cons (lk8 rfl <| lk1 rfl <| lk0) (.cons (lk4 rfl <| lk2 rfl <| lk1 rfl <| lk0) (.cons (lk0) .nil))) (ih hr (hl.from (k := 1) (by simp)) hn2 (by simp only [List.length_append, List.length_singleton]; omega)) fun v205 F206 hr207 hF208 => ⟨(fun h => nomatch h), ?_⟩)
          replace hr := hr.mono hF208
          replace hl := hl.mono hF208
          replace ht := ht.mono hF208
          replace hG := hG.mono hF208
          replace hn2 := hn2.mono hF208
          obtain ⟨is3, vs3, n3, rfl, hG2⟩ := hr207
          refine WX_x0 11 rfl (by kernel_rfl) (x_storeA sz_105 (lk4 rfl <| lk1 rfl <| lk0) (lk0) (i := 1) rfl rfl rfl rfl hG2.ones (.next <| .here) ⟨(fun h => nomatch h), ?_⟩)
          refine WX_order (.cons (.next <| .here) <| .cons (.next <| .here) <| .cons (.next <| .here) <| .cons (.next <| .here) <| .nil) ?_
          refine WX_done (by kernel_rfl) ?_ _
          refine then_n ⟨_, Off.eq (ou8 rfl <| ou2 rfl <| ou1 rfl <| off_refl), ?_⟩
          exact ⟨_, _, _, _, _, (lk4 rfl <| lk1 rfl <| lk0), hr, hl, ht, hG, hG2, rfl⟩
         ·
          refine WXop_x rfl rfl (x_build sl_29 zr_3 rfl (.cons (lk2 rfl <| lk0) .nil) rfl rfl (by decide) (by simp [Value.oneCell']) fun b209 hb209 nb209 => ⟨fun _ _ => (fun _ h => h.drop (.cons _ <| .cons _ <| .cons _ <| .cons_cons _ <| .cons_cons _ <| .cons_cons _ <| .refl _)), ?_⟩)
          refine WX_x 5 rfl (by kernel_rfl) rfl (x_append sl_29 el_3 (lk1 rfl <| lk0) (own_box rfl) (lk4 rfl <| lk0) (ht.src (fun _ => rfl) natE_one) (by omega) (by omega) (.s <| .z) .box fun v210 R211 ho212 => ⟨fun _ _ => (fun _ h => h.drop (.cons _ <| List.sublist_append_of_sublist_right <| .cons _ <| .cons_cons _ <| .cons_cons _ <| .cons_cons _ <| .refl _)), ?_⟩)
          have ho2 : Own 3 1 v210 taken.length (taken.flatMap natE) R211 := by simpa using ho212
          refine WX_x 8 rfl (by kernel_rfl) rfl (x_append sl_29 el_3 (lk0) ho2 (lk1 rfl <| lk0) (src_box (s := 1) 0 rfl rfl (by simp [Value.oneCell'])) (by omega) (by omega) (.s <| .z) .more fun v213 R214 ho215 => ⟨fun _ _ => (fun _ h => h.drop (.cons _ <| List.sublist_append_of_sublist_right <| .cons _ <| .cons_cons _ <| .cons_cons _ <| .cons_cons _ <| .refl _)), ?_⟩)
          have ho3 := ho215.snoc (x := k) rfl rfl
          refine WX_freezeR (σ := ⟨_, _⟩) (by rfl) ho3 (.s <| .z) .more fun F216 hF217 hz218 => ?_
          replace hr := hr.mono hF217
          replace hl := hl.mono hF217
          replace ht := ht.mono hF217
          replace hG := hG.mono hF217
          have hn2 := ho3.sl (fun _ => rfl) hz218 (by simp only [List.length_append, List.length_singleton]; omega)
          refine WX_x 9 rfl (by kernel_rfl) rfl (x_call bd_89 lk_func (.cons (lk8 rfl <| lk1 rfl <| lk0) (.cons (lk4 rfl <| lk2 rfl <| lk1 rfl <| lk0) (.cons (lk0) .nil))) (ih hr (hl.from (k := 1) (by simp)) hn2 (by simp only [List.length_append, List.length_singleton]; omega)) fun v219 F220 hr221 hF222 => ⟨(fun h => nomatch h), ?_⟩)
          replace hr := hr.mono hF222
          replace hl := hl.mono hF222
          replace ht := ht.mono hF222
          replace hG := hG.mono hF222
          replace hn2 := hn2.mono hF222
          obtain ⟨is3, vs3, n3, rfl, hG2⟩ := hr221
          refine WX_x0 11 rfl (by kernel_rfl) (x_storeA sz_105 (lk4 rfl <| lk1 rfl <| lk0) (lk0) (i := 1) rfl rfl rfl rfl hG2.ones (.next <| .here) ⟨(fun h => nomatch h), ?_⟩)
          refine WX_order (.cons (.next <| .here) <| .cons (.next <| .here) <| .cons (.next <| .here) <| .cons (.next <| .here) <| .nil) ?_
          refine WX_done (by kernel_rfl) ?_ _
          refine then_n ⟨_, Off.eq (ou8 rfl <| ou2 rfl <| ou1 rfl <| off_refl), ?_⟩
          exact ⟨_, _, _, _, _, (lk4 rfl <| lk1 rfl <| lk0), hr, hl, ht, hG, hG2, rfl⟩
        ·
         refine WXop_x rfl rfl (x_build sl_29 zr_3 rfl (.cons (lk1 rfl <| lk0) .nil) rfl rfl (by decide) (by simp [Value.oneCell']) fun b223 hb223 nb223 => ⟨fun _ _ => (fun _ h => h.drop (.cons _ <| .cons _ <| .cons_cons _ <| .cons_cons _ <| .cons_cons _ <| .refl _)), ?_⟩)
         refine WX_x 3 rfl (by kernel_rfl) rfl (x_build sl_29 zr_3 rfl .nil rfl rfl (by decide) (by simp [Value.oneCell']) fun b224 hb224 nb224 => ⟨fun _ _ => (fun _ h => h.drop (.cons _ <| .cons _ <| .cons _ <| .cons_cons _ <| .cons_cons _ <| .cons_cons _ <| .refl _)), ?_⟩)
         refine WX_x 5 rfl (by kernel_rfl) rfl (x_append sl_29 el_3 (lk0) (own_box rfl) (lk4 rfl <| lk0) (ht.src (fun _ => rfl) natE_one) (by omega) (by omega) (.z) .box fun v225 R226 ho227 => ⟨fun _ _ => (fun _ h => h.drop (List.sublist_append_of_sublist_right <| .cons _ <| .cons _ <| .cons_cons _ <| .cons_cons _ <| .cons_cons _ <| .refl _)), ?_⟩)
         have ho2 : Own 3 1 v225 taken.length (taken.flatMap natE) R226 := by simpa using ho227
         refine WX_x 8 rfl (by kernel_rfl) rfl (x_append sl_29 el_3 (lk0) ho2 (lk2 rfl <| lk0) (src_boxM (s := 1) (List.mem_append_right _ <| .head _) rfl (by simp [Value.oneCell'])) (by omega) (by omega) (.z) .more fun v228 R229 ho230 => ⟨fun _ _ => (fun _ h => h.drop (List.sublist_append_of_sublist_right <| .cons _ <| .cons _ <| .cons_cons _ <| .cons_cons _ <| .cons_cons _ <| .refl _)), ?_⟩)
         have ho3 := ho230.snoc (x := k) rfl rfl
         refine WX_freezeR (σ := ⟨_, _⟩) (by rfl) ho3 (.z) .more fun F231 hF232 hz233 => ?_
         replace hr := hr.mono hF232
         replace hl := hl.mono hF232
         replace ht := ht.mono hF232
         replace hG := hG.mono hF232
         have hn2 := ho3.sl (fun _ => rfl) hz233 (by simp only [List.length_append, List.length_singleton]; omega)
         refine WX_x 9 rfl (by kernel_rfl) rfl (x_call bd_89 lk_func (.cons (lk8 rfl <| lk1 rfl <| lk0) (.cons (lk4 rfl <| lk2 rfl <| lk1 rfl <| lk0) (.cons (lk0) .nil))) (ih hr (hl.from (k := 1) (by simp)) hn2 (by simp only [List.length_append, List.length_singleton]; omega)) fun v234 F235 hr236 hF237 => ⟨(fun h => nomatch h), ?_⟩)
         replace hr := hr.mono hF237
         replace hl := hl.mono hF237
         replace ht := ht.mono hF237
         replace hG := hG.mono hF237
         replace hn2 := hn2.mono hF237
         obtain ⟨is3, vs3, n3, rfl, hG2⟩ := hr236
         refine WX_x0 11 rfl (by kernel_rfl) (x_storeA sz_105 (lk4 rfl <| lk1 rfl <| lk0) (lk0) (i := 1) rfl rfl rfl rfl hG2.ones (.next <| .here) ⟨(fun h => nomatch h), ?_⟩)
         refine WX_order (.cons (.next <| .here) <| .cons (.next <| .here) <| .cons (.next <| .here) <| .cons (.next <| .here) <| .nil) ?_
         refine WX_done (by kernel_rfl) ?_ _
         refine then_n ⟨_, Off.eq (ou8 rfl <| ou2 rfl <| ou1 rfl <| off_refl), ?_⟩
         exact ⟨_, _, _, _, _, (lk4 rfl <| lk1 rfl <| lk0), hr, hl, ht, hG, hG2, rfl⟩
      rintro e3 _ ⟨G2, p9, is3, vs3, n3, hc9, hr, hl, ht, hG, hG2, rfl⟩
      have hbd := hG2.bound (good_give hv rest (fun i hi => hlt2 i (List.mem_cons_of_mem _ hi)) (taken ++ [k]))
      have hlb := light_bound hv (hlt2 q (by simp)) hk
      rcases hsub : giveR r rest (taken ++ [k]) with _ | ⟨l2, m2⟩
      ·
       have e3t : is3 = false := by rw [hG2.is_, hsub]; rfl
       refine WC_seq ?_
       refine WC_draw (.inl rfl) (fun _ _ h => h) (by kernel_rfl) (by kernel_rfl) fun ds => ?_
       refine WQ_q rfl (q_fieldAddrB fd_105_2 (lk_in rfl hc9)) ?_
       refine WQ_q rfl (q_load1 one_3 (lk0) (Cell.own 0 rfl rfl)) ?_
       refine WQ_q rfl (q_loadN agg_27 (lk2 rfl <| lk_off rfl <| lk16 rfl <| lk1 rfl <| lk_off rfl <| lk4 rfl <| lk2 rfl <| lk0) rfl rfl (own_whole 3 rfl)) ?_
       refine WQ_q rfl (q_move (lk2 rfl <| lk1 rfl <| lk_off rfl <| lk16 rfl <| lk1 rfl <| lk_off rfl <| lk4 rfl <| lk2 rfl <| lk1 rfl <| lk_entry rfl)) ?_
       refine WQ_q rfl (q_index (k := 0) sl_29 (lk0) hl.plain lk_const rfl (by simp)) ?_
       refine WQ_q rfl (q_load1 one_3 (lk0) (hl.cell1 (by simp) rfl)) ?_
       refine WQ_q rfl (q_move (lk4 rfl <| lk2 rfl <| lk_off rfl <| lk16 rfl <| lk1 rfl <| lk_in rfl hs8)) ?_
       refine WQ_c rfl (q_call bd_65 lk_func (.cons (lk4 rfl <| lk0) (.cons (lk1 rfl <| lk0) (.cons (lk0) .nil))) (refLight_ok (i := q) hr hv (hlt2 q (by simp)) hk) (fun _ _ h => h)) ?_
       refine WQ_q rfl (q_add (lk4 rfl <| lk2 rfl <| lk0) (lk0) rfl (by omega) (by omega)) ?_
       refine WQ_q rfl (q_assign (lk0)) ?_
       refine WQ_nil ?_
       refine then_n ?_
       refine WC_seq ?_
       refine WC_reg fun ds => ?_
       refine WL_q rfl (q_fieldAddrB fd_105_0 (lk8 rfl <| lk2 rfl <| lk_in rfl hc9)) ?_
       refine WL_q rfl (q_load1 one_4 (lk0) (Cell.own 0 rfl rfl)) ?_
       refine WL_q rfl (q_move (lk0)) ?_
       refine WL_pass rfl rfl (lk0) (.inl (congrArg Value.bool e3t)) rfl ?_
       refine WL_pass rfl rfl (lk1 rfl <| lk0) (.inl (congrArg Value.bool e3t)) rfl ?_
       refine WL_pass rfl rfl (lk2 rfl <| lk0) (.inl (congrArg Value.bool e3t)) rfl ?_
       refine WL_pass rfl rfl (lk2 rfl <| lk1 rfl <| lk0) (.inl (congrArg Value.bool e3t)) rfl ?_
       refine WL_pass rfl rfl (lk0) (.inr rfl) rfl ?_
       refine WL_pass rfl rfl (lk1 rfl <| lk0) (.inr rfl) rfl ?_
       refine WL_pass rfl rfl (lk2 rfl <| lk0) (.inr rfl) rfl ?_
       refine WL_pass rfl rfl (lk2 rfl <| lk1 rfl <| lk0) (.inr rfl) rfl ?_
       refine WL_pass rfl rfl (lk8 rfl <| lk0) (.inl (congrArg Value.bool e3t)) rfl ?_
       refine WL_q rfl (q_pick_false (lk8 rfl <| lk1 rfl <| lk0) e3t lk_const) ?_
       refine WL_nil ?_
       refine then_n ?_
       refine WC_if_false (lk0) rfl ?_
       refine WC_skip ?_
       refine block_n (then_n ?_)
       refine WC_imp (fun _ _ h => h.drop (.cons _ <| .cons_cons _ <| .cons_cons _ <| .cons_cons _ <| .refl _)) ?_
       refine WC_reg fun ds => ?_
       refine WL_q rfl (q_move (lk16 rfl <| lk4 rfl <| lk2 rfl <| lk1 rfl <| lk_off rfl <| lk16 rfl <| lk1 rfl <| lk_in rfl hs8)) ?_
       refine WL_q rfl (q_add (lk0) lk_const rfl (by omega) (by omega)) ?_
       refine WL_q rfl (q_assign (lk0)) ?_
       refine WL_nil ?_
       refine then_n ⟨_, m - 1, Off.eq (ou16 rfl <| ou8 rfl <| ou2 rfl <| off_in rfl <| ou16 rfl <| ou1 rfl <| off_over), by omega, ?_⟩
       refine ⟨_, hr, hl, ht, k + 1, by omega, (lk0), is, vs2, n, ?_, rfl⟩
       rw [fold_succ, step_none hsub]; exact hG
      ·
       have e3t : is3 = true := by rw [hG2.is_, hsub]; rfl
       have hl2 := (good_give hv rest (fun i hi => hlt2 i (List.mem_cons_of_mem _ hi)) (taken ++ [k]) l2 m2 hsub).1
       obtain ⟨rfl, hs3⟩ := hG2.so _ _ hsub
       refine WC_seq ?_
       refine WC_draw (.inl rfl) (fun _ _ h => h) (by kernel_rfl) (by kernel_rfl) fun ds => ?_
       refine WQ_q rfl (q_fieldAddrB fd_105_2 (lk_in rfl hc9)) ?_
       refine WQ_q rfl (q_load1 one_3 (lk0) (Cell.own 0 rfl rfl)) ?_
       refine WQ_q rfl (q_loadN agg_27 (lk2 rfl <| lk_off rfl <| lk16 rfl <| lk1 rfl <| lk_off rfl <| lk4 rfl <| lk2 rfl <| lk0) rfl rfl (own_whole 3 rfl)) ?_
       refine WQ_q rfl (q_move (lk2 rfl <| lk1 rfl <| lk_off rfl <| lk16 rfl <| lk1 rfl <| lk_off rfl <| lk4 rfl <| lk2 rfl <| lk1 rfl <| lk_entry rfl)) ?_
       refine WQ_q rfl (q_index (k := 0) sl_29 (lk0) hl.plain lk_const rfl (by simp)) ?_
       refine WQ_q rfl (q_load1 one_3 (lk0) (hl.cell1 (by simp) rfl)) ?_
       refine WQ_q rfl (q_move (lk4 rfl <| lk2 rfl <| lk_off rfl <| lk16 rfl <| lk1 rfl <| lk_in rfl hs8)) ?_
       refine WQ_c rfl (q_call bd_65 lk_func (.cons (lk4 rfl <| lk0) (.cons (lk1 rfl <| lk0) (.cons (lk0) .nil))) (refLight_ok (i := q) hr hv (hlt2 q (by simp)) hk) (fun _ _ h => h)) ?_
       refine WQ_q rfl (q_add (lk4 rfl <| lk2 rfl <| lk0) (lk0) rfl (by omega) (by omega)) ?_
       refine WQ_q rfl (q_assign (lk0)) ?_
       refine WQ_nil ?_
       refine then_n ?_
       refine WC_seq ?_
       refine WC_reg fun ds => ?_
       refine WL_q rfl (q_fieldAddrB fd_105_0 (lk8 rfl <| lk2 rfl <| lk_in rfl hc9)) ?_
       refine WL_q rfl (q_load1 one_4 (lk0) (Cell.own 0 rfl rfl)) ?_
       refine WL_q rfl (q_move (lk0)) ?_
       refine WL_want rfl rfl (lk0) e3t ?_
       refine WL_q rfl (q_fieldAddrB fd_105_0 (lk8 rfl <| lk4 rfl <| lk1 rfl <| lk_off rfl <| lk16 rfl <| lk1 rfl <| lk_off rfl <| lk1 rfl <| lk0)) ?_
       refine WL_want rfl rfl (lk1 rfl <| lk0) e3t ?_
       refine WL_q rfl (q_load1 one_4 (lk0) (Cell.own 1 rfl rfl)) ?_
       refine WL_want rfl rfl (lk2 rfl <| lk0) e3t ?_
       refine WL_q rfl (q_not (lk0)) ?_
       refine WL_want rfl rfl (lk2 rfl <| lk1 rfl <| lk0) e3t ?_
       refine WL_q rfl (q_move (lk0)) ?_
       rcases hbest : ((List.range k).foldl (step r q taken (giveR r rest)) none) with _ | ⟨lb, mb⟩
       ·
        have e2t : is = false := by rw [hG.is_, hbest]; rfl
        refine WL_pass rfl rfl (lk0) (.inl (congrArg Value.bool (by first | rfl | (rw [e2t]; done) | (rw [e2t]; rfl)))) rfl ?_
        refine WL_pass rfl rfl (lk1 rfl <| lk0) (.inl (congrArg Value.bool (by first | rfl | (rw [e2t]; done) | (rw [e2t]; rfl)))) rfl ?_
        refine WL_pass rfl rfl (lk2 rfl <| lk0) (.inl (congrArg Value.bool (by first | rfl | (rw [e2t]; done) | (rw [e2t]; rfl)))) rfl ?_
        refine WL_pass rfl rfl (lk2 rfl <| lk1 rfl <| lk0) (.inl (congrArg Value.bool (by first | rfl | (rw [e2t]; done) | (rw [e2t]; rfl)))) rfl ?_
        refine WL_want rfl rfl (lk8 rfl <| lk0) e3t ?_
        refine WL_q rfl (q_pick_true (lk4 rfl <| lk0) (by first | rfl | (rw [e2t]; done) | (rw [e2t]; rfl)) lk_const) ?_
        refine WL_q rfl (q_pick_true (lk8 rfl <| lk1 rfl <| lk0) e3t (lk0)) ?_
        refine WL_nil ?_
        refine then_n ?_
        refine WC_if_true (lk0) (by first | rfl | (rw [e2t]; done) | (rw [e2t]; rfl)) ?_
        refine WC_reg fun ds => ?_
        refine WL_q rfl (q_move (lk16 rfl <| lk4 rfl <| lk2 rfl <| lk1 rfl <| lk_off rfl <| lk16 rfl <| lk1 rfl <| lk_in rfl hs8)) ?_
        refine WL_x rfl (x_build sl_29 zr_3 rfl (.cons (lk0) .nil) rfl rfl (by decide) (by simp [Value.oneCell']) fun b238 hb238 nb238 => ?_)
        refine WL_q rfl (q_fieldAddrB fd_105_1 (lk16 rfl <| lk8 rfl <| lk1 rfl <| lk_in rfl hc9)) ?_
        refine WL_q rfl (q_load1 one_29 (lk0) (Cell.own 1 rfl rfl)) ?_
        refine WL_x rfl (x_append sl_29 el_3 (lk2 rfl <| lk0) (own_box rfl) (lk0) (hs3.src (fun _ => rfl) natE_one) (by omega) (by omega) (.z) .box fun v239 R240 ho241 => ?_)
        have ho4 : Own 3 1 v239 (k :: l2).length ((k :: l2).flatMap natE) R240 := by simpa [natE, Nat.add_comm] using ho241
        refine WL_q rfl (q_move (lk16 rfl <| lk2 rfl <| lk0)) ?_
        refine WL_q rfl (q_build bt_105 (.cons lk_const rfl (.cons (lk1 rfl <| lk0) (cells_one (Own.one ho4)) (.cons (lk0) rfl .nil))) (.cons rfl rfl (Nat.le_of_ble_eq_true rfl) (.cons (.here) .nil) (.cons rfl rfl (Nat.le_of_ble_eq_true rfl) (.cons (.next <| .here) .nil) (.cons rfl rfl (Nat.le_of_ble_eq_true rfl) (.cons (.next <| .next <| .here) .nil) .nil)))) ?_
        refine WL_freezeR (σ := ⟨_, _⟩) (by rfl) ho4 (.z) .more fun F242 hF243 hz244 => ?_
        replace hr := hr.mono hF243
        replace hl := hl.mono hF243
        replace ht := ht.mono hF243
        replace hG := hG.mono hF243
        replace hG2 := hG2.mono hF243
        replace hs3 := hs3.mono hF243
        have hn3 := ho4.sl (fun _ => rfl) hz244 (by simp only [List.length_cons]; omega)
        refine WL_x0 (x_storeA sz_105 (lk16 rfl <| lk8 rfl <| lk4 rfl <| lk2 rfl <| lk_off rfl <| lk16 rfl <| lk1 rfl <| lk_off rfl <| lk1 rfl <| lk0) (lk0) (i := 1) rfl rfl rfl rfl (ones3 (Own.one ho4)) (.next <| .here) ?_)
        refine WL_nil ?_
        refine block_n (then_n ?_)
        refine WC_imp (fun _ _ h => h.drop (.cons _ <| .cons_cons _ <| .cons_cons _ <| .cons_cons _ <| .refl _)) ?_
        refine WC_reg fun ds => ?_
        refine WL_q rfl (q_move (lk16 rfl <| lk8 rfl <| lk4 rfl <| lk2 rfl <| lk_off rfl <| lk16 rfl <| lk1 rfl <| lk_in rfl hs8)) ?_
        refine WL_q rfl (q_add (lk0) lk_const rfl (by omega) (by omega)) ?_
        refine WL_q rfl (q_assign (lk0)) ?_
        refine WL_nil ?_
        refine then_n ⟨_, m - 1, Off.eq (ou32 rfl <| ou1 rfl <| off_in rfl <| ou16 rfl <| ou1 rfl <| off_over), by omega, ?_⟩
        refine ⟨_, hr, hl, ht, k + 1, by omega, (lk0), true, _, _, ?_, rfl⟩
        rw [fold_succ, hbest, step_first hm hrs hsub]
        exact GivenC.some hn3
       ·
        have e2t : is = true := by rw [hG.is_, hbest]; rfl
        obtain ⟨rfl, hs2⟩ := hG.so _ _ hbest
        refine WL_want rfl rfl (lk0) (by first | rfl | (rw [e2t]; done) | (rw [e2t]; rfl)) ?_
        refine WL_q rfl (q_move (lk4 rfl <| lk2 rfl <| lk1 rfl <| lk0)) ?_
        refine WL_want rfl rfl (lk1 rfl <| lk0) (by first | rfl | (rw [e2t]; done) | (rw [e2t]; rfl)) ?_
        refine WL_q rfl (q_fieldAddrB fd_105_2 (lk16 rfl <| lk2 rfl <| lk_off rfl <| lk16 rfl <| lk1 rfl <| lk_off rfl <| lk1 rfl <| lk0)) ?_
        refine WL_want rfl rfl (lk2 rfl <| lk0) (by first | rfl | (rw [e2t]; done) | (rw [e2t]; rfl)) ?_
        refine WL_q rfl (q_load1 one_3 (lk0) (Cell.own 1 rfl rfl)) ?_
        refine WL_want rfl rfl (lk2 rfl <| lk1 rfl <| lk0) (by first | rfl | (rw [e2t]; done) | (rw [e2t]; rfl)) ?_
        refine WL_q rfl (q_lss (lk2 rfl <| lk0) (lk0)) ?_
        refine WL_want rfl rfl (lk8 rfl <| lk0) e3t ?_
        refine WL_q rfl (q_pick_false (lk4 rfl <| lk0) (by first | rfl | (rw [e2t]; done) | (rw [e2t]; rfl)) (lk0)) ?_
        refine WL_q rfl (q_pick_true (lk8 rfl <| lk1 rfl <| lk0) e3t (lk0)) ?_
        refine WL_nil ?_
        refine then_n ?_
        by_cases hlt3 : n3 + light r q k < n
        ·
         refine WC_if_true (lk0) (decide_eq_true hlt3) ?_
         refine WC_reg fun ds => ?_
         refine WL_q rfl (q_move (lk16 rfl <| lk4 rfl <| lk2 rfl <| lk1 rfl <| lk_off rfl <| lk16 rfl <| lk1 rfl <| lk_in rfl hs8)) ?_
         refine WL_x rfl (x_build sl_29 zr_3 rfl (.cons (lk0) .nil) rfl rfl (by decide) (by simp [Value.oneCell']) fun b245 hb245 nb245 => ?_)
         refine WL_q rfl (q_fieldAddrB fd_105_1 (lk16 rfl <| lk8 rfl <| lk1 rfl <| lk_in rfl hc9)) ?_
         refine WL_q rfl (q_load1 one_29 (lk0) (Cell.own 1 rfl rfl)) ?_
         refine WL_x rfl (x_append sl_29 el_3 (lk2 rfl <| lk0) (own_box rfl) (lk0) (hs3.src (fun _ => rfl) natE_one) (by omega) (by omega) (.z) .box fun v246 R247 ho248 => ?_)
         have ho4 : Own 3 1 v246 (k :: l2).length ((k :: l2).flatMap natE) R247 := by simpa [natE, Nat.add_comm] using ho248
         refine WL_q rfl (q_move (lk16 rfl <| lk2 rfl <| lk0)) ?_
         refine WL_q rfl (q_build bt_105 (.cons lk_const rfl (.cons (lk1 rfl <| lk0) (cells_one (Own.one ho4)) (.cons (lk0) rfl .nil))) (.cons rfl rfl (Nat.le_of_ble_eq_true rfl) (.cons (.here) .nil) (.cons rfl rfl (Nat.le_of_ble_eq_true rfl) (.cons (.next <| .here) .nil) (.cons rfl rfl (Nat.le_of_ble_eq_true rfl) (.cons (.next <| .next <| .here) .nil) .nil)))) ?_
         refine WL_freezeR (σ := ⟨_, _⟩) (by rfl) ho4 (.z) .more fun F249 hF250 hz251 => ?_
         replace hr := hr.mono hF250
         replace hl := hl.mono hF250
         replace ht := ht.mono hF250
         replace hG := hG.mono hF250
         replace hG2 := hG2.mono hF250
         replace hs3 := hs3.mono hF250
         have hn3 := ho4.sl (fun _ => rfl) hz251 (by simp only [List.length_cons]; omega)
         refine WL_x0 (x_storeA sz_105 (lk16 rfl <| lk8 rfl <| lk4 rfl <| lk2 rfl <| lk_off rfl <| lk16 rfl <| lk1 rfl <| lk_off rfl <| lk1 rfl <| lk0) (lk0) (i := 1) rfl rfl rfl rfl (ones3 (Own.one ho4)) (.next <| .here) ?_)
         refine WL_nil ?_
         refine block_n (then_n ?_)
         refine WC_imp (fun _ _ h => h.drop (.cons _ <| .cons_cons _ <| .cons_cons _ <| .cons_cons _ <| .refl _)) ?_
         refine WC_reg fun ds => ?_
         refine WL_q rfl (q_move (lk16 rfl <| lk8 rfl <| lk4 rfl <| lk2 rfl <| lk_off rfl <| lk16 rfl <| lk1 rfl <| lk_in rfl hs8)) ?_
         refine WL_q rfl (q_add (lk0) lk_const rfl (by omega) (by omega)) ?_
         refine WL_q rfl (q_assign (lk0)) ?_
         refine WL_nil ?_
         refine then_n ⟨_, m - 1, Off.eq (ou32 rfl <| ou1 rfl <| off_in rfl <| ou16 rfl <| ou1 rfl <| off_over), by omega, ?_⟩
         refine ⟨_, hr, hl, ht, k + 1, by omega, (lk0), true, _, _, ?_, rfl⟩
         rw [fold_succ, hbest, step_less hm hrs hsub hlt3]
         exact GivenC.some hn3
        ·
         refine WC_if_false (lk0) (decide_eq_false hlt3) ?_
         refine WC_skip ?_
         refine block_n (then_n ?_)
         refine WC_imp (fun _ _ h => h.drop (.cons _ <| .cons_cons _ <| .cons_cons _ <| .cons_cons _ <| .refl _)) ?_
         refine WC_reg fun ds => ?_
         refine WL_q rfl (q_move (lk16 rfl <| lk4 rfl <| lk2 rfl <| lk1 rfl <| lk_off rfl <| lk16 rfl <| lk1 rfl <| lk_in rfl hs8)) ?_
         refine WL_q rfl (q_add (lk0) lk_const rfl (by omega) (by omega)) ?_
         refine WL_q rfl (q_assign (lk0)) ?_
         refine WL_nil ?_
         refine then_n ⟨_, m - 1, Off.eq (ou16 rfl <| ou8 rfl <| ou2 rfl <| off_in rfl <| ou16 rfl <| ou1 rfl <| off_over), by omega, ?_⟩
         refine ⟨_, hr, hl, ht, k + 1, by omega, (lk0), is, vs2, n, ?_, rfl⟩
         rw [fold_succ, hbest, step_more hm hrs hsub hlt3]; rw [hbest] at hG; exact hG
   ·
    refine WC_seq ?_
    refine WC_seq ?_
    refine WC_reg fun ds => ?_
    refine WL_q rfl (q_move (lk_in rfl hs8)) ?_
    refine WL_q rfl (q_fieldAddrB fd_27_2 (lk1 rfl <| lk_off rfl <| lk4 rfl <| lk2 rfl <| lk0)) ?_
    refine WL_q rfl (q_load1 one_24 (lk0) (Cell.own 2 rfl rfl)) ?_
    refine WL_q rfl (q_lenP sl_24 (lk0) hr.seats.plain) ?_
    refine WL_q rfl (q_lss (lk2 rfl <| lk1 rfl <| lk0) (lk0)) ?_
    refine WL_nil ?_
    refine then_n ?_
    refine WC_if_false (lk0) (by first | rfl | exact decide_eq_false (by omega)) ?_
    obtain rfl : k = r.seats.length := by omega
    refine WC_exit ?_
    refine then_x (then_x (exit_here ?_))
    refine then_n ?_
    refine WC_seq ?_
    refine WC_reg fun ds => ?_
    refine WL_q rfl (q_loadN agg_105 (lk4 rfl <| lk1 rfl <| lk_off rfl <| lk1 rfl <| lk0) rfl rfl (own_whole 0 rfl)) ?_
    refine WL_x0 (x_storeA sz_105 (lk4 rfl <| lk2 rfl <| lk_off rfl <| lk4 rfl <| lk1 rfl <| lk0) (lk0) (i := 1) rfl rfl rfl rfl hG.ones (.next <| .here) ?_)
    refine WL_nil ?_
    refine then_n ?_
    refine WC_ret ?_
    refine post_ret rfl (.agg agg_105 (lk4 rfl <| lk2 rfl <| lk_off rfl <| lk4 rfl <| lk1 rfl <| lk0) rfl rfl (own_whole 1 rfl) .nil) ?_
    exact ⟨_, _, _, rfl, hG⟩
end Go.Proofs.Ytbcjfkcpfjccdaa
namespace Go.Proofs.Ytbcjfkcpfjccdaa
open Go.RowKit
theorem bd_88 : Body Try.prog 88 := body_of (by kernel_rfl)
set_option maxRecDepth 100000 in
theorem give_nil {F : Heap} {vb vr vs vq : Value} {r : Room} (hr : RoomR F vb vr vs vq r) {vl vt : Value} {taken : List Nat} (hl : Nats F vl []) : Ok Try.prog 89 [.agg #[vb, vr, vs, vq], vl, vt].toArray F fun u G' => ∃ is vs n, u = .agg #[.bool is, vs, .int .i64 n] ∧ GivenC G' (giveR r [] taken) is vs n := by
  refine Ok.intro Try.func89 rfl Try.ntmps89 rfl fun w0 => ?_
  refine WC_seq ?_
  refine WC_reg fun ds => ?_
  refine WL_x rfl (x_box (lk_entry rfl) rfl fun b1 hb1 nb1 => ?_)
  refine WL_x rfl (x_alloc zr_105 rfl fun b2 hb2 nb2 => ?_)
  refine WL_nil ?_
  refine then_n ?_
  refine WC_seq ?_
  refine WC_seq ?_
  refine WC_reg fun ds => ?_
  refine WL_q rfl (q_move (lk2 rfl <| lk_entry rfl)) ?_
  refine WL_q rfl (q_lenP sl_29 (lk0) hl.plain) ?_
  refine WL_q rfl (q_eql (lk0) lk_const) ?_
  refine WL_nil ?_
  refine then_n ?_
  refine WC_if_true (lk0) (decide_eq_true (by simp)) ?_
  refine WC_seq ?_
  refine WC_reg fun ds => ?_
  refine WL_q rfl (q_build bt_105 (.cons lk_const rfl .nil) (.cons rfl rfl (Nat.le_of_ble_eq_true rfl) (.cons (.here) .nil) .nil)) ?_
  refine WL_x0 (x_storeA sz_105 (lk4 rfl <| lk0) (lk0) (i := 0) rfl rfl rfl rfl (by simp [Value.oneCell']) (.here) ?_)
  refine WL_nil ?_
  refine then_n ?_
  refine WC_ret ?_
  refine then_r ?_
  refine post_ret rfl (.agg agg_105 (lk4 rfl <| lk0) rfl rfl (own_whole 0 rfl) .nil) ?_
  exact ⟨true, .slice none 0 0, 0, rfl, GivenC.some Sl.nil⟩
theorem refGive_ok {vb vr vs vq : Value} {r : Room} (hv : Valid r) : ∀ (l : List Nat) {F : Heap} {vl vt : Value} {taken : List Nat}, (∀ i ∈ l, i < r.reqs.length) → RoomR F vb vr vs vq r → Nats F vl l → Nats F vt taken → taken.length + l.length ≤ 1000 →
    Ok Try.prog 89 [.agg #[vb, vr, vs, vq], vl, vt].toArray F fun u G' => ∃ is vs n, u = .agg #[.bool is, vs, .int .i64 n] ∧ GivenC G' (giveR r l taken) is vs n
  | [], F, vl, vt, taken, _, hr, hl, ht, _ => give_nil hr hl
  | q :: rest, F, vl, vt, taken, hlt, hr, hl, ht, hn => give_step hr hv hl ht hlt hn (fun g1 g2 g3 g4 => refGive_ok hv rest (fun i hi => hlt i (List.mem_cons_of_mem _ hi)) g1 g2 g3 g4)
set_option maxRecDepth 100000 in
theorem refAll_ok {F : Heap} {vb vr vs vq : Value} {r : Room} (hr : RoomR F vb vr vs vq r) (hv : Valid r) {v : Value} {l : List Nat} (hl : Nats F v l) (hlt2 : ∀ i ∈ l, i < r.reqs.length) (hn : l.length ≤ 1000) : Ok Try.prog 61 [.agg #[vb, vr, vs, vq], v].toArray F fun u G' => ∃ is vs n, u = .agg #[.bool is, vs, .int .i64 n] ∧ GivenC G' (allR r l) is vs n := by
  refine Ok.intro Try.func61 rfl Try.ntmps61 rfl fun w0 => ?_
  by_cases ha : Apart r l
  ·
   refine WC_seq ?_
   refine WC_reg fun ds => ?_
   refine WL_x rfl (x_box (lk_entry rfl) rfl fun b1 hb1 nb1 => ?_)
   refine WL_x rfl (x_alloc zr_105 rfl fun b2 hb2 nb2 => ?_)
   refine WL_nil ?_
   refine then_n ?_
   refine WC_seq ?_
   refine WC_seq ?_
   refine WC_reg fun ds => ?_
   refine WL_q rfl (q_loadN agg_27 (lk1 rfl <| lk0) rfl rfl (own_whole 1 rfl)) ?_
   refine WL_q rfl (q_move (lk2 rfl <| lk1 rfl <| lk_entry rfl)) ?_
   refine WL_c rfl (q_call bd_88 lk_func (.cons (lk1 rfl <| lk0) (.cons (lk0) .nil)) (refApart_ok hr hv hl hlt2) (fun _ _ h => h)) ?_
   refine WL_q rfl (q_not (lk0)) ?_
   refine WL_nil ?_
   refine then_n ?_
   refine WC_if_false (lk0) (by rw [decide_eq_true ha]; rfl) ?_
   refine WC_skip ?_
   refine then_n ?_
   refine WC_seq ?_
   refine WC_reg fun ds => ?_
   refine WL_q rfl (q_loadN agg_27 (lk4 rfl <| lk1 rfl <| lk0) rfl rfl (own_whole 1 rfl)) ?_
   refine WL_q rfl (q_move (lk4 rfl <| lk2 rfl <| lk1 rfl <| lk_entry rfl)) ?_
   refine WL_x rfl (x_call bd_89 lk_func (.cons (lk1 rfl <| lk0) (.cons (lk0) (.cons lk_const .nil))) (refGive_ok hv l hlt2 hr hl (Sl.nil) (by simpa using hn)) fun v3 F4 hr5 hF6 => ?_)
   replace hr := hr.mono hF6
   replace hl := hl.mono hF6
   obtain ⟨is, ws, n, rfl, hA⟩ := hr5
   refine WL_x0 (x_storeA sz_105 (lk4 rfl <| lk2 rfl <| lk1 rfl <| lk0) (lk0) (i := 0) rfl rfl rfl rfl hA.ones (.here) ?_)
   refine WL_nil ?_
   refine then_n ?_
   refine WC_ret ?_
   refine post_ret rfl (.agg agg_105 (lk4 rfl <| lk2 rfl <| lk1 rfl <| lk0) rfl rfl (own_whole 0 rfl) .nil) ?_
   refine ⟨_, _, _, rfl, ?_⟩
   unfold allR; rw [if_pos ha]; exact hA
  ·
   refine WC_seq ?_
   refine WC_reg fun ds => ?_
   refine WL_x rfl (x_box (lk_entry rfl) rfl fun b7 hb7 nb7 => ?_)
   refine WL_x rfl (x_alloc zr_105 rfl fun b8 hb8 nb8 => ?_)
   refine WL_nil ?_
   refine then_n ?_
   refine WC_seq ?_
   refine WC_seq ?_
   refine WC_reg fun ds => ?_
   refine WL_q rfl (q_loadN agg_27 (lk1 rfl <| lk0) rfl rfl (own_whole 1 rfl)) ?_
   refine WL_q rfl (q_move (lk2 rfl <| lk1 rfl <| lk_entry rfl)) ?_
   refine WL_c rfl (q_call bd_88 lk_func (.cons (lk1 rfl <| lk0) (.cons (lk0) .nil)) (refApart_ok hr hv hl hlt2) (fun _ _ h => h)) ?_
   refine WL_q rfl (q_not (lk0)) ?_
   refine WL_nil ?_
   refine then_n ?_
   refine WC_if_true (lk0) (by rw [decide_eq_false ha]; rfl) ?_
   refine WC_seq ?_
   refine WC_reg fun ds => ?_
   refine WL_q rfl (q_build bt_105 .nil .nil) ?_
   refine WL_x0 (x_storeA sz_105 (lk4 rfl <| lk1 rfl <| lk0) (lk0) (i := 0) rfl rfl rfl rfl (by simp [Value.oneCell']) (.here) ?_)
   refine WL_nil ?_
   refine then_n ?_
   refine WC_ret ?_
   refine then_r ?_
   refine post_ret rfl (.agg agg_105 (lk4 rfl <| lk1 rfl <| lk0) rfl rfl (own_whole 0 rfl) .nil) ?_
   refine ⟨_, _, _, rfl, ?_⟩
   unfold allR; rw [if_neg ha]; exact GivenC.none
end Go.Proofs.Ytbcjfkcpfjccdaa
namespace Go.Proofs.Ytbcjfkcpfjccdaa
open Go.RowKit
def IsK (P : Program) (K : Nat) (v : Value) : Prop := ∃ l, keyOf P K v = some l
structure MapT (P : Program) (M K E : Nat) (z : Value) : Prop where
  under : P.underlying M = some (.map K E)
  zero : ZeroT P E z
  keyed : Go.Maps.Keyed P K
def entryO (p : (Value × Value) × Nat) : MapEntry := ⟨p.1.1, p.1.2, p.2⟩
/-- A map from which nothing was ever taken out. -/
def mapO (es : List (Value × Value)) : Obj := .map (es.zipIdx.map entryO).toArray es.length
theorem mapO_at {es : List (Value × Value)} {j : Nat} {e : MapEntry} (h : (es.zipIdx.map entryO)[j]? = some e) : ∃ p, es[j]? = some p ∧ e = ⟨p.1, p.2, j⟩ := by
  rw [List.getElem?_map, List.getElem?_zipIdx] at h
  cases hj : es[j]? with
  | none => rw [hj] at h; simp at h
  | some p => rw [hj] at h; simp [entryO] at h; exact ⟨p, rfl, h.symm⟩
theorem mapO_mem {es : List (Value × Value)} {e : MapEntry} (h : e ∈ es.zipIdx.map entryO) : ∃ j p, es[j]? = some p ∧ e = ⟨p.1, p.2, j⟩ := by
  obtain ⟨j, hj⟩ := List.getElem?_of_mem h
  obtain ⟨p, h1, h2⟩ := mapO_at hj
  exact ⟨j, p, h1, h2⟩
section
variable {P : Program} {n : Nat} {B : Base} {e : Env} {σ : St} {d : Option Nat} {ty : TypeId} {pos : String} {af : Array Edge} {gd : Option (Nat × Bool)}
theorem find_map {K : Nat} (hK : Go.Maps.Keyed P K) {k : Value} (hk : IsK P K k) {es : List (Value × Value)} (hall : ∀ p ∈ es, IsK P K p.1) (w : World) :
    ((Instr.findKey K k (es.zipIdx.map entryO)).run P w = .ok none w ∧ ∀ p ∈ es, p.1 ≠ k) ∨ ∃ j u, (Instr.findKey K k (es.zipIdx.map entryO)).run P w = .ok (some (j, u)) w ∧ es[j]? = some (k, u) := by
  obtain ⟨l, hl⟩ := hk
  rcases hK.find w hl (es.zipIdx.map entryO) (fun e he => by obtain ⟨j, p, h1, rfl⟩ := mapO_mem he; exact hall p (List.mem_of_getElem? h1)) with ⟨h1, h2⟩ | ⟨j, e0, h1, h2, h3⟩
  · refine .inl ⟨h1, fun p hp => ?_⟩
    obtain ⟨j, hj⟩ := List.getElem?_of_mem hp
    have : entryO (p, j) ∈ es.zipIdx.map entryO := by
      refine List.mem_map.2 ⟨(p, j), ?_, rfl⟩
      rw [List.mem_zipIdx_iff_getElem?]; exact hj
    exact h2 _ this
  · obtain ⟨p, q1, rfl⟩ := mapO_at h2
    refine .inr ⟨j, p.2, h1, ?_⟩
    rw [q1]
    simp only at h3
    rw [← h3]
theorem x_makeMap {M : Nat} {K : Value → St → Prop} (hn : ∀ b, B.w0.heap.size ≤ b → σ.F b = none → K (.map (some b)) ⟨σ.F, (b, mapO []) :: σ.H⟩) : OpX P n B ⟨d, .makeMap M none, ty, pos, af, gd⟩ e σ K :=
  .run fun w hw => ⟨_, _, _, .inl (by simp [execOp, Instr.makeMap]; rfl), hw.alloc (mapO []), hn _ hw.size hw.fresh⟩
theorem run_getMap {b : Nat} {es : List (Value × Value)} {w : World} (h : w.heap[b]? = some (mapO es)) : (Go.getObj b).run P w = .ok (mapO es) w := by
  simp only [Go.getObj, Sem.run, h]; simp [mapO, Sem.run]
theorem run_setMap {b : Nat} {es es' : List (Value × Value)} {w : World} (h : w.heap[b]? = some (mapO es)) : (Go.setObj b (mapO es')).run P w = .ok () { w with heap := w.heap.setIfInBounds b (mapO es') } := by
  simp only [Go.setObj, Sem.run, h]; simp [mapO, Sem.run]
theorem nodup_key {es : List (Value × Value)} (hd : (es.map (·.1)).Nodup) {i j : Nat} {k u v : Value} (hi : es[i]? = some (k, u)) (hj : es[j]? = some (k, v)) : i = j := by
  have h1 : (es.map (·.1))[i]? = some k := by simp [hi]
  have h2 : (es.map (·.1))[j]? = some k := by simp [hj]
  have hl : i < (es.map (·.1)).length := (List.getElem?_eq_some_iff.1 h1).1
  exact (List.getElem?_inj hl hd).1 (by rw [h1, h2])
theorem run_lookupN {M K E : Nat} {z k : Value} {b : Nat} {es : List (Value × Value)} (hT : MapT P M K E z) (hk : IsK P K k) (hall : ∀ p ∈ es, IsK P K p.1) (hno : ∀ p ∈ es, p.1 ≠ k) {w : World} (hb : w.heap[b]? = some (mapO es)) (ok : Bool) :
    (Instr.lookup M (.map (some b)) k ok).run P w = .ok (if ok then .tuple #[z, .bool false] else z) w := by
  obtain ⟨l, hl⟩ := hk
  have hc := fun em => hT.keyed.check w em hl
  have hb' := run_getMap (P := P) hb; unfold mapO at hb'
  have hf : (Instr.findKey K k (es.zipIdx.map entryO)).run P w = .ok none w := by
    rcases find_map hT.keyed ⟨l, hl⟩ hall w with ⟨h, -⟩ | ⟨j, u, -, h⟩
    · exact h
    · exact absurd rfl (hno _ (List.mem_of_getElem? h))
  cases ok <;> simp [Instr.lookup, run_under hT.under, hb', mapO, hc, hf, run_zero hT.zero]
theorem run_lookupS {M K E : Nat} {z k u : Value} {b j : Nat} {es : List (Value × Value)} (hT : MapT P M K E z) (hk : IsK P K k) (hall : ∀ p ∈ es, IsK P K p.1) (hd : (es.map (·.1)).Nodup) (hj : es[j]? = some (k, u)) {w : World} (hb : w.heap[b]? = some (mapO es)) (ok : Bool) :
    (Instr.lookup M (.map (some b)) k ok).run P w = .ok (if ok then .tuple #[u, .bool true] else u) w := by
  obtain ⟨l, hl⟩ := hk
  have hc := fun em => hT.keyed.check w em hl
  have hb' := run_getMap (P := P) hb; unfold mapO at hb'
  have hf : (Instr.findKey K k (es.zipIdx.map entryO)).run P w = .ok (some (j, u)) w := by
    rcases find_map hT.keyed ⟨l, hl⟩ hall w with ⟨-, h⟩ | ⟨i, v, h1, h2⟩
    · exact absurd rfl (h _ (List.mem_of_getElem? hj))
    · have := nodup_key hd h2 hj
      subst this
      rw [h2] at hj
      simp only [Option.some.injEq, Prod.mk.injEq] at hj
      rw [h1, hj.2]
  cases ok <;> simp [Instr.lookup, run_under hT.under, hb', mapO, hc, hf]
theorem q_lookupN {M K E i b : Nat} {x y : Operand} {z k : Value} {es : List (Value × Value)} (hT : MapT P M K E z) (hx : ev e x = .map (some b)) (hy : ev e y = k) (hi : σ.H[i]? = some (b, mapO es)) (hk : IsK P K k) (hall : ∀ p ∈ es, IsK P K p.1) (hno : ∀ p ∈ es, p.1 ≠ k) :
    OpR P B ⟨d, .lookup M x y false, ty, pos, af, gd⟩ e σ z := fun w hw => by
  have := run_lookupN hT hk hall hno (hw.own _ (List.mem_of_getElem? hi)).1 false
  simp [execOp, hx, hy, this]
theorem q_lookupS {M K E i b j : Nat} {x y : Operand} {z k u : Value} {es : List (Value × Value)} (hT : MapT P M K E z) (hx : ev e x = .map (some b)) (hy : ev e y = k) (hi : σ.H[i]? = some (b, mapO es)) (hk : IsK P K k) (hall : ∀ p ∈ es, IsK P K p.1) (hd : (es.map (·.1)).Nodup) (hj : es[j]? = some (k, u)) :
    OpR P B ⟨d, .lookup M x y false, ty, pos, af, gd⟩ e σ u := fun w hw => by
  have := run_lookupS hT hk hall hd hj (hw.own _ (List.mem_of_getElem? hi)).1 false
  simp [execOp, hx, hy, this]
theorem x_entryN {M K E i b : Nat} {x y : Operand} {z k : Value} {es : List (Value × Value)} {H' : List (Nat × Obj)} {Q : Value → St → Prop} (hT : MapT P M K E z) (hx : ev e x = .map (some b)) (hy : ev e y = k) (hi : σ.H[i]? = some (b, mapO es)) (hk : IsK P K k) (hall : ∀ p ∈ es, IsK P K p.1) (hno : ∀ p ∈ es, p.1 ≠ k)
    (hH : SetL σ.H i (b, mapO (es ++ [(k, z)])) H') (hn : Q (.tuple #[z, .int .i64 es.length]) ⟨σ.F, H'⟩) : OpX P n B ⟨d, .mapEntry M x y, ty, pos, af, gd⟩ e σ Q := .run fun w hw => by
  have hb := (hw.own _ (List.mem_of_getElem? hi)).1
  obtain ⟨l, hl⟩ := hk
  have hc := fun em => hT.keyed.check w em hl
  have hf : (Instr.findKey K k (es.zipIdx.map entryO)).run P w = .ok none w := by
    rcases find_map hT.keyed ⟨l, hl⟩ hall w with ⟨h, -⟩ | ⟨j, u, -, h⟩
    · exact h
    · exact absurd rfl (hno _ (List.mem_of_getElem? h))
  have hobj : Obj.map ((es.zipIdx.map entryO).toArray.push ⟨k, z, es.length⟩) (es.length + 1) = mapO (es ++ [(k, z)]) := by
    unfold mapO
    congr 1
    · simp [List.zipIdx_append, entryO]
    · simp
  rw [hH.eq.1] at hn
  refine ⟨_, _, _, .inl ?_, hw.setObj hi (o' := mapO (es ++ [(k, z)])), hn⟩
  have hg := run_getMap (P := P) hb
  have hs := run_setMap (P := P) (es' := (es ++ [(k, z)])) hb
  simp only [execOp, hx, hy, Instr.mapEntry, Sem.run_bind, run_under hT.under, Result.andThen_ok, hg]
  simp only [mapO, hc, Result.andThen_ok, List.toList_toArray, hf, run_zero hT.zero, Sem.run_bind]
  rw [hobj, hs]
  simp [goInt, mapO]
theorem x_entryS {M K E i b j : Nat} {x y : Operand} {z k u : Value} {es : List (Value × Value)} {Q : Value → St → Prop} (hT : MapT P M K E z) (hx : ev e x = .map (some b)) (hy : ev e y = k) (hi : σ.H[i]? = some (b, mapO es)) (hk : IsK P K k) (hall : ∀ p ∈ es, IsK P K p.1) (hd : (es.map (·.1)).Nodup) (hj : es[j]? = some (k, u))
    (hn : Q (.tuple #[u, .int .i64 j]) σ) : OpX P n B ⟨d, .mapEntry M x y, ty, pos, af, gd⟩ e σ Q := .run fun w hw => by
  have hb := (hw.own _ (List.mem_of_getElem? hi)).1
  obtain ⟨l, hl⟩ := hk
  have hc := fun em => hT.keyed.check w em hl
  have hf : (Instr.findKey K k (es.zipIdx.map entryO)).run P w = .ok (some (j, u)) w := by
    rcases find_map hT.keyed ⟨l, hl⟩ hall w with ⟨-, h⟩ | ⟨i, v, h1, h2⟩
    · exact absurd rfl (h _ (List.mem_of_getElem? hj))
    · have := nodup_key hd h2 hj
      subst this
      rw [h2] at hj
      simp only [Option.some.injEq, Prod.mk.injEq] at hj
      rw [h1, hj.2]
  have hat : (es.zipIdx.map entryO).toArray[j]? = some ⟨k, u, j⟩ := by
    simp [List.getElem?_zipIdx, hj, entryO]
  have hobj : Obj.map ((es.zipIdx.map entryO).toArray.modify j fun e => { e with key := k }) es.length = mapO es := by
    unfold mapO
    congr 1
    apply Array.ext'
    apply List.ext_getElem?
    intro m
    rw [Array.getElem?_toList, Array.getElem?_modify]
    by_cases hm : j = m
    · subst hm; rw [if_pos rfl, hat]; simp only [Option.map_some]; rw [← Array.getElem?_toList] at hat; exact hat.symm
    · rw [if_neg hm, Array.getElem?_toList]
  have hst := hT.keyed.stays w hl
  have hself : ({ w with heap := w.heap.setIfInBounds b (mapO es) } : World) = w := by
    have : w.heap.setIfInBounds b (mapO es) = w.heap := by
      apply Array.ext_getElem?
      intro m
      rw [Array.getElem?_setIfInBounds]
      split
      · rename_i hm; subst hm; rw [hb]; split
        · rfl
        · rename_i hm2; exact absurd (Array.getElem?_eq_some_iff.1 hb).1 hm2
      · rfl
    rw [this]
  have hs := run_setMap (P := P) (es' := es) hb
  rw [hself] at hs
  have hg := run_getMap (P := P) hb
  refine ⟨_, _, _, .inl ?_, hw, hn⟩
  simp only [execOp, hx, hy, Instr.mapEntry, Sem.run_bind, run_under hT.under, Result.andThen_ok, hg]
  simp only [mapO, hc, Result.andThen_ok, List.toList_toArray, hf, Sem.run_bind, hat, Option.map_some, Option.getD_some, hst]
  rw [hobj, hs]
  simp [goInt, mapO]
theorem x_entryStore {M i b j : Nat} {x y s : Operand} {k v : Value} {es : List (Value × Value)} {H' : List (Nat × Obj)} {Q : Value → St → Prop} (hx : ev e x = .map (some b)) (hs : ev e s = .int .i64 j) (hy : ev e y = v) (hi : σ.H[i]? = some (b, mapO es)) (hj : (es[j]?).map (·.1) = some k)
    (hH : SetL σ.H i (b, mapO (es.set j (k, v))) H') (hn : Q undef ⟨σ.F, H'⟩) : OpX P n B ⟨d, .entryStore M x s y, ty, pos, af, gd⟩ e σ Q := .run fun w hw => by
  have hb := (hw.own _ (List.mem_of_getElem? hi)).1
  cases hj' : es[j]? with
  | none => rw [hj'] at hj; simp at hj
  | some p =>
    rw [hj'] at hj
    simp only [Option.map_some, Option.some.injEq] at hj
    have hjl := (List.getElem?_eq_some_iff.1 hj').1
    have hfi : (es.zipIdx.map entryO).toArray.findIdx? (fun e => (e.born : Int) == (j : Int)) = some j := by
      rw [List.findIdx?_toArray, List.findIdx?_eq_some_iff_getElem]
      refine ⟨by simpa using hjl, by simp [entryO], fun m hm => by simp [entryO]; omega⟩
    have hobj : Obj.map ((es.zipIdx.map entryO).toArray.modify j fun e => { e with val := v }) es.length = mapO (es.set j (k, v)) := by
      unfold mapO
      congr 1
      · apply Array.ext'
        apply List.ext_getElem?
        intro m
        rw [Array.getElem?_toList, Array.getElem?_modify]
        simp only [List.getElem?_toArray, List.getElem?_map, List.getElem?_zipIdx, List.getElem?_set]
        by_cases hm : j = m
        · subst hm; rw [if_pos rfl, hj']; simp [hjl, entryO, hj]
        · rw [if_neg hm]; simp [hm]
      · simp
    have hg := run_getMap (P := P) hb
    have hst := run_setMap (P := P) (es' := es.set j (k, v)) hb
    rw [hH.eq.1] at hn
    refine ⟨_, _, _, .inr ⟨?_, rfl⟩, hw.setObj hi (o' := mapO (es.set j (k, v))), hn⟩
    simp only [execOp, hx, hy, hs, Instr.entryStore, Sem.run_bind, Sem.run_pure, Result.andThen_ok, hg]
    simp only [mapO, asInt, asIntOf, Sem.run_bind, Sem.run_pure, Result.andThen_ok, hfi]
    rw [hobj, hst]
    simp [mapO]
theorem lits_bool {T d : Nat} (hu : P.underlying T = some .bool) (b : Bool) : P.keyLits (d + 1) T [.bool b] = some [.bool b] := by simp [Program.keyLits, hu]
theorem lits_int {T d : Nat} {q : IntKind} (hu : P.underlying T = some (.int q)) {z : Int} (hz : (Lit.int q z).wf = true) : P.keyLits (d + 1) T [.int q z] = some [.int q z] := by simp [Program.keyLits, hu, hz]
theorem isK_struct2 {K d : Nat} {f0 f1 : Field} (hu : P.underlying K = some (.struct #[f0, f1])) (hk : P.keyType K = true) (hc : P.cellsOf K = 2) (c0 : P.cellsOf f0.type = 1) (c1 : P.cellsOf f1.type = 1) (hs : P.types.size = d)
    (o0 : f0.offset = 0) (o1 : f1.offset = 1) (n0 : (f0.name != "_") = true) (n1 : (f1.name != "_") = true) {a b : Value} {la lb : List Lit} (ha : P.keyLits d f0.type [a] = some la) (hb : P.keyLits d f1.type [b] = some lb) : IsK P K (.agg #[a, b]) := by
  have h : (P.keyLits (P.types.size + 1) K [a, b]) = some (la ++ lb) := by
    rw [hs]
    unfold Program.keyLits
    rw [hu]
    simp only [hc]
    have hall : (#[f0, f1] : Array Field).all (·.name != "_") = true := by simp [n0, n1]
    rw [if_pos ⟨rfl, hall⟩]
    simp [o0, o1, c0, c1, ha, hb]
  refine ⟨.string (keyBytes (la ++ lb)), ?_⟩
  unfold keyOf
  rw [hu]
  have hf : (Value.agg #[a, b]).formed P K = true := by simp [Value.formed, hu, hc]
  simp only [hk, hf, Bool.and_self, if_true]
  show (P.keyLits (P.types.size + 1) K [a, b]).map _ = _
  rw [h]; rfl
theorem wf64 {z : Int} (h1 : -9223372036854775808 ≤ z) (h2 : z ≤ 9223372036854775807) : (Lit.int .i64 z).wf = true := by
  have e1 : IntKind.i64.min = -9223372036854775808 := by decide
  have e2 : IntKind.i64.max = 9223372036854775807 := by decide
  simp [Lit.wf, e1, e2, h1, h2]
theorem keys_or {es : List (Value × Value)} (k : Value) : (∀ p ∈ es, p.1 ≠ k) ∨ ∃ (j : Nat) (u : Value), es[j]? = some (k, u) := by
  by_cases h : ∃ p ∈ es, p.1 = k
  · obtain ⟨p, hp, rfl⟩ := h
    obtain ⟨j, hj⟩ := List.getElem?_of_mem hp
    exact .inr ⟨j, p.2, hj⟩
  · exact .inl fun p hp he => h ⟨p, hp, he⟩
theorem all_snoc {K : Nat} {es : List (Value × Value)} {k v : Value} (h : ∀ p ∈ es, IsK P K p.1) (hk : IsK P K k) : ∀ p ∈ es ++ [(k, v)], IsK P K p.1 := by
  intro p hp
  rcases List.mem_append.1 hp with hp | hp
  · exact h p hp
  · simp at hp; subst hp; exact hk
theorem nd_snoc {es : List (Value × Value)} {k v : Value} (h : (es.map (·.1)).Nodup) (hk : ∀ p ∈ es, p.1 ≠ k) : ((es ++ [(k, v)]).map (·.1)).Nodup := by
  rw [List.map_append, List.nodup_append]
  refine ⟨h, by simp, fun a ha b hb => ?_⟩
  obtain ⟨p, hp, rfl⟩ := List.mem_map.1 ha
  simp at hb; subst hb
  exact hk p hp
theorem map_set {es : List (Value × Value)} {j : Nat} {k u v : Value} (hj : es[j]? = some (k, u)) : (es.set j (k, v)).map (·.1) = es.map (·.1) := by
  apply List.ext_getElem?
  intro m
  rw [List.getElem?_map, List.getElem?_map, List.getElem?_set]
  by_cases hm : j = m
  · subst hm; rw [if_pos rfl, hj]; simp [(List.getElem?_eq_some_iff.1 hj).1]
  · rw [if_neg hm]
theorem nd_set {es : List (Value × Value)} {j : Nat} {k u v : Value} (h : (es.map (·.1)).Nodup) (hj : es[j]? = some (k, u)) : ((es.set j (k, v)).map (·.1)).Nodup := by rw [map_set hj]; exact h
theorem all_set {K : Nat} {es : List (Value × Value)} {j : Nat} {k u v : Value} (h : ∀ p ∈ es, IsK P K p.1) (hj : es[j]? = some (k, u)) : ∀ p ∈ es.set j (k, v), IsK P K p.1 := by
  intro p hp
  have : p.1 ∈ (es.set j (k, v)).map (·.1) := List.mem_map_of_mem hp
  rw [map_set hj] at this
  obtain ⟨q, hq, he⟩ := List.mem_map.1 this
  rw [← he]; exact h q hq
theorem set_at {es : List (Value × Value)} {j : Nat} {k u v : Value} (hj : es[j]? = some (k, u)) : (es.set j (k, v))[j]? = some (k, v) := by
  rw [List.getElem?_set, if_pos rfl, if_pos (List.getElem?_eq_some_iff.1 hj).1]
theorem snoc_at {es : List (Value × Value)} {p : Value × Value} : (es ++ [p])[es.length]? = some p := by simp
theorem snoc_set {es : List (Value × Value)} {p q : Value × Value} : (es ++ [p]).set es.length q = es ++ [q] := by
  rw [List.set_append_right _ _ (Nat.le_refl _)]; simp
theorem q_eql2 {T d0 d1 : Nat} {x y : Operand} {a0 b0 : Bool} {k : IntKind} {a1 b1 : Int} {u : TypeId} {f0 f1 : Field} (hu : P.underlying T = some (.struct #[f0, f1])) (hst : P.stoodInHeld T = false) (hg : P.eqGuardType P.depth T = false)
    (n0 : f0.name ≠ "_") (n1 : f1.name ≠ "_") (o0 : f0.offset = 0) (o1 : f1.offset = 1) (h0 : P.underlying f0.type = some .bool) (h1 : P.underlying f1.type = some (.int k)) (s0 : OneT P f0.type) (s1 : OneT P f1.type) (_e0 : d0 = 0) (_e1 : d1 = 0)
    (hx : ev e x = .agg #[.bool a0, .int .i64 a1]) (hy : ev e y = .agg #[.bool b0, .int .i64 b1]) :
    OpR P B ⟨d, .binOp .eql T x y u, ty, pos, af, gd⟩ e σ (.bool ((a0 == b0) && (a1 == b1))) := fun w _ => by
  have hf : P.fieldsOf T = #[f0, f1] := by simp [Program.fieldsOf, hu]
  have hu' : P.underlying T = some (.struct (P.fieldsOf T)) := by rw [hf]; exact hu
  have p0 : ∀ cs : Array Value, ∀ v, cs[0]? = some v → (part f0.type cs f0.offset).run P w = .ok v w := fun cs v hv => by simp [part, run_one s0, o0, hv]
  have p1 : ∀ cs : Array Value, ∀ v, cs[1]? = some v → (part f1.type cs f1.offset).run P w = .ok v w := fun cs v hv => by simp [part, run_one s1, o1, hv]
  have he := run_eql_struct (P := P) w T #[.bool a0, .int .i64 a1] #[.bool b0, .int .i64 b1]
  rw [run_equalIn_struct w 9999 T _ _ hu' hst, hf] at he
  have hgd := run_eqGuard_agg (P := P) w .eql T x y #[.bool a0, .int .i64 a1] #[.bool b0, .int .i64 b1] hg
  simp only [execOp, hx, hy, Sem.run_bind, hgd, Result.andThen_ok, he]
  simp only [Op.eqFields, ne_eq, n0, n1, not_false_eq_true, if_true, Sem.run_bind, p0 _ _ (show (#[Value.bool a0, Value.int .i64 a1] : Array Value)[0]? = some (.bool a0) from rfl), p0 _ _ (show (#[Value.bool b0, Value.int .i64 b1] : Array Value)[0]? = some (.bool b0) from rfl), Result.andThen_ok, run_equalIn_bool' w 9998 f0.type a0 b0 h0]
  cases hab : (a0 == b0) with
  | false => simp
  | true =>
    simp [p1 _ _ (show (#[Value.bool a0, Value.int .i64 a1] : Array Value)[1]? = some (.int .i64 a1) from rfl), p1 _ _ (show (#[Value.bool b0, Value.int .i64 b1] : Array Value)[1]? = some (.int .i64 b1) from rfl), run_equalIn_int w 9998 f1.type .i64 k a1 b1 h1]
    by_cases hc : a1 = b1 <;> simp [hc]
end
end Go.Proofs.Ytbcjfkcpfjccdaa
namespace Go.Proofs.Ytbcjfkcpfjccdaa
open Go.RowKit
abbrev cl (b : Bool) (z : Int) : Value := .agg #[.bool b, .int .i64 z]
abbrev one : Value := .int .i64 1
def ents (r : Room) (l : List Nat) : List (Value × Value) := l.flatMap fun i => [(cl false (r.reader i), one), (cl true (r.book i), one)]
theorem ents_snoc {r : Room} {l : List Nat} {i : Nat} : ents r (l ++ [i]) = ents r l ++ [(cl false (r.reader i), one)] ++ [(cl true (r.book i), one)] := by simp [ents]
theorem ents_mem {r : Room} {l : List Nat} {p : Value × Value} (h : p ∈ ents r l) : p.2 = one ∧ ∃ i ∈ l, p.1 = cl false (r.reader i) ∨ p.1 = cl true (r.book i) := by
  obtain ⟨i, hi, hp⟩ := List.mem_flatMap.1 h
  simp only [List.mem_cons, List.not_mem_nil, or_false] at hp
  rcases hp with rfl | rfl
  · exact ⟨rfl, i, hi, .inl rfl⟩
  · exact ⟨rfl, i, hi, .inr rfl⟩
theorem ents_reader {r : Room} {l : List Nat} {i : Nat} (hi : i ∈ l) : (cl false (r.reader i), one) ∈ ents r l := List.mem_flatMap.2 ⟨i, hi, by simp⟩
theorem ents_book {r : Room} {l : List Nat} {i : Nat} (hi : i ∈ l) : (cl true (r.book i), one) ∈ ents r l := List.mem_flatMap.2 ⟨i, hi, by simp⟩
theorem cl_inj {b c : Bool} {x y : Nat} (h : cl b x = cl c y) : b = c ∧ x = y := by
  simp only [cl, Value.agg.injEq, Array.mk.injEq, List.cons.injEq, Value.bool.injEq, Value.int.injEq, and_true, true_and] at h
  exact ⟨h.1, by omega⟩
theorem new_reader {r : Room} {l : List Nat} {i : Nat} (h : ∀ p ∈ ents r l, p.1 ≠ cl false (r.reader i)) : ∀ j ∈ l, r.reader j ≠ r.reader i := fun j hj e => h _ (ents_reader hj) (by rw [e])
theorem old_reader {r : Room} {l : List Nat} {i j : Nat} {u : Value} (h : (ents r l)[j]? = some (cl false (r.reader i), u)) : u = one ∧ ∃ q ∈ l, r.reader q = r.reader i := by
  obtain ⟨h1, q, hq, hc⟩ := ents_mem (List.mem_of_getElem? h)
  refine ⟨h1, q, hq, ?_⟩
  rcases hc with hc | hc
  · exact (cl_inj hc).2.symm
  · exact absurd (cl_inj hc).1 (by decide)
theorem new_book {r : Room} {l : List Nat} {i : Nat} (h : ∀ p ∈ ents r l ++ [(cl false (r.reader i), one)], p.1 ≠ cl true (r.book i)) : ∀ j ∈ l, r.book j ≠ r.book i := fun j hj e => h _ (List.mem_append_left _ (ents_book hj)) (by rw [e])
theorem old_book {r : Room} {l : List Nat} {i j : Nat} {u : Value} (h : (ents r l ++ [(cl false (r.reader i), one)])[j]? = some (cl true (r.book i), u)) : u = one ∧ ∃ q ∈ l, r.book q = r.book i := by
  rcases List.mem_append.1 (List.mem_of_getElem? h) with h | h
  · obtain ⟨h1, q, hq, hc⟩ := ents_mem h
    refine ⟨h1, q, hq, ?_⟩
    rcases hc with hc | hc
    · exact absurd (cl_inj hc).1 (by decide)
    · exact (cl_inj hc).2.symm
  · simp only [List.mem_singleton, Prod.mk.injEq] at h
    exact absurd (cl_inj h.1).1 (by decide)
theorem apart_take {r : Room} {l : List Nat} {k : Nat} (hk : k < l.length) (h : Apart r (l.take k)) (hn : ∀ j ∈ l.take k, Two r j l[k]) : Apart r (l.take (k + 1)) := by
  unfold Apart at h ⊢
  rw [List.take_succ_eq_append_getElem hk, List.pairwise_append]
  exact ⟨h, by simp, fun a ha b hb => by simp at hb; subst hb; exact hn a ha⟩
theorem not_apart_take {r : Room} {l : List Nat} {k j : Nat} (hk : k < l.length) (hj : j ∈ l.take k) (hn : ¬ Two r j l[k]) : ¬ Apart r l := fun h => by
  obtain ⟨i, hi, rfl⟩ := List.mem_iff_getElem.1 hj
  simp only [List.length_take] at hi
  have := apart_iff.1 h k i hk (by omega)
  simp only [List.getElem_take] at hn
  exact hn this.symm
end Go.Proofs.Ytbcjfkcpfjccdaa
namespace Go.Proofs.Ytbcjfkcpfjccdaa
open Go.RowKit
theorem agg_147 : AggT Try.prog 147 2 := aggT_of (by kernel_rfl)
theorem fd_114_0 : FieldT Try.prog 114 0 0 := fieldT_of (by kernel_rfl)
theorem sz_147 : SizeT Try.prog 147 2 := sizeT_of (by kernel_rfl)
theorem zr_147 : ZeroT Try.prog 147 (.agg #[.bool false, .int .i64 0]) := zeroT_of (by kernel_rfl)
theorem bt_147 : BuildT Try.prog 147 [.bool false, .int .i64 0] [(0, 1), (1, 1)] := buildT_of zr_147 (by kernel_rfl) (by decide)
theorem laid : laidOutB Try.prog = true := by kernel_rfl
theorem mapT : MapT Try.prog 145 147 3 (.int .i64 0) := ⟨Try.underlying145, zeroT_of (by kernel_rfl), Go.Maps.Keyed.of_law (deep_law_laid laid (m := 3) (by omega) (Nat.le_of_ble_eq_true (by kernel_rfl)) (by kernel_rfl) (by kernel_rfl))⟩
theorem isK (b : Bool) {z : Int} (h1 : -9223372036854775808 ≤ z) (h2 : z ≤ 9223372036854775807) : IsK Try.prog 147 (cl b z) :=
  isK_struct2 Try.underlying147 (by kernel_rfl) (by kernel_rfl) (by kernel_rfl) (by kernel_rfl) (d := (Try.prog.types.size - 1) + 1) (by kernel_rfl) rfl rfl (by decide) (by decide) (lits_bool Try.underlying4 b) (lits_int Try.underlying3 (wf64 h1 h2))
theorem stood : Try.prog.stoodInHeld 147 = false := by kernel_rfl
theorem guardT : Try.prog.eqGuardType Try.prog.depth 147 = false := by kernel_rfl
theorem oneB_ : OneT Try.prog 4 := oneT_of (by kernel_rfl)
theorem oneZ_ : OneT Try.prog 3 := oneT_of (by kernel_rfl)
set_option maxRecDepth 100000 in
theorem apart_ok {F : Heap} {b c1 c8 c3 : Nat} {vb vr vs vq vl : Value} {r : Room} (hX : RoomX num F b c1 c8 c3 vb vr vs vq vl r) (hv : Valid r) {v : Value} {l : List Nat} (hl : Nats F v l) (hlt2 : ∀ i ∈ l, i < r.reqs.length) : Ok Try.prog 63 [.pointer (some ⟨b, 0, none⟩), v].toArray F fun u _ => u = .bool (decide (Apart r l)) := by
  refine Ok.intro Try.func63 rfl Try.ntmps63 rfl fun w0 => ?_
  have hlen := hl.plain.lt
  refine WC_seq ?_
  refine WC_reg fun ds => ?_
  refine WL_q rfl (q_assign lk_const) ?_
  refine WL_nil ?_
  refine then_n ?_
  refine WC_seq ?_
  refine WC_reg fun ds => ?_
  refine WL_x rfl (x_makeMap fun b1 hb1 nb1 => ?_)
  refine WL_q rfl (q_assign (lk0)) ?_
  refine WL_nil ?_
  refine then_n ?_
  refine WC_seq ?_
  refine WC_seq ?_
  refine WC_reg fun ds => ?_
  refine WL_q rfl (q_move (lk2 rfl <| lk1 rfl <| lk_entry rfl)) ?_
  refine WL_q rfl (q_lenP sl_29 (lk0) hl.plain) ?_
  refine WL_q rfl (q_move lk_const) ?_
  refine WL_nil ?_
  refine then_n ?_
  refine WC_block ?_
  refine WC_loopN [4, 7, 8, 9, 13, 14, 15, 16, 17, 18, 19, 20, 21, 22, 23, 24, 25, 26, 27, 28, 29, 30, 31, 32, 33, 34, 35, 36, 37, 38, 39, 40, 41, 42, 43, 44, 45, 46, 47, 48, 49, 50, 51, 52, 53, 54, 55, 56, 57, 58, 59, 60, 61, 62] (fun m e σ => ∃ k : Nat, m + k = l.length ∧ e 13 = .int .i64 k ∧ Apart r (l.take k) ∧ (∀ p ∈ (ents r (l.take k)), IsK Try.prog 147 p.1) ∧ ((ents r (l.take k)).map (·.1)).Nodup ∧ σ = ⟨F, [(b1, mapO (ents r (l.take k)))]⟩) (l.length) ?_ ?_
  · exact ⟨0, by omega, (lk0), List.Pairwise.nil, (fun p hp => nomatch hp), List.nodup_nil, rfl⟩
  ·
   rintro m e _ ⟨k, hm, hs13, hap, hall, hnd, rfl⟩
   by_cases hlt : k < l.length
   ·
    refine WC_seq ?_
    refine WC_reg fun ds => ?_
    refine WL_q rfl (q_lss (lk_in rfl hs13) (lk_off rfl <| lk1 rfl <| lk0)) ?_
    refine WL_nil ?_
    refine then_n ?_
    refine WC_seq ?_
    refine WC_if_true (lk0) (by first | rfl | exact decide_eq_true (by omega)) ?_
    have hlk := hlt2 _ (List.getElem_mem hlt)
    obtain ⟨ek, lr⟩ := hv.reader hlk
    obtain ⟨bk, lb⟩ := hv.book hlk
    have h8 := hv.nb
    have h9 := hv.nr
    have isA := isK false (z := (r.reader l[k] : Int)) (by omega) (by omega)
    have isB := isK true (z := (r.book l[k] : Int)) (by omega) (by omega)
    refine WC_skip ?_
    refine then_n ?_
    refine WC_seq ?_
    refine WC_block ?_
    refine WC_seq ?_
    refine WC_reg fun ds => ?_
    refine WL_q rfl (q_index  sl_29 (lk1 rfl <| lk_off rfl <| lk2 rfl <| lk0) hl.plain (lk1 rfl <| lk_in rfl hs13) rfl hlt) ?_
    refine WL_q rfl (q_load1 one_3 (lk0) (hl.cell1 hlt rfl)) ?_
    refine WL_q rfl (q_assign (lk0)) ?_
    refine WL_nil ?_
    refine then_n ?_
    refine WC_seq ?_
    refine WC_cut [8, 9, 17, 18, 19, 20, 21, 22, 23, 24, 25, 26, 27, 28, 29, 30, 31, 32, 33, 34, 35, 36] (fun s σ => ∃ p8 p9, s 8 = ptr p8 ∧ s 9 = ptr p9 ∧ σ = ⟨F, [(p8, bx 147 [.bool false, .int .i64 (r.reader l[k])]), (p9, bx 147 [.bool true, .int .i64 (r.book l[k])]), (b1, mapO (ents r (l.take k)))]⟩) ?_ ?_
    ·
     refine WC_drawS (.inl rfl) (fun _ _ h => h) (.cons_cons _ <| .refl _) [23] (by kernel_rfl) fun ds => ?_
     refine WX_take 0 rfl (by kernel_rfl) (by kernel_rfl) (by kernel_rfl) (by kernel_rfl) rfl rfl (fun _ h => h.drop (.cons_cons _ <| .refl _)) (fun _ _ _ h => h) (q_move (lk4 rfl <| lk_off rfl <| lk4 rfl <| lk2 rfl <| lk_entry rfl)) ?_
     refine WX_take 1 rfl (by kernel_rfl) (by kernel_rfl) (by kernel_rfl) (by kernel_rfl) rfl rfl (fun _ h => h.drop (.cons_cons _ <| .refl _)) (fun _ _ _ h => h) (q_nilCheck (lk0)) ?_
     refine WX_take 2 rfl (by kernel_rfl) (by kernel_rfl) (by kernel_rfl) (by kernel_rfl) rfl rfl (fun _ h => h.drop (.cons_cons _ <| .refl _)) (fun _ _ _ h => h) (q_fieldAddrB fd_114_0 (lk0)) ?_
     refine WX_take 3 rfl (by kernel_rfl) (by kernel_rfl) (by kernel_rfl) (by kernel_rfl) rfl rfl (fun _ h => h.drop (.cons_cons _ <| .refl _)) (fun _ _ _ h => h) (q_fieldAddrB fd_27_3 (lk0)) ?_
     refine WX_take 4 rfl (by kernel_rfl) (by kernel_rfl) (by kernel_rfl) (by kernel_rfl) rfl rfl (fun _ h => h.drop (.cons_cons _ <| .refl _)) (fun _ _ _ h => h) (q_load1 one_25 (lk0) (CellF.own hX.blk rfl).cell) ?_
     refine WX_take 5 rfl (by kernel_rfl) (by kernel_rfl) (by kernel_rfl) (by kernel_rfl) rfl rfl (fun _ h => h.drop (.cons_cons _ <| .refl _)) (fun _ _ _ h => h) (q_move (lk4 rfl <| lk1 rfl <| lk0)) ?_
     refine WX_take 6 rfl (by kernel_rfl) (by kernel_rfl) (by kernel_rfl) (by kernel_rfl) rfl rfl (fun _ h => h.drop (.cons_cons _ <| .refl _)) (fun _ _ _ h => h) (q_index  sl_25 (lk1 rfl <| lk0) hX.room.reqs.plain (lk0) rfl hlk) ?_
     refine WX_take 7 rfl (by kernel_rfl) (by kernel_rfl) (by kernel_rfl) (by kernel_rfl) rfl rfl (fun _ h => h.drop (.cons_cons _ <| .refl _)) (fun _ _ _ h => h) (q_fieldAddr fd_58_0 (lk0)) ?_
     refine WX_take 8 rfl (by kernel_rfl) (by kernel_rfl) (by kernel_rfl) (by kernel_rfl) rfl rfl (fun _ h => h.drop (.cons_cons _ <| .refl _)) (fun _ _ _ h => h) (q_load1 one_3 (lk0) (hX.room.reqs.cell hlk rfl)) ?_
     refine WX_take 9 rfl (by kernel_rfl) (by kernel_rfl) (by kernel_rfl) (by kernel_rfl) rfl rfl (fun _ h => h.drop (.cons_cons _ <| .refl _)) (fun _ _ _ h => h) (q_build bt_147 (.cons (lk0) rfl .nil) (.cons rfl rfl (Nat.le_of_ble_eq_true rfl) (.cons (.next <| .here) .nil) .nil)) ?_
     refine WX_take 10 rfl (by kernel_rfl) (by kernel_rfl) (by kernel_rfl) (by kernel_rfl) rfl rfl (fun _ h => h.drop (.cons_cons _ <| .refl _)) (fun _ _ _ h => h) (q_move (lk8 rfl <| lk4 rfl <| lk2 rfl <| lk_off rfl <| lk4 rfl <| lk2 rfl <| lk_entry rfl)) ?_
     refine WX_take 11 rfl (by kernel_rfl) (by kernel_rfl) (by kernel_rfl) (by kernel_rfl) rfl rfl (fun _ h => h.drop (.cons_cons _ <| .refl _)) (fun _ _ _ h => h) (q_nilCheck (lk0)) ?_
     refine WX_take 12 rfl (by kernel_rfl) (by kernel_rfl) (by kernel_rfl) (by kernel_rfl) rfl rfl (fun _ h => h.drop (.cons_cons _ <| .refl _)) (fun _ _ _ h => h) (q_fieldAddrB fd_114_0 (lk0)) ?_
     refine WX_take 13 rfl (by kernel_rfl) (by kernel_rfl) (by kernel_rfl) (by kernel_rfl) rfl rfl (fun _ h => h.drop (.cons_cons _ <| .refl _)) (fun _ _ _ h => h) (q_fieldAddrB fd_27_3 (lk0)) ?_
     refine WX_take 14 rfl (by kernel_rfl) (by kernel_rfl) (by kernel_rfl) (by kernel_rfl) rfl rfl (fun _ h => h.drop (.cons_cons _ <| .refl _)) (fun _ _ _ h => h) (q_load1 one_25 (lk0) (CellF.own hX.blk rfl).cell) ?_
     refine WX_take 15 rfl (by kernel_rfl) (by kernel_rfl) (by kernel_rfl) (by kernel_rfl) rfl rfl (fun _ h => h.drop (.cons_cons _ <| .refl _)) (fun _ _ _ h => h) (q_move (lk8 rfl <| lk4 rfl <| lk2 rfl <| lk1 rfl <| lk0)) ?_
     refine WX_take 16 rfl (by kernel_rfl) (by kernel_rfl) (by kernel_rfl) (by kernel_rfl) rfl rfl (fun _ h => h.drop (.cons_cons _ <| .refl _)) (fun _ _ _ h => h) (q_index  sl_25 (lk1 rfl <| lk0) hX.room.reqs.plain (lk0) rfl hlk) ?_
     refine WX_take 17 rfl (by kernel_rfl) (by kernel_rfl) (by kernel_rfl) (by kernel_rfl) rfl rfl (fun _ h => h.drop (.cons_cons _ <| .refl _)) (fun _ _ _ h => h) (q_fieldAddr fd_58_1 (lk0)) ?_
     refine WX_take 18 rfl (by kernel_rfl) (by kernel_rfl) (by kernel_rfl) (by kernel_rfl) rfl rfl (fun _ h => h.drop (.cons_cons _ <| .refl _)) (fun _ _ _ h => h) (q_load1 one_3 (lk0) (hX.room.reqs.cell hlk rfl)) ?_
     refine WX_take 19 rfl (by kernel_rfl) (by kernel_rfl) (by kernel_rfl) (by kernel_rfl) rfl rfl (fun _ h => h.drop (.cons_cons _ <| .refl _)) (fun _ _ _ h => h) (q_build bt_147 (.cons lk_const rfl (.cons (lk0) rfl .nil)) (.cons rfl rfl (Nat.le_of_ble_eq_true rfl) (.cons (.here) .nil) (.cons rfl rfl (Nat.le_of_ble_eq_true rfl) (.cons (.next <| .here) .nil) .nil))) ?_
     refine WX_pick [20, 21] (by kernel_rfl) (by decide) (in2 ?_ ?_)
     ·
      refine WXop_x rfl rfl (x_alloc zr_147 rfl fun b3 hb3 nb3 => ⟨fun _ _ => (fun _ h => h.drop (.cons _ <| .cons_cons _ <| .refl _)), ?_⟩)
      refine WX_x 21 rfl (by kernel_rfl) rfl (x_alloc zr_147 rfl fun b4 hb4 nb4 => ⟨fun _ _ => (fun _ h => h.drop (.cons _ <| .cons _ <| .cons_cons _ <| .refl _)), ?_⟩)
      refine WX_x0 22 rfl (by kernel_rfl) (x_storeA sz_147 (lk1 rfl <| lk0) (lk8 rfl <| lk4 rfl <| lk0) (i := 1) rfl rfl rfl rfl (by simp [Value.oneCell']) (.next <| .here) ⟨fun _ _ => (fun _ h => h.drop (.cons _ <| .cons _ <| .cons_cons _ <| .refl _)), ?_⟩)
      refine WX_x0 23 rfl (by kernel_rfl) (x_storeA sz_147 (lk0) (lk2 rfl <| lk0) (i := 0) rfl rfl rfl rfl (by simp [Value.oneCell']) (.here) ⟨(fun h => nomatch h), ?_⟩)
      refine WX_order (.cons (.next <| .here) <| .cons (.here) <| .cons (.here) <| .nil) ?_
      refine WX_done (by kernel_rfl) ?_ _
      refine then_n ⟨_, Off.eq (ou16 rfl <| ou4 rfl <| ou2 rfl <| off_refl), ?_⟩
      exact ⟨_, _, (lk1 rfl <| lk0), (lk0), by rw [ek, bk]⟩
     ·
      refine WXop_x rfl rfl (x_alloc zr_147 rfl fun b5 hb5 nb5 => ⟨fun _ _ => (fun _ h => h.drop (.cons _ <| .cons_cons _ <| .refl _)), ?_⟩)
      refine WX_x 20 rfl (by kernel_rfl) rfl (x_alloc zr_147 rfl fun b6 hb6 nb6 => ⟨fun _ _ => (fun _ h => h.drop (.cons _ <| .cons _ <| .cons_cons _ <| .refl _)), ?_⟩)
      refine WX_x0 22 rfl (by kernel_rfl) (x_storeA sz_147 (lk0) (lk8 rfl <| lk4 rfl <| lk0) (i := 0) rfl rfl rfl rfl (by simp [Value.oneCell']) (.here) ⟨fun _ _ => (fun _ h => h.drop (.cons _ <| .cons _ <| .cons_cons _ <| .refl _)), ?_⟩)
      refine WX_x0 23 rfl (by kernel_rfl) (x_storeA sz_147 (lk1 rfl <| lk0) (lk2 rfl <| lk0) (i := 1) rfl rfl rfl rfl (by simp [Value.oneCell']) (.next <| .here) ⟨(fun h => nomatch h), ?_⟩)
      refine WX_order (.cons (.here) <| .cons (.here) <| .cons (.here) <| .nil) ?_
      refine WX_done (by kernel_rfl) ?_ _
      refine then_n ⟨_, Off.eq (ou16 rfl <| ou4 rfl <| ou2 rfl <| off_refl), ?_⟩
      exact ⟨_, _, (lk0), (lk1 rfl <| lk0), by rw [ek, bk]⟩
    rintro e3 _ ⟨p8, p9, hc8, hc9, rfl⟩
    refine WC_seq ?_
    refine WC_seq ?_
    rcases keys_or (es := (ents r (l.take k))) (cl false (r.reader l[k])) with hno | ⟨j, u, hj⟩
    ·
     refine WC_cut [37, 38, 39, 40, 41, 42] (fun s σ => σ = ⟨F, [(p8, bx 147 [.bool false, .int .i64 (r.reader l[k])]), (p9, bx 147 [.bool true, .int .i64 (r.book l[k])]), (b1, mapO ((ents r (l.take k)) ++ [((cl false (r.reader l[k])), one)]))]⟩) ?_ ?_
     ·
      refine WC_drawS (.inl rfl) (fun _ _ h => h) (.cons_cons _ <| .cons_cons _ <| .cons _ <| .refl _) [6] (by kernel_rfl) fun ds => ?_
      refine WX_take 0 rfl (by kernel_rfl) (by kernel_rfl) (by kernel_rfl) (by kernel_rfl) rfl rfl (fun _ h => h.drop (.cons_cons _ <| .cons_cons _ <| .cons _ <| .refl _)) (fun _ _ _ h => h) (q_move (lk_off rfl <| lk4 rfl <| lk_off rfl <| lk2 rfl <| lk1 rfl <| lk0)) ?_
      refine WX_take 1 rfl (by kernel_rfl) (by kernel_rfl) (by kernel_rfl) (by kernel_rfl) rfl rfl (fun _ h => h.drop (.cons_cons _ <| .cons_cons _ <| .cons _ <| .refl _)) (fun _ _ _ h => h) (q_loadN agg_147 (lk1 rfl <| lk_in rfl hc8) rfl rfl (own_whole 0 rfl)) ?_
      refine WX_pick [2, 4] (by kernel_rfl) (by decide) (in2 ?_ ?_)
      ·
       refine WXop_x rfl rfl (x_quiet (q_lookupN mapT (lk1 rfl <| lk0) (lk0) (i := 2) rfl isA hall hno).quiet ⟨fun _ _ => (fun _ h => h.drop (.cons_cons _ <| .cons_cons _ <| .cons _ <| .refl _)), ?_⟩)
       refine WX_take 3 rfl (by kernel_rfl) (by kernel_rfl) (by kernel_rfl) (by kernel_rfl) rfl rfl (fun _ h => h.drop (.cons_cons _ <| .cons_cons _ <| .cons _ <| .refl _)) (fun _ _ _ h => h) (q_add (lk0) lk_const rfl (by omega) (by omega)) ?_
       refine WX_x 4 rfl (by kernel_rfl) rfl (x_entryN mapT (lk2 rfl <| lk1 rfl <| lk0) (lk2 rfl <| lk0) (i := 2) rfl isA hall hno (.next <| .next <| .here) ⟨fun _ _ => (fun _ h => h.drop (.cons_cons _ <| .cons_cons _ <| .cons _ <| .refl _)), ?_⟩)
       refine WX_take 5 rfl (by kernel_rfl) (by kernel_rfl) (by kernel_rfl) (by kernel_rfl) rfl rfl (fun _ h => h.drop (.cons_cons _ <| .cons_cons _ <| .cons _ <| .refl _)) (fun _ _ _ h => h) (q_extract (lk0) rfl) ?_
       refine WX_x0 6 rfl (by kernel_rfl) (x_entryStore (lk4 rfl <| lk1 rfl <| lk0) (lk0) (lk2 rfl <| lk0) (i := 2) rfl (congrArg (Option.map (·.1)) snoc_at) (.next <| .next <| .here) ⟨(fun h => nomatch h), ?_⟩)
       refine WX_done (by kernel_rfl) ?_ _
       refine then_n ⟨_, Off.eq (ou4 rfl <| ou2 rfl <| off_refl), ?_⟩
       rw [snoc_set]; rfl
      ·
       refine WXop_x rfl rfl (x_entryN mapT (lk1 rfl <| lk0) (lk0) (i := 2) rfl isA hall hno (.next <| .next <| .here) ⟨fun _ _ => (fun _ h => h.drop (.cons_cons _ <| .cons_cons _ <| .cons _ <| .refl _)), ?_⟩)
       refine WX_take 5 rfl (by kernel_rfl) (by kernel_rfl) (by kernel_rfl) (by kernel_rfl) rfl rfl (fun _ h => h.drop (.cons_cons _ <| .cons_cons _ <| .cons _ <| .refl _)) (fun _ _ _ h => h) (q_extract (lk0) rfl) ?_
       refine WX_x 2 rfl (by kernel_rfl) rfl (x_quiet (q_lookupS mapT (lk2 rfl <| lk1 rfl <| lk0) (lk2 rfl <| lk0) (i := 2) rfl isA (all_snoc hall isA) (nd_snoc hnd hno) snoc_at).quiet ⟨fun _ _ => (fun _ h => h.drop (.cons_cons _ <| .cons_cons _ <| .cons _ <| .refl _)), ?_⟩)
       refine WX_take 3 rfl (by kernel_rfl) (by kernel_rfl) (by kernel_rfl) (by kernel_rfl) rfl rfl (fun _ h => h.drop (.cons_cons _ <| .cons_cons _ <| .cons _ <| .refl _)) (fun _ _ _ h => h) (q_add (lk0) lk_const rfl (by omega) (by omega)) ?_
       refine WX_x0 6 rfl (by kernel_rfl) (x_entryStore (lk4 rfl <| lk1 rfl <| lk0) (lk2 rfl <| lk0) (lk0) (i := 2) rfl (congrArg (Option.map (·.1)) snoc_at) (.next <| .next <| .here) ⟨(fun h => nomatch h), ?_⟩)
       refine WX_done (by kernel_rfl) ?_ _
       refine then_n ⟨_, Off.eq (ou4 rfl <| ou2 rfl <| off_refl), ?_⟩
       rw [snoc_set]; rfl
     rintro e16 _ rfl
     refine WC_seq ?_
     refine WC_reg fun ds => ?_
     refine WL_q rfl (q_loadN agg_147 (lk_off rfl <| lk_in rfl hc8) rfl rfl (own_whole 0 rfl)) ?_
     refine WL_q rfl (q_loadN agg_147 (lk1 rfl <| lk_off rfl <| lk_in rfl hc9) rfl rfl (own_whole 1 rfl)) ?_
     refine WL_q rfl (q_eql2 Try.underlying147 stood guardT (by decide) (by decide) rfl rfl Try.underlying4 Try.underlying3 oneB_ oneZ_ (d0 := 0) (d1 := 0) rfl rfl (lk1 rfl <| lk0) (lk0)) ?_
     refine WL_q rfl (q_move (lk0)) ?_
     refine WL_want rfl rfl (lk0) rfl ?_
     refine WL_q rfl (q_move (lk4 rfl <| lk_off rfl <| lk_off rfl <| lk4 rfl <| lk_off rfl <| lk2 rfl <| lk1 rfl <| lk0)) ?_
     refine WL_want rfl rfl (lk1 rfl <| lk0) rfl ?_
     refine WL_q rfl (q_loadN agg_147 (lk4 rfl <| lk1 rfl <| lk_off rfl <| lk_in rfl hc8) rfl rfl (own_whole 0 rfl)) ?_
     refine WL_want rfl rfl (lk2 rfl <| lk0) rfl ?_
     refine WL_q rfl (q_lookupS mapT (lk1 rfl <| lk0) (lk0) (i := 2) rfl isA (all_snoc hall isA) (nd_snoc hnd hno) snoc_at) ?_
     refine WL_want rfl rfl (lk2 rfl <| lk1 rfl <| lk0) rfl ?_
     refine WL_q rfl (q_gtr (lk0) lk_const) ?_
     refine WL_q rfl (q_pick_false (lk4 rfl <| lk0) rfl (lk0)) ?_
     refine WL_nil ?_
     refine then_n ?_
     refine WC_if_false (lk0) (by decide) ?_
     refine WC_skip ?_
     refine then_n ?_
     refine WC_seq ?_
     rcases keys_or (es := ((ents r (l.take k)) ++ [((cl false (r.reader l[k])), one)])) (cl true (r.book l[k])) with hno2 | ⟨j2, u2, hj2⟩
     ·
      refine WC_cut [52, 53, 54, 55, 56, 57] (fun s σ => σ = ⟨F, [(p8, bx 147 [.bool false, .int .i64 (r.reader l[k])]), (p9, bx 147 [.bool true, .int .i64 (r.book l[k])]), (b1, mapO (((ents r (l.take k)) ++ [((cl false (r.reader l[k])), one)]) ++ [((cl true (r.book l[k])), one)]))]⟩) ?_ ?_
      ·
       refine WC_drawS (.inl rfl) (fun _ _ h => h) (.cons_cons _ <| .cons_cons _ <| .cons _ <| .refl _) [6] (by kernel_rfl) fun ds => ?_
       refine WX_take 0 rfl (by kernel_rfl) (by kernel_rfl) (by kernel_rfl) (by kernel_rfl) rfl rfl (fun _ h => h.drop (.cons_cons _ <| .cons_cons _ <| .cons _ <| .refl _)) (fun _ _ _ h => h) (q_move (lk8 rfl <| lk1 rfl <| lk_off rfl <| lk_off rfl <| lk4 rfl <| lk_off rfl <| lk2 rfl <| lk1 rfl <| lk0)) ?_
       refine WX_take 1 rfl (by kernel_rfl) (by kernel_rfl) (by kernel_rfl) (by kernel_rfl) rfl rfl (fun _ h => h.drop (.cons_cons _ <| .cons_cons _ <| .cons _ <| .refl _)) (fun _ _ _ h => h) (q_loadN agg_147 (lk8 rfl <| lk2 rfl <| lk_off rfl <| lk_in rfl hc9) rfl rfl (own_whole 1 rfl)) ?_
       refine WX_pick [2, 4] (by kernel_rfl) (by decide) (in2 ?_ ?_)
       ·
        refine WXop_x rfl rfl (x_quiet (q_lookupN mapT (lk1 rfl <| lk0) (lk0) (i := 2) rfl isB (all_snoc hall isA) hno2).quiet ⟨fun _ _ => (fun _ h => h.drop (.cons_cons _ <| .cons_cons _ <| .cons _ <| .refl _)), ?_⟩)
        refine WX_take 3 rfl (by kernel_rfl) (by kernel_rfl) (by kernel_rfl) (by kernel_rfl) rfl rfl (fun _ h => h.drop (.cons_cons _ <| .cons_cons _ <| .cons _ <| .refl _)) (fun _ _ _ h => h) (q_add (lk0) lk_const rfl (by omega) (by omega)) ?_
        refine WX_x 4 rfl (by kernel_rfl) rfl (x_entryN mapT (lk2 rfl <| lk1 rfl <| lk0) (lk2 rfl <| lk0) (i := 2) rfl isB (all_snoc hall isA) hno2 (.next <| .next <| .here) ⟨fun _ _ => (fun _ h => h.drop (.cons_cons _ <| .cons_cons _ <| .cons _ <| .refl _)), ?_⟩)
        refine WX_take 5 rfl (by kernel_rfl) (by kernel_rfl) (by kernel_rfl) (by kernel_rfl) rfl rfl (fun _ h => h.drop (.cons_cons _ <| .cons_cons _ <| .cons _ <| .refl _)) (fun _ _ _ h => h) (q_extract (lk0) rfl) ?_
        refine WX_x0 6 rfl (by kernel_rfl) (x_entryStore (lk4 rfl <| lk1 rfl <| lk0) (lk0) (lk2 rfl <| lk0) (i := 2) rfl (congrArg (Option.map (·.1)) snoc_at) (.next <| .next <| .here) ⟨(fun h => nomatch h), ?_⟩)
        refine WX_done (by kernel_rfl) ?_ _
        refine then_n ⟨_, Off.eq (ou4 rfl <| ou2 rfl <| off_refl), ?_⟩
        rw [snoc_set]; rfl
       ·
        refine WXop_x rfl rfl (x_entryN mapT (lk1 rfl <| lk0) (lk0) (i := 2) rfl isB (all_snoc hall isA) hno2 (.next <| .next <| .here) ⟨fun _ _ => (fun _ h => h.drop (.cons_cons _ <| .cons_cons _ <| .cons _ <| .refl _)), ?_⟩)
        refine WX_take 5 rfl (by kernel_rfl) (by kernel_rfl) (by kernel_rfl) (by kernel_rfl) rfl rfl (fun _ h => h.drop (.cons_cons _ <| .cons_cons _ <| .cons _ <| .refl _)) (fun _ _ _ h => h) (q_extract (lk0) rfl) ?_
        refine WX_x 2 rfl (by kernel_rfl) rfl (x_quiet (q_lookupS mapT (lk2 rfl <| lk1 rfl <| lk0) (lk2 rfl <| lk0) (i := 2) rfl isB (all_snoc (all_snoc hall isA) isB) (nd_snoc (nd_snoc hnd hno) hno2) snoc_at).quiet ⟨fun _ _ => (fun _ h => h.drop (.cons_cons _ <| .cons_cons _ <| .cons _ <| .refl _)), ?_⟩)
        refine WX_take 3 rfl (by kernel_rfl) (by kernel_rfl) (by kernel_rfl) (by kernel_rfl) rfl rfl (fun _ h => h.drop (.cons_cons _ <| .cons_cons _ <| .cons _ <| .refl _)) (fun _ _ _ h => h) (q_add (lk0) lk_const rfl (by omega) (by omega)) ?_
        refine WX_x0 6 rfl (by kernel_rfl) (x_entryStore (lk4 rfl <| lk1 rfl <| lk0) (lk2 rfl <| lk0) (lk0) (i := 2) rfl (congrArg (Option.map (·.1)) snoc_at) (.next <| .next <| .here) ⟨(fun h => nomatch h), ?_⟩)
        refine WX_done (by kernel_rfl) ?_ _
        refine then_n ⟨_, Off.eq (ou4 rfl <| ou2 rfl <| off_refl), ?_⟩
        rw [snoc_set]; rfl
      rintro e19 _ rfl
      refine WC_seq ?_
      refine WC_reg fun ds => ?_
      refine WL_q rfl (q_move (lk_off rfl <| lk8 rfl <| lk1 rfl <| lk_off rfl <| lk_off rfl <| lk4 rfl <| lk_off rfl <| lk2 rfl <| lk1 rfl <| lk0)) ?_
      refine WL_q rfl (q_loadN agg_147 (lk1 rfl <| lk_off rfl <| lk8 rfl <| lk1 rfl <| lk_off rfl <| lk_in rfl hc9) rfl rfl (own_whole 1 rfl)) ?_
      refine WL_q rfl (q_lookupS mapT (lk1 rfl <| lk0) (lk0) (i := 2) rfl isB (all_snoc (all_snoc hall isA) isB) (nd_snoc (nd_snoc hnd hno) hno2) snoc_at) ?_
      refine WL_q rfl (q_gtr (lk0) lk_const) ?_
      refine WL_nil ?_
      refine then_n ?_
      refine WC_if_false (lk0) (by decide) ?_
      refine WC_skip ?_
      refine block_n (then_n ?_)
      refine WC_imp (fun _ _ h => h.drop (.cons _ <| .cons _ <| .cons_cons _ <| .refl _)) ?_
      refine WC_reg fun ds => ?_
      refine WL_q rfl (q_add (lk4 rfl <| lk_off rfl <| lk8 rfl <| lk1 rfl <| lk_off rfl <| lk_off rfl <| lk4 rfl <| lk_in rfl hs13) lk_const rfl (by omega) (by omega)) ?_
      refine WL_q rfl (q_move (lk0)) ?_
      refine WL_nil ?_
      refine then_n ⟨_, m - 1, Off.eq (ou4 rfl <| ou2 rfl <| off_in rfl <| ou8 rfl <| ou1 rfl <| off_in rfl <| off_in rfl <| ou4 rfl <| off_over), by omega, ?_⟩
      have htake : l.take (k + 1) = l.take k ++ [l[k]] := List.take_succ_eq_append_getElem hlt
      refine ⟨k + 1, by omega, (lk0), apart_take hlt hap fun j hj => ⟨new_reader hno j hj, new_book hno2 j hj⟩, ?_, ?_, ?_⟩
      · rw [htake, ents_snoc]; exact (all_snoc (all_snoc hall isA) isB)
      · rw [htake, ents_snoc]; exact (nd_snoc (nd_snoc hnd hno) hno2)
      · rw [htake, ents_snoc]
     ·
      obtain ⟨rfl, q, hq, hqb⟩ := old_book hj2
      have hna : ¬ Apart r l := not_apart_take hlt hq (fun h => h.2 hqb)
      refine WC_cut [52, 53, 54, 55, 56, 57] (fun s σ => σ = ⟨F, [(p8, bx 147 [.bool false, .int .i64 (r.reader l[k])]), (p9, bx 147 [.bool true, .int .i64 (r.book l[k])]), (b1, mapO (((ents r (l.take k)) ++ [((cl false (r.reader l[k])), one)]).set j2 ((cl true (r.book l[k])), .int .i64 2)))]⟩) ?_ ?_
      ·
       refine WC_drawS (.inl rfl) (fun _ _ h => h) (.cons_cons _ <| .cons_cons _ <| .cons _ <| .refl _) [6] (by kernel_rfl) fun ds => ?_
       refine WX_take 0 rfl (by kernel_rfl) (by kernel_rfl) (by kernel_rfl) (by kernel_rfl) rfl rfl (fun _ h => h.drop (.cons_cons _ <| .cons_cons _ <| .cons _ <| .refl _)) (fun _ _ _ h => h) (q_move (lk8 rfl <| lk1 rfl <| lk_off rfl <| lk_off rfl <| lk4 rfl <| lk_off rfl <| lk2 rfl <| lk1 rfl <| lk0)) ?_
       refine WX_take 1 rfl (by kernel_rfl) (by kernel_rfl) (by kernel_rfl) (by kernel_rfl) rfl rfl (fun _ h => h.drop (.cons_cons _ <| .cons_cons _ <| .cons _ <| .refl _)) (fun _ _ _ h => h) (q_loadN agg_147 (lk8 rfl <| lk2 rfl <| lk_off rfl <| lk_in rfl hc9) rfl rfl (own_whole 1 rfl)) ?_
       refine WX_pick [2, 4] (by kernel_rfl) (by decide) (in2 ?_ ?_)
       ·
        refine WXop_x rfl rfl (x_quiet (q_lookupS mapT (lk1 rfl <| lk0) (lk0) (i := 2) rfl isB (all_snoc hall isA) (nd_snoc hnd hno) hj2).quiet ⟨fun _ _ => (fun _ h => h.drop (.cons_cons _ <| .cons_cons _ <| .cons _ <| .refl _)), ?_⟩)
        refine WX_take 3 rfl (by kernel_rfl) (by kernel_rfl) (by kernel_rfl) (by kernel_rfl) rfl rfl (fun _ h => h.drop (.cons_cons _ <| .cons_cons _ <| .cons _ <| .refl _)) (fun _ _ _ h => h) (q_add (lk0) lk_const rfl (by omega) (by omega)) ?_
        refine WX_x 4 rfl (by kernel_rfl) rfl (x_entryS mapT (lk2 rfl <| lk1 rfl <| lk0) (lk2 rfl <| lk0) (i := 2) rfl isB (all_snoc hall isA) (nd_snoc hnd hno) hj2 ⟨fun _ _ => (fun _ h => h.drop (.cons_cons _ <| .cons_cons _ <| .cons _ <| .refl _)), ?_⟩)
        refine WX_take 5 rfl (by kernel_rfl) (by kernel_rfl) (by kernel_rfl) (by kernel_rfl) rfl rfl (fun _ h => h.drop (.cons_cons _ <| .cons_cons _ <| .cons _ <| .refl _)) (fun _ _ _ h => h) (q_extract (lk0) rfl) ?_
        refine WX_x0 6 rfl (by kernel_rfl) (x_entryStore (lk4 rfl <| lk1 rfl <| lk0) (lk0) (lk2 rfl <| lk0) (i := 2) rfl (congrArg (Option.map (·.1)) hj2) (.next <| .next <| .here) ⟨(fun h => nomatch h), ?_⟩)
        refine WX_done (by kernel_rfl) ?_ _
        refine then_n ⟨_, Off.eq (ou4 rfl <| ou2 rfl <| off_refl), ?_⟩
        rfl
       ·
        refine WXop_x rfl rfl (x_entryS mapT (lk1 rfl <| lk0) (lk0) (i := 2) rfl isB (all_snoc hall isA) (nd_snoc hnd hno) hj2 ⟨fun _ _ => (fun _ h => h.drop (.cons_cons _ <| .cons_cons _ <| .cons _ <| .refl _)), ?_⟩)
        refine WX_take 5 rfl (by kernel_rfl) (by kernel_rfl) (by kernel_rfl) (by kernel_rfl) rfl rfl (fun _ h => h.drop (.cons_cons _ <| .cons_cons _ <| .cons _ <| .refl _)) (fun _ _ _ h => h) (q_extract (lk0) rfl) ?_
        refine WX_x 2 rfl (by kernel_rfl) rfl (x_quiet (q_lookupS mapT (lk2 rfl <| lk1 rfl <| lk0) (lk2 rfl <| lk0) (i := 2) rfl isB (all_snoc hall isA) (nd_snoc hnd hno) hj2).quiet ⟨fun _ _ => (fun _ h => h.drop (.cons_cons _ <| .cons_cons _ <| .cons _ <| .refl _)), ?_⟩)
        refine WX_take 3 rfl (by kernel_rfl) (by kernel_rfl) (by kernel_rfl) (by kernel_rfl) rfl rfl (fun _ h => h.drop (.cons_cons _ <| .cons_cons _ <| .cons _ <| .refl _)) (fun _ _ _ h => h) (q_add (lk0) lk_const rfl (by omega) (by omega)) ?_
        refine WX_x0 6 rfl (by kernel_rfl) (x_entryStore (lk4 rfl <| lk1 rfl <| lk0) (lk2 rfl <| lk0) (lk0) (i := 2) rfl (congrArg (Option.map (·.1)) hj2) (.next <| .next <| .here) ⟨(fun h => nomatch h), ?_⟩)
        refine WX_done (by kernel_rfl) ?_ _
        refine then_n ⟨_, Off.eq (ou4 rfl <| ou2 rfl <| off_refl), ?_⟩
        rfl
      rintro e19 _ rfl
      refine WC_seq ?_
      refine WC_reg fun ds => ?_
      refine WL_q rfl (q_move (lk_off rfl <| lk8 rfl <| lk1 rfl <| lk_off rfl <| lk_off rfl <| lk4 rfl <| lk_off rfl <| lk2 rfl <| lk1 rfl <| lk0)) ?_
      refine WL_q rfl (q_loadN agg_147 (lk1 rfl <| lk_off rfl <| lk8 rfl <| lk1 rfl <| lk_off rfl <| lk_in rfl hc9) rfl rfl (own_whole 1 rfl)) ?_
      refine WL_q rfl (q_lookupS mapT (lk1 rfl <| lk0) (lk0) (i := 2) rfl isB (all_set (all_snoc hall isA) hj2) (nd_set (nd_snoc hnd hno) hj2) (set_at hj2)) ?_
      refine WL_q rfl (q_gtr (lk0) lk_const) ?_
      refine WL_nil ?_
      refine then_n ?_
      refine WC_if_true (lk0) (by decide) ?_
      refine WC_seq ?_
      refine WC_reg fun ds => ?_
      refine WL_q rfl (q_assign lk_const) ?_
      refine WL_nil ?_
      refine then_n ?_
      refine WC_ret ?_
      refine block_r (then_r (then_r (block_r (then_r ?_))))
      refine post_ret rfl (.tmp (lk0) .nil) ?_
      show _ = _
      rw [decide_eq_false hna]; rfl
    ·
     obtain ⟨rfl, q, hq, hqr⟩ := old_reader hj
     have hna : ¬ Apart r l := not_apart_take hlt hq (fun h => h.1 hqr)
     refine WC_cut [37, 38, 39, 40, 41, 42] (fun s σ => σ = ⟨F, [(p8, bx 147 [.bool false, .int .i64 (r.reader l[k])]), (p9, bx 147 [.bool true, .int .i64 (r.book l[k])]), (b1, mapO ((ents r (l.take k)).set j ((cl false (r.reader l[k])), .int .i64 2)))]⟩) ?_ ?_
     ·
      refine WC_drawS (.inl rfl) (fun _ _ h => h) (.cons_cons _ <| .cons_cons _ <| .cons _ <| .refl _) [6] (by kernel_rfl) fun ds => ?_
      refine WX_take 0 rfl (by kernel_rfl) (by kernel_rfl) (by kernel_rfl) (by kernel_rfl) rfl rfl (fun _ h => h.drop (.cons_cons _ <| .cons_cons _ <| .cons _ <| .refl _)) (fun _ _ _ h => h) (q_move (lk_off rfl <| lk4 rfl <| lk_off rfl <| lk2 rfl <| lk1 rfl <| lk0)) ?_
      refine WX_take 1 rfl (by kernel_rfl) (by kernel_rfl) (by kernel_rfl) (by kernel_rfl) rfl rfl (fun _ h => h.drop (.cons_cons _ <| .cons_cons _ <| .cons _ <| .refl _)) (fun _ _ _ h => h) (q_loadN agg_147 (lk1 rfl <| lk_in rfl hc8) rfl rfl (own_whole 0 rfl)) ?_
      refine WX_pick [2, 4] (by kernel_rfl) (by decide) (in2 ?_ ?_)
      ·
       refine WXop_x rfl rfl (x_quiet (q_lookupS mapT (lk1 rfl <| lk0) (lk0) (i := 2) rfl isA hall hnd hj).quiet ⟨fun _ _ => (fun _ h => h.drop (.cons_cons _ <| .cons_cons _ <| .cons _ <| .refl _)), ?_⟩)
       refine WX_take 3 rfl (by kernel_rfl) (by kernel_rfl) (by kernel_rfl) (by kernel_rfl) rfl rfl (fun _ h => h.drop (.cons_cons _ <| .cons_cons _ <| .cons _ <| .refl _)) (fun _ _ _ h => h) (q_add (lk0) lk_const rfl (by omega) (by omega)) ?_
       refine WX_x 4 rfl (by kernel_rfl) rfl (x_entryS mapT (lk2 rfl <| lk1 rfl <| lk0) (lk2 rfl <| lk0) (i := 2) rfl isA hall hnd hj ⟨fun _ _ => (fun _ h => h.drop (.cons_cons _ <| .cons_cons _ <| .cons _ <| .refl _)), ?_⟩)
       refine WX_take 5 rfl (by kernel_rfl) (by kernel_rfl) (by kernel_rfl) (by kernel_rfl) rfl rfl (fun _ h => h.drop (.cons_cons _ <| .cons_cons _ <| .cons _ <| .refl _)) (fun _ _ _ h => h) (q_extract (lk0) rfl) ?_
       refine WX_x0 6 rfl (by kernel_rfl) (x_entryStore (lk4 rfl <| lk1 rfl <| lk0) (lk0) (lk2 rfl <| lk0) (i := 2) rfl (congrArg (Option.map (·.1)) hj) (.next <| .next <| .here) ⟨(fun h => nomatch h), ?_⟩)
       refine WX_done (by kernel_rfl) ?_ _
       refine then_n ⟨_, Off.eq (ou4 rfl <| ou2 rfl <| off_refl), ?_⟩
       rfl
      ·
       refine WXop_x rfl rfl (x_entryS mapT (lk1 rfl <| lk0) (lk0) (i := 2) rfl isA hall hnd hj ⟨fun _ _ => (fun _ h => h.drop (.cons_cons _ <| .cons_cons _ <| .cons _ <| .refl _)), ?_⟩)
       refine WX_take 5 rfl (by kernel_rfl) (by kernel_rfl) (by kernel_rfl) (by kernel_rfl) rfl rfl (fun _ h => h.drop (.cons_cons _ <| .cons_cons _ <| .cons _ <| .refl _)) (fun _ _ _ h => h) (q_extract (lk0) rfl) ?_
       refine WX_x 2 rfl (by kernel_rfl) rfl (x_quiet (q_lookupS mapT (lk2 rfl <| lk1 rfl <| lk0) (lk2 rfl <| lk0) (i := 2) rfl isA hall hnd hj).quiet ⟨fun _ _ => (fun _ h => h.drop (.cons_cons _ <| .cons_cons _ <| .cons _ <| .refl _)), ?_⟩)
       refine WX_take 3 rfl (by kernel_rfl) (by kernel_rfl) (by kernel_rfl) (by kernel_rfl) rfl rfl (fun _ h => h.drop (.cons_cons _ <| .cons_cons _ <| .cons _ <| .refl _)) (fun _ _ _ h => h) (q_add (lk0) lk_const rfl (by omega) (by omega)) ?_
       refine WX_x0 6 rfl (by kernel_rfl) (x_entryStore (lk4 rfl <| lk1 rfl <| lk0) (lk2 rfl <| lk0) (lk0) (i := 2) rfl (congrArg (Option.map (·.1)) hj) (.next <| .next <| .here) ⟨(fun h => nomatch h), ?_⟩)
       refine WX_done (by kernel_rfl) ?_ _
       refine then_n ⟨_, Off.eq (ou4 rfl <| ou2 rfl <| off_refl), ?_⟩
       rfl
     rintro e16 _ rfl
     refine WC_seq ?_
     refine WC_reg fun ds => ?_
     refine WL_q rfl (q_loadN agg_147 (lk_off rfl <| lk_in rfl hc8) rfl rfl (own_whole 0 rfl)) ?_
     refine WL_q rfl (q_loadN agg_147 (lk1 rfl <| lk_off rfl <| lk_in rfl hc9) rfl rfl (own_whole 1 rfl)) ?_
     refine WL_q rfl (q_eql2 Try.underlying147 stood guardT (by decide) (by decide) rfl rfl Try.underlying4 Try.underlying3 oneB_ oneZ_ (d0 := 0) (d1 := 0) rfl rfl (lk1 rfl <| lk0) (lk0)) ?_
     refine WL_q rfl (q_move (lk0)) ?_
     refine WL_want rfl rfl (lk0) rfl ?_
     refine WL_q rfl (q_move (lk4 rfl <| lk_off rfl <| lk_off rfl <| lk4 rfl <| lk_off rfl <| lk2 rfl <| lk1 rfl <| lk0)) ?_
     refine WL_want rfl rfl (lk1 rfl <| lk0) rfl ?_
     refine WL_q rfl (q_loadN agg_147 (lk4 rfl <| lk1 rfl <| lk_off rfl <| lk_in rfl hc8) rfl rfl (own_whole 0 rfl)) ?_
     refine WL_want rfl rfl (lk2 rfl <| lk0) rfl ?_
     refine WL_q rfl (q_lookupS mapT (lk1 rfl <| lk0) (lk0) (i := 2) rfl isA (all_set hall hj) (nd_set hnd hj) (set_at hj)) ?_
     refine WL_want rfl rfl (lk2 rfl <| lk1 rfl <| lk0) rfl ?_
     refine WL_q rfl (q_gtr (lk0) lk_const) ?_
     refine WL_q rfl (q_pick_false (lk4 rfl <| lk0) rfl (lk0)) ?_
     refine WL_nil ?_
     refine then_n ?_
     refine WC_if_true (lk0) (by decide) ?_
     refine WC_seq ?_
     refine WC_reg fun ds => ?_
     refine WL_q rfl (q_assign lk_const) ?_
     refine WL_nil ?_
     refine then_n ?_
     refine WC_ret ?_
     refine then_r (block_r (then_r (then_r (block_r (then_r ?_)))))
     refine post_ret rfl (.tmp (lk0) .nil) ?_
     show _ = _
     rw [decide_eq_false hna]; rfl
   ·
    refine WC_seq ?_
    refine WC_reg fun ds => ?_
    refine WL_q rfl (q_lss (lk_in rfl hs13) (lk_off rfl <| lk1 rfl <| lk0)) ?_
    refine WL_nil ?_
    refine then_n ?_
    refine WC_seq ?_
    refine WC_if_false (lk0) (by first | rfl | exact decide_eq_false (by omega)) ?_
    have hk : l.take k = l := List.take_of_length_le (by omega)
    refine WC_exit ?_
    refine then_x (then_x (exit_here ?_))
    refine then_n ?_
    refine WC_seq ?_
    refine WC_reg fun ds => ?_
    refine WL_q rfl (q_assign lk_const) ?_
    refine WL_nil ?_
    refine then_n ?_
    refine WC_ret ?_
    refine post_ret rfl (.tmp (lk0) .nil) ?_
    show _ = _
    rw [decide_eq_true (hk ▸ hap)]; rfl
end Go.Proofs.Ytbcjfkcpfjccdaa
namespace Go.Proofs.Ytbcjfkcpfjccdaa
open Go.RowKit
theorem bd_90 : Body Try.prog 90 := body_of (by kernel_rfl)
theorem one_144 : OneT Try.prog 144 := oneT_of (by kernel_rfl)
theorem sz_29 : SizeT Try.prog 29 1 := sizeT_of (by kernel_rfl)
set_option maxRecDepth 100000 in
theorem next_nil {F : Heap} {b c1 c8 c3 : Nat} {vb vr vs vq vl : Value} {r : Room} {v : Value} {l : List Nat} {bl bb bo co d2 d3 d7 n : Nat} (hN : NextX num 29 144 90 F b c1 c8 c3 vb vr vs vq vl r v l bl bb bo co d2 d3 d7 n) (hv : Valid r) (hlt2 : ∀ i ∈ l, i < r.reqs.length) (hn8 : n ≤ 8) {i : Nat} {pre : List Nat} {own : List Value} {ub : Value} {L sum : Int} {mask : Nat} {best : Option (List Nat × Int)} (hp : pre.length = i) (ho : own.length = n) (ht : own.take i = pre.flatMap natE) (hB : BestC F best ub L) (hm : ∀ s, mask.testBit s = decide (s ∈ pre)) (hm6 : mask < 64) (hs0 : 0 ≤ sum) (hs1 : sum ≤ 1200 * i) (hi : i = n) : OkM Try.prog 90 [.int .i64 i, .int .i64 mask, .int .i64 sum, .pointer (some ⟨bl, 0, none⟩), .pointer (some ⟨co, 0, none⟩), .pointer (some ⟨bb, 0, none⟩), .pointer (some ⟨d2, 0, none⟩), .pointer (some ⟨d3, 0, none⟩), .pointer (some ⟨d7, 0, none⟩)].toArray F [(bl, bx 3 [.int .i64 L]), (bb, bx 29 [ub]), (bo, bx 3 own)] fun _ F' H' => ∃ ub' own' L', H' = [(bl, bx 3 [.int .i64 L']), (bb, bx 29 [ub']), (bo, bx 3 own')] ∧ own'.length = n ∧ own'.take i = pre.flatMap natE ∧ BestC F' (search r (l.drop i) pre sum best) ub' L' := by
  refine OkM.intro Try.func90 rfl Try.ntmps90 rfl fun w0 => ?_
  have hown : own = pre.flatMap natE := by rw [← ht]; exact (List.take_of_length_le (by omega)).symm
  refine WC_seq ?_
  refine WC_seq ?_
  refine WC_cut [13, 14, 15, 16, 17, 18, 19] (fun s σ => s 19 = .bool (decide (0 ≤ L ∧ L ≤ sum)) ∧ σ = ⟨F, [(bl, bx 3 [.int .i64 L]), (bb, bx 29 [ub]), (bo, bx 3 own)]⟩) ?_ ?_
  ·
   by_cases h0L : 0 ≤ L
   ·
    refine WC_reg fun ds => ?_
    refine WL_q rfl (q_load1 one_3 (lk_entry rfl) (Cell.own 0 rfl rfl)) ?_
    refine WL_q rfl (q_geq (lk0) lk_const) ?_
    refine WL_q rfl (q_move (lk0)) ?_
    refine WL_want rfl rfl (lk0) (decide_eq_true h0L) ?_
    refine WL_q rfl (q_move (lk2 rfl <| lk1 rfl <| lk_entry rfl)) ?_
    refine WL_want rfl rfl (lk1 rfl <| lk0) (decide_eq_true h0L) ?_
    refine WL_q rfl (q_load1 one_3 (lk4 rfl <| lk_entry rfl) (Cell.own 0 rfl rfl)) ?_
    refine WL_want rfl rfl (lk2 rfl <| lk0) (decide_eq_true h0L) ?_
    refine WL_q rfl (q_geq (lk1 rfl <| lk0) (lk0)) ?_
    refine WL_q rfl (q_pick_true (lk2 rfl <| lk1 rfl <| lk0) (decide_eq_true h0L) (lk0)) ?_
    refine WL_nil ?_
    refine then_n ⟨_, Off.eq (ou4 rfl <| ou2 rfl <| ou1 rfl <| off_refl), ?_⟩
    exact ⟨((lk0)).trans (by simp [h0L]), rfl⟩
   ·
    refine WC_reg fun ds => ?_
    refine WL_q rfl (q_load1 one_3 (lk_entry rfl) (Cell.own 0 rfl rfl)) ?_
    refine WL_q rfl (q_geq (lk0) lk_const) ?_
    refine WL_q rfl (q_move (lk0)) ?_
    refine WL_pass rfl rfl (lk0) (.inl (congrArg Value.bool (decide_eq_false h0L))) rfl ?_
    refine WL_pass rfl rfl (lk1 rfl <| lk0) (.inl (congrArg Value.bool (decide_eq_false h0L))) rfl ?_
    refine WL_pass rfl rfl (lk2 rfl <| lk0) (.inl (congrArg Value.bool (decide_eq_false h0L))) rfl ?_
    refine WL_q rfl (q_pick_false (lk2 rfl <| lk1 rfl <| lk0) (decide_eq_false h0L) lk_const) ?_
    refine WL_nil ?_
    refine then_n ⟨_, Off.eq (ou4 rfl <| ou2 rfl <| ou1 rfl <| off_refl), ?_⟩
    exact ⟨((lk0)).trans (by simp [h0L]), rfl⟩
  rintro e1 _ ⟨hc19, rfl⟩
  by_cases hc : 0 ≤ L ∧ L ≤ sum
  ·
   refine WC_if_true (lk_in rfl hc19) (decide_eq_true hc) ?_
   refine WC_ret ?_
   refine then_r ?_
   refine post_retM rfl .nil (.cons (.here) <| .cons (.here) <| .cons (.here) <| .nil) rfl ?_
   exact ⟨_, _, _, rfl, ho, ht, by rw [search_cut (hB.cut.2 hc)]; exact hB⟩
  ·
   refine WC_if_false (lk_in rfl hc19) (decide_eq_false hc) ?_
   refine WC_skip ?_
   refine then_n ?_
   refine WC_seq ?_
   refine WC_seq ?_
   refine WC_reg fun ds => ?_
   refine WL_q rfl (q_move (lk_off rfl <| lk_entry rfl)) ?_
   refine WL_q rfl (q_load1 one_29 (lk1 rfl <| lk_off rfl <| lk_entry rfl) (CellF.own hN.own rfl).cell) ?_
   refine WL_q rfl (q_len sl_29 (lk0)) ?_
   refine WL_q rfl (q_eql (lk2 rfl <| lk0) (lk0)) ?_
   refine WL_nil ?_
   refine then_n ?_
   refine WC_if_true (lk0) (decide_eq_true (by omega)) ?_
   refine WC_seq ?_
   refine WC_reg fun ds => ?_
   refine WL_q rfl (q_load1 one_29 (lk4 rfl <| lk_off rfl <| lk_entry rfl) (CellF.own hN.own rfl).cell) ?_
   refine WL_q rfl (q_len sl_29 (lk0)) ?_
   refine WL_x rfl (x_make (k := n) sl_29 el_3 rfl rfl (lk0) (lk0) rfl (by omega) (by omega) fun b1 hb1 nb1 => ?_)
   refine WL_x0 (x_store1 sz_29 (lk4 rfl <| lk2 rfl <| lk1 rfl <| lk_off rfl <| lk_entry rfl) (lk0) (i := 2) rfl (.here) rfl (.next <| .next <| .here) ?_)
   refine WL_nil ?_
   refine then_n ?_
   refine WC_seq ?_
   refine WC_reg fun ds => ?_
   refine WL_q rfl (q_load1 one_29 (lk4 rfl <| lk2 rfl <| lk1 rfl <| lk_off rfl <| lk_entry rfl) (Cell.own 2 rfl rfl)) ?_
   refine WL_q rfl (q_load1 one_29 (lk8 rfl <| lk_off rfl <| lk_entry rfl) (CellF.own hN.own rfl).cell) ?_
   refine WL_x rfl (x_copy (s := 1) rfl sl_29 (lk1 rfl <| lk0) (lk0) (i := 0) rfl (by simp) (src_box (s := 1) 3 rfl (by omega) (by rw [hown]; exact natsE_one)) (.here) ?_)
   refine WL_nil ?_
   refine then_n ?_
   refine WC_seq ?_
   refine WC_freeze (i := 0) rfl hb1 (.here) fun F2 hF3 hz26 => ?_
   replace hN := hN.mono hF3
   replace hB := hB.mono hF3
   refine WC_reg fun ds => ?_
   refine WL_q rfl (q_move (lk8 rfl <| lk2 rfl <| lk_off rfl <| lk_entry rfl)) ?_
   refine WL_x0 (x_store1 sz_3 (lk8 rfl <| lk2 rfl <| lk1 rfl <| lk_off rfl <| lk_entry rfl) (lk0) (i := 0) rfl (.here) rfl (.here) ?_)
   refine WL_nil ?_
   refine then_n ?_
   refine WC_ret ?_
   refine then_r ?_
   refine post_retM rfl .nil (.cons (.here) <| .cons (.here) <| .cons (.here) <| .nil) rfl ?_
   refine ⟨_, _, _, rfl, ho, ht, ?_⟩
   rw [show l.drop i = [] from List.drop_of_length_le (by have := hN.len; omega), search_nil (fun h => hc (hB.cut.1 h))]
   exact BestC.mk' (nats_box (l := pre) (by rw [← hown]; exact hz26) (by omega) (by omega)) hs0
def NextOk (r : Room) (b c1 c8 c3 : Nat) (vb vr vs vq vl v : Value) (l : List Nat) (bl bb bo co d2 d3 d7 n i : Nat) : Prop :=
  ∀ {F : Heap} {pre : List Nat} {own : List Value} {ub : Value} {L sum : Int} {mask : Nat} {best : Option (List Nat × Int)}, NextX num 29 144 90 F b c1 c8 c3 vb vr vs vq vl r v l bl bb bo co d2 d3 d7 n → pre.length = i → own.length = n → own.take i = pre.flatMap natE → BestC F best ub L → (∀ s, mask.testBit s = decide (s ∈ pre)) → mask < 64 → 0 ≤ sum → sum ≤ 1200 * i →
    OkM Try.prog 90 [.int .i64 i, .int .i64 mask, .int .i64 sum, .pointer (some ⟨bl, 0, none⟩), .pointer (some ⟨co, 0, none⟩), .pointer (some ⟨bb, 0, none⟩), .pointer (some ⟨d2, 0, none⟩), .pointer (some ⟨d3, 0, none⟩), .pointer (some ⟨d7, 0, none⟩)].toArray F [(bl, bx 3 [.int .i64 L]), (bb, bx 29 [ub]), (bo, bx 3 own)] (fun _ F' H' => ∃ ub' own' L', H' = [(bl, bx 3 [.int .i64 L']), (bb, bx 29 [ub']), (bo, bx 3 own')] ∧ own'.length = n ∧ own'.take i = pre.flatMap natE ∧ BestC F' (search r (l.drop i) pre sum best) ub' L')
set_option maxRecDepth 100000 in
theorem next_step {F : Heap} {b c1 c8 c3 : Nat} {vb vr vs vq vl : Value} {r : Room} {v : Value} {l : List Nat} {bl bb bo co d2 d3 d7 n : Nat} (hN : NextX num 29 144 90 F b c1 c8 c3 vb vr vs vq vl r v l bl bb bo co d2 d3 d7 n) (hv : Valid r) (hlt2 : ∀ i ∈ l, i < r.reqs.length) (hn8 : n ≤ 8) {i : Nat} {pre : List Nat} {own : List Value} {ub : Value} {L sum : Int} {mask : Nat} {best : Option (List Nat × Int)} (hp : pre.length = i) (ho : own.length = n) (ht : own.take i = pre.flatMap natE) (hB : BestC F best ub L) (hm : ∀ s, mask.testBit s = decide (s ∈ pre)) (hm6 : mask < 64) (hs0 : 0 ≤ sum) (hs1 : sum ≤ 1200 * i) (hi : i < n) (ih : NextOk r b c1 c8 c3 vb vr vs vq vl v l bl bb bo co d2 d3 d7 n (i + 1)) : OkM Try.prog 90 [.int .i64 i, .int .i64 mask, .int .i64 sum, .pointer (some ⟨bl, 0, none⟩), .pointer (some ⟨co, 0, none⟩), .pointer (some ⟨bb, 0, none⟩), .pointer (some ⟨d2, 0, none⟩), .pointer (some ⟨d3, 0, none⟩), .pointer (some ⟨d7, 0, none⟩)].toArray F [(bl, bx 3 [.int .i64 L]), (bb, bx 29 [ub]), (bo, bx 3 own)] fun _ F' H' => ∃ ub' own' L', H' = [(bl, bx 3 [.int .i64 L']), (bb, bx 29 [ub']), (bo, bx 3 own')] ∧ own'.length = n ∧ own'.take i = pre.flatMap natE ∧ BestC F' (search r (l.drop i) pre sum best) ub' L' := by
  refine OkM.intro Try.func90 rfl Try.ntmps90 rfl fun w0 => ?_
  have hin : i < l.length := by have := hN.len; omega
  obtain ⟨q, hqe⟩ : ∃ q, l[i] = q := ⟨_, rfl⟩
  have hq : q < r.reqs.length := by rw [← hqe]; exact hlt2 _ (List.getElem_mem hin)
  have hq8 : q < 8 := by have := hv.nq; omega
  have hdrop : l.drop i = q :: l.drop (i + 1) := by rw [List.drop_eq_getElem_cons hin, hqe]
  have hL1 := hN.room.room.seats.plain.lt
  refine WC_seq ?_
  refine WC_seq ?_
  refine WC_cut [13, 14, 15, 16, 17, 18, 19] (fun s σ => s 19 = .bool (decide (0 ≤ L ∧ L ≤ sum)) ∧ σ = ⟨F, [(bl, bx 3 [.int .i64 L]), (bb, bx 29 [ub]), (bo, bx 3 own)]⟩) ?_ ?_
  ·
   by_cases h0L : 0 ≤ L
   ·
    refine WC_reg fun ds => ?_
    refine WL_q rfl (q_load1 one_3 (lk_entry rfl) (Cell.own 0 rfl rfl)) ?_
    refine WL_q rfl (q_geq (lk0) lk_const) ?_
    refine WL_q rfl (q_move (lk0)) ?_
    refine WL_want rfl rfl (lk0) (decide_eq_true h0L) ?_
    refine WL_q rfl (q_move (lk2 rfl <| lk1 rfl <| lk_entry rfl)) ?_
    refine WL_want rfl rfl (lk1 rfl <| lk0) (decide_eq_true h0L) ?_
    refine WL_q rfl (q_load1 one_3 (lk4 rfl <| lk_entry rfl) (Cell.own 0 rfl rfl)) ?_
    refine WL_want rfl rfl (lk2 rfl <| lk0) (decide_eq_true h0L) ?_
    refine WL_q rfl (q_geq (lk1 rfl <| lk0) (lk0)) ?_
    refine WL_q rfl (q_pick_true (lk2 rfl <| lk1 rfl <| lk0) (decide_eq_true h0L) (lk0)) ?_
    refine WL_nil ?_
    refine then_n ⟨_, Off.eq (ou4 rfl <| ou2 rfl <| ou1 rfl <| off_refl), ?_⟩
    exact ⟨((lk0)).trans (by simp [h0L]), rfl⟩
   ·
    refine WC_reg fun ds => ?_
    refine WL_q rfl (q_load1 one_3 (lk_entry rfl) (Cell.own 0 rfl rfl)) ?_
    refine WL_q rfl (q_geq (lk0) lk_const) ?_
    refine WL_q rfl (q_move (lk0)) ?_
    refine WL_pass rfl rfl (lk0) (.inl (congrArg Value.bool (decide_eq_false h0L))) rfl ?_
    refine WL_pass rfl rfl (lk1 rfl <| lk0) (.inl (congrArg Value.bool (decide_eq_false h0L))) rfl ?_
    refine WL_pass rfl rfl (lk2 rfl <| lk0) (.inl (congrArg Value.bool (decide_eq_false h0L))) rfl ?_
    refine WL_q rfl (q_pick_false (lk2 rfl <| lk1 rfl <| lk0) (decide_eq_false h0L) lk_const) ?_
    refine WL_nil ?_
    refine then_n ⟨_, Off.eq (ou4 rfl <| ou2 rfl <| ou1 rfl <| off_refl), ?_⟩
    exact ⟨((lk0)).trans (by simp [h0L]), rfl⟩
  rintro e1 _ ⟨hc19, rfl⟩
  by_cases hc : 0 ≤ L ∧ L ≤ sum
  ·
   refine WC_if_true (lk_in rfl hc19) (decide_eq_true hc) ?_
   refine WC_ret ?_
   refine then_r ?_
   refine post_retM rfl .nil (.cons (.here) <| .cons (.here) <| .cons (.here) <| .nil) rfl ?_
   exact ⟨_, _, _, rfl, ho, ht, by rw [search_cut (hB.cut.2 hc)]; exact hB⟩
  ·
   refine WC_if_false (lk_in rfl hc19) (decide_eq_false hc) ?_
   refine WC_skip ?_
   refine then_n ?_
   refine WC_seq ?_
   refine WC_seq ?_
   refine WC_reg fun ds => ?_
   refine WL_q rfl (q_move (lk_off rfl <| lk_entry rfl)) ?_
   refine WL_q rfl (q_load1 one_29 (lk1 rfl <| lk_off rfl <| lk_entry rfl) (CellF.own hN.own rfl).cell) ?_
   refine WL_q rfl (q_len sl_29 (lk0)) ?_
   refine WL_q rfl (q_eql (lk2 rfl <| lk0) (lk0)) ?_
   refine WL_nil ?_
   refine then_n ?_
   refine WC_if_false (lk0) (decide_eq_false (by omega)) ?_
   refine WC_skip ?_
   refine then_n ?_
   refine WC_seq ?_
   refine WC_reg fun ds => ?_
   refine WL_q rfl (q_load1 one_98 (lk4 rfl <| lk_off rfl <| lk_entry rfl) (CellF.own hN.rm rfl).cell) ?_
   refine WL_q rfl (q_nilCheck (lk0)) ?_
   refine WL_q rfl (q_fieldAddrB fd_114_0 (lk0)) ?_
   refine WL_q rfl (q_fieldAddrB fd_27_2 (lk0)) ?_
   refine WL_q rfl (q_load1 one_24 (lk0) (CellF.own hN.room.blk rfl).cell) ?_
   refine WL_q rfl (q_lenP sl_24 (lk0) hN.room.room.seats.plain) ?_
   refine WL_q rfl (q_move lk_const) ?_
   refine WL_nil ?_
   refine then_n ?_
   refine WC_block ?_
   refine WC_loopN [12, 37, 38, 39, 40, 41, 42, 43, 44, 45, 46, 47, 48, 49, 50, 51, 52, 53, 54, 55, 56, 57, 58, 59, 60, 61, 62, 63, 64, 65, 66, 67, 68, 69, 70, 71, 72, 73, 74, 75, 76, 77, 78, 79, 80] (fun m e σ => ∃ G, NextX num 29 144 90 G b c1 c8 c3 vb vr vs vq vl r v l bl bb bo co d2 d3 d7 n ∧ ∃ k : Nat, m + k = r.seats.length ∧ e 37 = .int .i64 k ∧ ∃ ub1 own1 L1, own1.length = n ∧ own1.take i = pre.flatMap natE ∧ BestC G ((List.range k).foldl (tryS r q pre sum (search r (l.drop (i + 1)))) best) ub1 L1 ∧ σ = ⟨G, [(bl, bx 3 [.int .i64 L1]), (bb, bx 29 [ub1]), (bo, bx 3 own1)]⟩) (r.seats.length) ?_ ?_
   · exact ⟨_, hN, 0, by omega, (lk0), _, _, _, ho, ht, hB, rfl⟩
   ·
    rintro m e _ ⟨G, hN, k, hm1, hs37, ub1, own1, L1, ho1, ht1, hB1, rfl⟩
    by_cases hk : k < r.seats.length
    ·
     refine WC_seq ?_
     refine WC_reg fun ds => ?_
     refine WL_q rfl (q_lss (lk_in rfl hs37) (lk_off rfl <| lk1 rfl <| lk0)) ?_
     refine WL_nil ?_
     refine then_n ?_
     refine WC_seq ?_
     refine WC_if_true (lk0) (by first | rfl | exact decide_eq_true (by omega)) ?_
     have hk6 : k < 6 := by have := hv.ns; omega
     have hpk := pow_lt hk6
     by_cases hmk : k ∈ pre
     ·
      refine WC_skip ?_
      refine then_n ?_
      refine WC_seq ?_
      refine WC_block ?_
      refine WC_seq ?_
      refine WC_reg fun ds => ?_
      refine WL_q rfl (q_move (lk1 rfl <| lk_in rfl hs37)) ?_
      refine WL_q rfl (q_assign (lk0)) ?_
      refine WL_nil ?_
      refine then_n ?_
      refine WC_seq ?_
      refine WC_seq ?_
      refine WC_draw (.inl rfl) (fun _ _ h => h) (by kernel_rfl) (by kernel_rfl) fun ds => ?_
      refine WQ_q rfl (q_move (lk2 rfl <| lk1 rfl <| lk_off rfl <| lk8 rfl <| lk2 rfl <| lk1 rfl <| lk_off rfl <| lk_entry rfl)) ?_
      refine WQ_q rfl (q_move (lk1 rfl <| lk0)) ?_
      refine WQ_q rfl (q_shr (lk1 rfl <| lk0) (lk0) rfl (by show k < 64; omega) shr_nat) ?_
      refine WQ_q rfl (q_and (lk0) lk_const (m := mask / 2 ^ k) (k := 1) rfl rfl (by have := Nat.div_le_self mask (2 ^ k); omega) (by omega) rfl) ?_
      refine WQ_q rfl (q_eql (lk0) lk_const) ?_
      refine WQ_q rfl (q_move (lk0)) ?_
      refine WQ_pass rfl rfl (lk0) (.inl (congrArg Value.bool (by rw [bit_eq, hm]; exact decide_eq_true hmk))) rfl ?_
      refine WQ_pass rfl rfl (lk1 rfl <| lk0) (.inl (congrArg Value.bool (by rw [bit_eq, hm]; exact decide_eq_true hmk))) rfl ?_
      refine WQ_pass rfl rfl (lk2 rfl <| lk0) (.inl (congrArg Value.bool (by rw [bit_eq, hm]; exact decide_eq_true hmk))) rfl ?_
      refine WQ_pass rfl rfl (lk2 rfl <| lk1 rfl <| lk0) (.inl (congrArg Value.bool (by rw [bit_eq, hm]; exact decide_eq_true hmk))) rfl ?_
      refine WQ_pass rfl rfl (lk4 rfl <| lk0) (.inl (congrArg Value.bool (by rw [bit_eq, hm]; exact decide_eq_true hmk))) rfl ?_
      refine WQ_pass rfl rfl (lk4 rfl <| lk1 rfl <| lk0) (.inl (congrArg Value.bool (by rw [bit_eq, hm]; exact decide_eq_true hmk))) rfl ?_
      refine WQ_pass rfl rfl (lk4 rfl <| lk2 rfl <| lk0) (.inl (congrArg Value.bool (by rw [bit_eq, hm]; exact decide_eq_true hmk))) rfl ?_
      refine WQ_pass rfl rfl (lk4 rfl <| lk2 rfl <| lk1 rfl <| lk0) (.inl (congrArg Value.bool (by rw [bit_eq, hm]; exact decide_eq_true hmk))) rfl ?_
      refine WQ_q rfl (q_pick_true (lk8 rfl <| lk0) (by rw [bit_eq, hm]; exact decide_eq_true hmk) lk_const) ?_
      refine WQ_nil ?_
      refine then_n ?_
      refine WC_if_true (lk0) (by first | rfl | (rw [bit_eq, hm]; exact decide_eq_true hmk)) ?_
      refine WC_exit ?_
      refine then_x (exit_here ?_)
      refine then_n ?_
      refine WC_reg fun ds => ?_
      refine WL_q rfl (q_add (lk16 rfl <| lk2 rfl <| lk_in rfl hs37) lk_const rfl (by omega) (by omega)) ?_
      refine WL_q rfl (q_move (lk0)) ?_
      refine WL_nil ?_
      refine then_n ⟨_, m - 1, Off.eq (ou16 rfl <| ou4 rfl <| off_over), by omega, ?_⟩
      refine ⟨_, hN, k + 1, by omega, (lk0), _, _, _, ho1, ht1, ?_, rfl⟩
      rw [fold_succ, tryS_skip (.inl hmk)]; exact hB1
     ·
      refine WC_skip ?_
      refine then_n ?_
      refine WC_seq ?_
      refine WC_block ?_
      refine WC_seq ?_
      refine WC_reg fun ds => ?_
      refine WL_q rfl (q_move (lk1 rfl <| lk_in rfl hs37)) ?_
      refine WL_q rfl (q_assign (lk0)) ?_
      refine WL_nil ?_
      refine then_n ?_
      refine WC_seq ?_
      refine WC_seq ?_
      refine WC_draw (.inl rfl) (fun _ _ h => h) (by kernel_rfl) (by kernel_rfl) fun ds => ?_
      refine WQ_q rfl (q_move (lk2 rfl <| lk1 rfl <| lk_off rfl <| lk8 rfl <| lk2 rfl <| lk1 rfl <| lk_off rfl <| lk_entry rfl)) ?_
      refine WQ_q rfl (q_move (lk1 rfl <| lk0)) ?_
      refine WQ_q rfl (q_shr (lk1 rfl <| lk0) (lk0) rfl (by show k < 64; omega) shr_nat) ?_
      refine WQ_q rfl (q_and (lk0) lk_const (m := mask / 2 ^ k) (k := 1) rfl rfl (by have := Nat.div_le_self mask (2 ^ k); omega) (by omega) rfl) ?_
      refine WQ_q rfl (q_eql (lk0) lk_const) ?_
      refine WQ_q rfl (q_move (lk0)) ?_
      refine WQ_want rfl rfl (lk0) (by rw [bit_eq, hm]; exact decide_eq_false hmk) ?_
      refine WQ_q rfl (q_load1 one_98 (lk8 rfl <| lk1 rfl <| lk_off rfl <| lk8 rfl <| lk2 rfl <| lk1 rfl <| lk_off rfl <| lk_entry rfl) (CellF.own hN.rm rfl).cell) ?_
      refine WQ_want rfl rfl (lk1 rfl <| lk0) (by rw [bit_eq, hm]; exact decide_eq_false hmk) ?_
      refine WQ_q rfl (q_load1 one_29 (lk8 rfl <| lk2 rfl <| lk_off rfl <| lk8 rfl <| lk2 rfl <| lk1 rfl <| lk_off rfl <| lk_entry rfl) (CellF.own hN.rq rfl).cell) ?_
      refine WQ_want rfl rfl (lk2 rfl <| lk0) (by rw [bit_eq, hm]; exact decide_eq_false hmk) ?_
      refine WQ_q rfl (q_move (lk8 rfl <| lk2 rfl <| lk1 rfl <| lk_off rfl <| lk8 rfl <| lk2 rfl <| lk1 rfl <| lk_off rfl <| lk_entry rfl)) ?_
      refine WQ_want rfl rfl (lk2 rfl <| lk1 rfl <| lk0) (by rw [bit_eq, hm]; exact decide_eq_false hmk) ?_
      refine WQ_q rfl (q_index (k := i) sl_29 (lk1 rfl <| lk0) hN.idx.plain (lk0) rfl hin) ?_
      refine WQ_want rfl rfl (lk4 rfl <| lk0) (by rw [bit_eq, hm]; exact decide_eq_false hmk) ?_
      refine WQ_q rfl (q_load1 one_3 (lk0) (hN.idx.cell1 hin rfl)) ?_
      refine WQ_want rfl rfl (lk4 rfl <| lk1 rfl <| lk0) (by rw [bit_eq, hm]; exact decide_eq_false hmk) ?_
      refine WQ_q rfl (q_move (lk8 rfl <| lk2 rfl <| lk1 rfl <| lk0)) ?_
      refine WQ_want rfl rfl (lk4 rfl <| lk2 rfl <| lk0) (by rw [bit_eq, hm]; exact decide_eq_false hmk) ?_
      refine WQ_c rfl (q_call bd_58 lk_func (.cons (lk4 rfl <| lk1 rfl <| lk0) (.cons (lk1 rfl <| lk0) (.cons (lk0) .nil))) (why_ok (i := l[i]) hN.room hv (hlt2 _ (List.getElem_mem hin)) hk) (fun _ _ h => h.trans (by rw [hqe]))) ?_
      refine WQ_want rfl rfl (lk4 rfl <| lk2 rfl <| lk1 rfl <| lk0) (by rw [bit_eq, hm]; exact decide_eq_false hmk) ?_
      refine WQ_q rfl (q_neq (lk0) lk_const) ?_
      refine WQ_q rfl (q_pick_false (lk8 rfl <| lk0) (by rw [bit_eq, hm]; exact decide_eq_false hmk) (lk0)) ?_
      refine WQ_nil ?_
      refine then_n ?_
      by_cases hrs : reason r q k ≠ 0
      ·
       refine WC_if_true (lk0) (decide_eq_true hrs) ?_
       refine WC_exit ?_
       refine then_x (exit_here ?_)
       refine then_n ?_
       refine WC_reg fun ds => ?_
       refine WL_q rfl (q_add (lk16 rfl <| lk2 rfl <| lk_in rfl hs37) lk_const rfl (by omega) (by omega)) ?_
       refine WL_q rfl (q_move (lk0)) ?_
       refine WL_nil ?_
       refine then_n ⟨_, m - 1, Off.eq (ou16 rfl <| ou4 rfl <| off_over), by omega, ?_⟩
       refine ⟨_, hN, k + 1, by omega, (lk0), _, _, _, ho1, ht1, ?_, rfl⟩
       rw [fold_succ, tryS_skip (.inr hrs)]; exact hB1
      ·
       refine WC_if_false (lk0) (decide_eq_false hrs) ?_
       have hlb := light_bound hv hq hk
       refine WC_skip ?_
       refine then_n ?_
       refine WC_seq ?_
       refine WC_reg fun ds => ?_
       refine WL_q rfl (q_load1 one_29 (lk16 rfl <| lk2 rfl <| lk_off rfl <| lk8 rfl <| lk2 rfl <| lk1 rfl <| lk_off rfl <| lk_entry rfl) (CellF.own hN.own rfl).cell) ?_
       refine WL_q rfl (q_move (lk16 rfl <| lk2 rfl <| lk1 rfl <| lk_off rfl <| lk8 rfl <| lk2 rfl <| lk1 rfl <| lk_off rfl <| lk_entry rfl)) ?_
       refine WL_q rfl (q_move (lk16 rfl <| lk1 rfl <| lk0)) ?_
       refine WL_q rfl (q_index (k := i) sl_29 (lk2 rfl <| lk0) (plain_row (Nat.le_refl n) (by omega)) (lk1 rfl <| lk0) rfl hi) ?_
       refine WL_x0 (x_storeK (k := i) sz_3 (lk0) (by simp [addc, base]) (lk1 rfl <| lk0) (i := 2) rfl (by rw [ho1]; exact hi) rfl (.next <| .next <| .here) ?_)
       refine WL_nil ?_
       refine then_n ?_
       refine WC_drawS (.inl rfl) (fun _ _ h => h) (.cons_cons _ <| .cons_cons _ <| .cons_cons _ <| .refl _) [20] (by kernel_rfl) fun ds => ?_
       refine WX_take 0 rfl (by kernel_rfl) (by kernel_rfl) (by kernel_rfl) (by kernel_rfl) rfl rfl (fun _ h => h.drop (.cons_cons _ <| .cons_cons _ <| .cons_cons _ <| .refl _)) (fun _ _ _ h => h) (q_load1 one_144 (lk16 rfl <| lk4 rfl <| lk2 rfl <| lk_off rfl <| lk8 rfl <| lk2 rfl <| lk1 rfl <| lk_off rfl <| lk_entry rfl) (CellF.own hN.nx rfl).cell) ?_
       refine WX_take 1 rfl (by kernel_rfl) (by kernel_rfl) (by kernel_rfl) (by kernel_rfl) rfl rfl (fun _ h => h.drop (.cons_cons _ <| .cons_cons _ <| .cons_cons _ <| .refl _)) (fun _ _ _ h => h) (q_move (lk16 rfl <| lk4 rfl <| lk2 rfl <| lk1 rfl <| lk_off rfl <| lk8 rfl <| lk2 rfl <| lk1 rfl <| lk_off rfl <| lk_entry rfl)) ?_
       refine WX_take 2 rfl (by kernel_rfl) (by kernel_rfl) (by kernel_rfl) (by kernel_rfl) rfl rfl (fun _ h => h.drop (.cons_cons _ <| .cons_cons _ <| .cons_cons _ <| .refl _)) (fun _ _ _ h => h) (q_add (lk0) lk_const rfl (by omega) (by omega)) ?_
       refine WX_take 3 rfl (by kernel_rfl) (by kernel_rfl) (by kernel_rfl) (by kernel_rfl) rfl rfl (fun _ h => h.drop (.cons_cons _ <| .cons_cons _ <| .cons_cons _ <| .refl _)) (fun _ _ _ h => h) (q_move (lk16 rfl <| lk8 rfl <| lk1 rfl <| lk_off rfl <| lk8 rfl <| lk2 rfl <| lk1 rfl <| lk_off rfl <| lk_entry rfl)) ?_
       refine WX_take 4 rfl (by kernel_rfl) (by kernel_rfl) (by kernel_rfl) (by kernel_rfl) rfl rfl (fun _ h => h.drop (.cons_cons _ <| .cons_cons _ <| .cons_cons _ <| .refl _)) (fun _ _ _ h => h) (q_move (lk16 rfl <| lk4 rfl <| lk2 rfl <| lk1 rfl <| lk0)) ?_
       refine WX_take 5 rfl (by kernel_rfl) (by kernel_rfl) (by kernel_rfl) (by kernel_rfl) rfl rfl (fun _ h => h.drop (.cons_cons _ <| .cons_cons _ <| .cons_cons _ <| .refl _)) (fun _ _ _ h => h) (q_shl lk_const (lk0) (k := k) rfl (by omega) (show (1 : Int) * 2 ^ k = ((2 ^ k : Nat) : Int) by simp) (Int.le_trans (by decide) (Int.natCast_nonneg (2 ^ k))) (by omega)) ?_
       refine WX_take 6 rfl (by kernel_rfl) (by kernel_rfl) (by kernel_rfl) (by kernel_rfl) rfl rfl (fun _ h => h.drop (.cons_cons _ <| .cons_cons _ <| .cons_cons _ <| .refl _)) (fun _ _ _ h => h) (q_or (lk2 rfl <| lk0) (lk0) (m := mask) (k := 2 ^ k) rfl (by simp) (by omega) (by omega) rfl) ?_
       refine WX_take 7 rfl (by kernel_rfl) (by kernel_rfl) (by kernel_rfl) (by kernel_rfl) rfl rfl (fun _ h => h.drop (.cons_cons _ <| .cons_cons _ <| .cons_cons _ <| .refl _)) (fun _ _ _ h => h) (q_move (lk16 rfl <| lk8 rfl <| lk4 rfl <| lk1 rfl <| lk_off rfl <| lk8 rfl <| lk2 rfl <| lk1 rfl <| lk_off rfl <| lk_entry rfl)) ?_
       refine WX_take 8 rfl (by kernel_rfl) (by kernel_rfl) (by kernel_rfl) (by kernel_rfl) rfl rfl (fun _ h => h.drop (.cons_cons _ <| .cons_cons _ <| .cons_cons _ <| .refl _)) (fun _ _ _ h => h) (q_load1 one_98 (lk16 rfl <| lk8 rfl <| lk4 rfl <| lk2 rfl <| lk_off rfl <| lk8 rfl <| lk2 rfl <| lk1 rfl <| lk_off rfl <| lk_entry rfl) (CellF.own hN.rm rfl).cell) ?_
       refine WX_take 9 rfl (by kernel_rfl) (by kernel_rfl) (by kernel_rfl) (by kernel_rfl) rfl rfl (fun _ h => h.drop (.cons_cons _ <| .cons_cons _ <| .cons_cons _ <| .refl _)) (fun _ _ _ h => h) (q_load1 one_29 (lk16 rfl <| lk8 rfl <| lk4 rfl <| lk2 rfl <| lk1 rfl <| lk_off rfl <| lk8 rfl <| lk2 rfl <| lk1 rfl <| lk_off rfl <| lk_entry rfl) (CellF.own hN.rq rfl).cell) ?_
       refine WX_take 10 rfl (by kernel_rfl) (by kernel_rfl) (by kernel_rfl) (by kernel_rfl) rfl rfl (fun _ h => h.drop (.cons_cons _ <| .cons_cons _ <| .cons_cons _ <| .refl _)) (fun _ _ _ h => h) (q_move (lk32 rfl <| lk_off rfl <| lk8 rfl <| lk2 rfl <| lk1 rfl <| lk_off rfl <| lk_entry rfl)) ?_
       refine WX_take 11 rfl (by kernel_rfl) (by kernel_rfl) (by kernel_rfl) (by kernel_rfl) rfl rfl (fun _ h => h.drop (.cons_cons _ <| .cons_cons _ <| .cons_cons _ <| .refl _)) (fun _ _ _ h => h) (q_index (k := i) sl_29 (lk1 rfl <| lk0) hN.idx.plain (lk0) rfl hin) ?_
       refine WX_take 12 rfl (by kernel_rfl) (by kernel_rfl) (by kernel_rfl) (by kernel_rfl) rfl rfl (fun _ h => h.drop (.cons_cons _ <| .cons_cons _ <| .cons_cons _ <| .refl _)) (fun _ _ _ h => h) (q_load1 one_3 (lk0) (hN.idx.cell1 hin rfl)) ?_
       refine WX_take 13 rfl (by kernel_rfl) (by kernel_rfl) (by kernel_rfl) (by kernel_rfl) rfl rfl (fun _ h => h.drop (.cons_cons _ <| .cons_cons _ <| .cons_cons _ <| .refl _)) (fun _ _ _ h => h) (q_move (lk32 rfl <| lk0)) ?_
       refine WX_take 14 rfl (by kernel_rfl) (by kernel_rfl) (by kernel_rfl) (by kernel_rfl) rfl rfl (fun _ h => h.drop (.cons_cons _ <| .cons_cons _ <| .cons_cons _ <| .refl _)) (fun _ _ _ h => h) (q_nilCheck (lk4 rfl <| lk1 rfl <| lk0)) ?_
       refine WX_take 15 rfl (by kernel_rfl) (by kernel_rfl) (by kernel_rfl) (by kernel_rfl) rfl rfl (fun _ h => h.drop (.cons_cons _ <| .cons_cons _ <| .cons_cons _ <| .refl _)) (fun _ _ _ h => h) (q_fieldAddrB fd_114_1 (lk0)) ?_
       refine WX_take 16 rfl (by kernel_rfl) (by kernel_rfl) (by kernel_rfl) (by kernel_rfl) rfl rfl (fun _ h => h.drop (.cons_cons _ <| .cons_cons _ <| .cons_cons _ <| .refl _)) (fun _ _ _ h => h) (q_indexArrB (k := q) ar_111 (lk0) (lk2 rfl <| lk1 rfl <| lk0) (by rw [← hqe]) hq8) ?_
       refine WX_take 17 rfl (by kernel_rfl) (by kernel_rfl) (by kernel_rfl) (by kernel_rfl) rfl rfl (fun _ h => h.drop (.cons_cons _ <| .cons_cons _ <| .cons_cons _ <| .refl _)) (fun _ _ _ h => h) (q_indexArrB  ar_110 (lk0) (lk2 rfl <| lk1 rfl <| lk0) rfl hk6) ?_
       refine WX_take 18 rfl (by kernel_rfl) (by kernel_rfl) (by kernel_rfl) (by kernel_rfl) rfl rfl (fun _ h => h.drop (.cons_cons _ <| .cons_cons _ <| .cons_cons _ <| .refl _)) (fun _ _ _ h => h) (q_load1 one_3 (lk0) (hN.room.light_cell hq8 hk6).cell) ?_
       refine WX_take 19 rfl (by kernel_rfl) (by kernel_rfl) (by kernel_rfl) (by kernel_rfl) rfl rfl (fun _ h => h.drop (.cons_cons _ <| .cons_cons _ <| .cons_cons _ <| .refl _)) (fun _ _ _ h => h) (q_add (lk8 rfl <| lk2 rfl <| lk1 rfl <| lk0) (lk0) rfl (by omega) (by omega)) ?_
       refine WX_x 20 rfl (by kernel_rfl) rfl (x_callM bd_90 (lk16 rfl <| lk2 rfl <| lk1 rfl <| lk0) (.cons (lk16 rfl <| lk1 rfl <| lk0) (.cons (lk8 rfl <| lk4 rfl <| lk1 rfl <| lk0) (.cons (lk0) .nil))) rfl (ih hN (pre := pre ++ [k]) (by simp [hp]) (by rw [List.length_set]; exact ho1) (take_set (by omega) hp ht1) hB1 (mask_or hm) (mask_lt hm6 hk6) (by omega) (by omega)) fun v2 F3 H6 hr4 hF5 => ⟨(fun h => nomatch h), ?_⟩)
       replace hN := hN.mono hF5
       replace hB1 := hB1.mono hF5
       obtain ⟨ub2, own2, L2, rfl, hl2, ht2, hB2⟩ := hr4
       refine WX_done (by kernel_rfl) ?_ _
       refine block_n (then_n ?_)
       refine WC_reg fun ds => ?_
       refine WL_q rfl (q_add (lk32 rfl <| lk8 rfl <| lk2 rfl <| lk1 rfl <| lk_in rfl hs37) lk_const rfl (by omega) (by omega)) ?_
       refine WL_q rfl (q_move (lk0)) ?_
       refine WL_nil ?_
       refine then_n ⟨_, m - 1, Off.eq (ou32 rfl <| ou8 rfl <| ou4 rfl <| ou1 rfl <| off_over), by omega, ?_⟩
       refine ⟨_, hN, k + 1, by omega, (lk0), _, _, _, hl2, take_pre hp ht2, ?_, rfl⟩
       rw [fold_succ, tryS_do hmk hrs]; exact hB2
    ·
     refine WC_seq ?_
     refine WC_reg fun ds => ?_
     refine WL_q rfl (q_lss (lk_in rfl hs37) (lk_off rfl <| lk1 rfl <| lk0)) ?_
     refine WL_nil ?_
     refine then_n ?_
     refine WC_seq ?_
     refine WC_if_false (lk0) (by first | rfl | exact decide_eq_false (by omega)) ?_
     obtain rfl : k = r.seats.length := by omega
     refine WC_exit ?_
     refine then_x (then_x (exit_here ?_))
     refine post_endM rfl .nil (.cons (.here) <| .cons (.here) <| .cons (.here) <| .nil) rfl ?_
     refine ⟨_, _, _, rfl, ho1, ht1, ?_⟩
     rw [hdrop, search_cons (fun h => hc (hB.cut.1 h))]; exact hB1
end Go.Proofs.Ytbcjfkcpfjccdaa
namespace Go.Proofs.Ytbcjfkcpfjccdaa
open Go.RowKit
theorem bd_63 : Body Try.prog 63 := body_of (by kernel_rfl)
theorem sz_144 : SizeT Try.prog 144 1 := sizeT_of (by kernel_rfl)
theorem zr_144 : ZeroT Try.prog 144 (.nilFunc) := zeroT_of (by kernel_rfl)
theorem zr_29 : ZeroT Try.prog 29 (.slice none 0 0) := zeroT_of (by kernel_rfl)
theorem next_all {b c1 c8 c3 : Nat} {vb vr vs vq vl : Value} {r : Room} {v : Value} {l : List Nat} {bl bb bo co d2 d3 d7 n : Nat} (hv : Valid r) (hlt2 : ∀ i ∈ l, i < r.reqs.length) (hn8 : n ≤ 8) : ∀ d i, i + d = n → NextOk r b c1 c8 c3 vb vr vs vq vl v l bl bb bo co d2 d3 d7 n i
  | 0, i, hi => fun hN hp ho ht hB hm hm6 hs0 hs1 => next_nil hN hv hlt2 hn8 hp ho ht hB hm hm6 hs0 hs1 (by omega)
  | d + 1, i, hi => fun hN hp ho ht hB hm hm6 hs0 hs1 => next_step hN hv hlt2 hn8 hp ho ht hB hm hm6 hs0 hs1 (by omega) (next_all hv hlt2 hn8 d (i + 1) (by omega))
set_option maxRecDepth 100000 in
theorem give_ok {F : Heap} {b c1 c8 c3 : Nat} {vb vr vs vq vl : Value} {r : Room} (hX : RoomX num F b c1 c8 c3 vb vr vs vq vl r) (hv : Valid r) {v : Value} {l : List Nat} (hl : Nats F v l) (hlt2 : ∀ i ∈ l, i < r.reqs.length) (hn8 : l.length ≤ 8) : Ok Try.prog 62 [.pointer (some ⟨b, 0, none⟩), v].toArray F fun u F' => ∃ ws L, u = .tuple #[ws, .int .i64 L] ∧ BestC F' (allR r l) ws L := by
  refine Ok.intro Try.func62 rfl Try.ntmps62 rfl fun w0 => ?_
  by_cases ha : Apart r l
  ·
   refine WC_seq ?_
   refine WC_reg fun ds => ?_
   refine WL_x rfl (x_box (lk_entry rfl) rfl fun b1 hb1 nb1 => ?_)
   refine WL_x rfl (x_box (lk1 rfl <| lk_entry rfl) (cells_one hl.plain.one) fun b2 hb2 nb2 => ?_)
   refine WL_x rfl (x_alloc zr_29 rfl fun b3 hb3 nb3 => ?_)
   refine WL_x rfl (x_alloc zr_3 rfl fun b4 hb4 nb4 => ?_)
   refine WL_nil ?_
   refine then_n ?_
   refine WC_seq ?_
   refine WC_reg fun ds => ?_
   refine WL_x0 (x_store1 sz_3 (lk0) lk_const (i := 0) rfl (.here) rfl (.here) ?_)
   refine WL_nil ?_
   refine then_n ?_
   refine WC_seq ?_
   refine WC_seq ?_
   refine WC_reg fun ds => ?_
   refine WL_q rfl (q_load1 one_98 (lk2 rfl <| lk1 rfl <| lk0) (Cell.own 3 rfl rfl)) ?_
   refine WL_q rfl (q_load1 one_29 (lk2 rfl <| lk1 rfl <| lk0) (Cell.own 2 rfl rfl)) ?_
   refine WL_c rfl (q_call bd_63 lk_func (.cons (lk1 rfl <| lk0) (.cons (lk0) .nil)) (apart_ok hX hv hl hlt2) (fun _ _ h => h)) ?_
   refine WL_q rfl (q_not (lk0)) ?_
   refine WL_nil ?_
   refine then_n ?_
   refine WC_if_false (lk0) (by rw [decide_eq_true ha]; rfl) ?_
   refine WC_skip ?_
   refine then_n ?_
   refine WC_seq ?_
   refine WC_reg fun ds => ?_
   refine WL_q rfl (q_load1 one_29 (lk4 rfl <| lk2 rfl <| lk0) (Cell.own 2 rfl rfl)) ?_
   refine WL_q rfl (q_lenP sl_29 (lk0) hl.plain) ?_
   refine WL_x rfl (x_make (k := l.length) sl_29 el_3 rfl rfl (lk0) (lk0) rfl (by omega) (by omega) fun b5 hb5 nb5 => ?_)
   refine WL_x rfl (x_alloc zr_29 rfl fun b6 hb6 nb6 => ?_)
   refine WL_x0 (x_store1 sz_29 (lk0) (lk1 rfl <| lk0) (i := 0) rfl (.here) rfl (.here) ?_)
   refine WL_nil ?_
   refine then_n ?_
   refine WC_seq ?_
   refine WC_reg fun ds => ?_
   refine WL_x rfl (x_alloc zr_144 rfl fun b7 hb7 nb7 => ?_)
   refine WL_nil ?_
   refine then_n ?_
   refine WC_seq ?_
   refine WC_reg fun ds => ?_
   refine WL_q rfl (q_makeFunc (.cons (lk8 rfl <| lk1 rfl <| lk0) (.cons (lk1 rfl <| lk0) (.cons (lk8 rfl <| lk2 rfl <| lk0) (.cons (lk8 rfl <| lk4 rfl <| lk0) (.cons (lk8 rfl <| lk2 rfl <| lk1 rfl <| lk0) (.cons (lk0) .nil))))))) ?_
   refine WL_x0 (x_store1 sz_144 (lk1 rfl <| lk0) (lk0) (i := 0) rfl (.here) rfl (.here) ?_)
   refine WL_nil ?_
   refine then_n ?_
   refine WC_seq ?_
   refine WC_freeze (i := 1) rfl hb6 (.next <| .here) fun F8 hF9 hz6 => ?_
   replace hX := hX.mono hF9
   replace hl := hl.mono hF9
   refine WC_freeze (i := 5) rfl hb1 (.next <| .next <| .next <| .next <| .next <| .here) fun F10 hF11 hz2 => ?_
   replace hX := hX.mono hF11
   replace hl := hl.mono hF11
   replace hz6 := hF11 _ _ hz6
   refine WC_freeze (i := 4) rfl hb2 (.next <| .next <| .next <| .next <| .here) fun F12 hF13 hz3 => ?_
   replace hX := hX.mono hF13
   replace hl := hl.mono hF13
   replace hz6 := hF13 _ _ hz6
   replace hz2 := hF13 _ _ hz2
   refine WC_freeze (i := 0) rfl hb7 (.here) fun F14 hF15 hz7 => ?_
   replace hX := hX.mono hF15
   replace hl := hl.mono hF15
   replace hz6 := hF15 _ _ hz6
   replace hz2 := hF15 _ _ hz2
   replace hz3 := hF15 _ _ hz3
   refine WC_pick (.cons (.next <| .here) <| .cons (.next <| .here) <| .cons (.here) <| .nil) ?_
   have hN : NextX num 29 144 90 F14 b c1 c8 c3 vb vr vs vq vl r v l b4 b3 b5 b6 b1 b2 b7 l.length := ⟨hX, hl, hz6, hz2, hz3, hz7, rfl⟩
   refine WC_reg fun ds => ?_
   refine WL_q rfl (q_load1 one_144 (lk1 rfl <| lk0) (CellF.own hz7 rfl).cell) ?_
   refine WL_x rfl (x_callM bd_90 (lk0) (.cons lk_const (.cons lk_const (.cons lk_const .nil))) rfl (next_all hv hlt2 hn8 l.length 0 (by omega) hN (pre := []) (best := none) (mask := 0) (sum := 0) rfl (by simp) rfl ⟨fun _ => ⟨rfl, rfl⟩, (fun _ _ h => nomatch h)⟩ (fun s => by simp) (by omega) (by omega) (by omega)) fun v20 F21 H24 hr22 hF23 => ?_)
   replace hX := hX.mono hF23
   replace hl := hl.mono hF23
   replace hN := hN.mono hF23
   replace hz6 := hF23 _ _ hz6
   replace hz2 := hF23 _ _ hz2
   replace hz3 := hF23 _ _ hz3
   replace hz7 := hF23 _ _ hz7
   obtain ⟨ub2, own2, L2, rfl, hl2, ht2, hB2⟩ := hr22
   rw [List.drop_zero] at hB2
   have hub := hB2.one
   refine WL_nil ?_
   refine then_n ?_
   refine WC_seq ?_
   refine WC_drawS (.inl rfl) (fun _ _ h => h) (.cons_cons _ <| .cons _ <| .cons_cons _ <| .refl _) [3] (by kernel_rfl) fun ds => ?_
   refine WX_take 1 rfl (by kernel_rfl) (by kernel_rfl) (by kernel_rfl) (by kernel_rfl) rfl rfl (fun _ h => h.drop (.cons_cons _ <| .cons _ <| .cons_cons _ <| .refl _)) (fun _ _ _ h => h) (q_load1 one_3 (lk8 rfl <| lk4 rfl <| lk0) (Cell.own 0 rfl rfl)) ?_
   refine WX_x 0 rfl (by kernel_rfl) rfl (x_quiet (q_load1 one_29 (lk8 rfl <| lk4 rfl <| lk2 rfl <| lk0) (Cell.own 1 rfl rfl)).quiet ⟨fun _ _ => (fun _ h => h.drop (.cons_cons _ <| .cons _ <| .cons_cons _ <| .refl _)), ?_⟩)
   refine WX_x0 2 rfl (by kernel_rfl) (x_store1 sz_29 (lk8 rfl <| lk4 rfl <| lk2 rfl <| lk1 rfl <| lk0) (lk0) (i := 1) rfl (.here) (by first | rfl | exact hub) (.next <| .here) ⟨fun _ _ => (fun _ h => h.drop (.cons_cons _ <| .cons _ <| .cons_cons _ <| .refl _)), ?_⟩)
   refine WX_x0 3 rfl (by kernel_rfl) (x_store1 sz_3 (lk8 rfl <| lk4 rfl <| lk2 rfl <| lk0) (lk1 rfl <| lk0) (i := 0) rfl (.here) (by first | rfl | exact hub) (.here) ⟨(fun h => nomatch h), ?_⟩)
   refine WX_done (by kernel_rfl) ?_ _
   refine then_n ?_
   refine WC_ret ?_
   refine post_ret rfl (.one one_29 (lk8 rfl <| lk4 rfl <| lk2 rfl <| lk1 rfl <| lk0) (Cell.own 1 rfl rfl) (.one one_3 (lk8 rfl <| lk4 rfl <| lk2 rfl <| lk0) (Cell.own 0 rfl rfl) .nil)) ?_
   refine ⟨_, _, rfl, ?_⟩
   unfold allR
   rw [if_pos ha, ← search_give hv hlt2]
   exact hB2
  ·
   refine WC_seq ?_
   refine WC_reg fun ds => ?_
   refine WL_x rfl (x_box (lk_entry rfl) rfl fun b25 hb25 nb25 => ?_)
   refine WL_x rfl (x_box (lk1 rfl <| lk_entry rfl) (cells_one hl.plain.one) fun b26 hb26 nb26 => ?_)
   refine WL_x rfl (x_alloc zr_29 rfl fun b27 hb27 nb27 => ?_)
   refine WL_x rfl (x_alloc zr_3 rfl fun b28 hb28 nb28 => ?_)
   refine WL_nil ?_
   refine then_n ?_
   refine WC_seq ?_
   refine WC_reg fun ds => ?_
   refine WL_x0 (x_store1 sz_3 (lk0) lk_const (i := 0) rfl (.here) rfl (.here) ?_)
   refine WL_nil ?_
   refine then_n ?_
   refine WC_seq ?_
   refine WC_seq ?_
   refine WC_reg fun ds => ?_
   refine WL_q rfl (q_load1 one_98 (lk2 rfl <| lk1 rfl <| lk0) (Cell.own 3 rfl rfl)) ?_
   refine WL_q rfl (q_load1 one_29 (lk2 rfl <| lk1 rfl <| lk0) (Cell.own 2 rfl rfl)) ?_
   refine WL_c rfl (q_call bd_63 lk_func (.cons (lk1 rfl <| lk0) (.cons (lk0) .nil)) (apart_ok hX hv hl hlt2) (fun _ _ h => h)) ?_
   refine WL_q rfl (q_not (lk0)) ?_
   refine WL_nil ?_
   refine then_n ?_
   refine WC_if_true (lk0) (by rw [decide_eq_false ha]; rfl) ?_
   refine WC_seq ?_
   refine WC_drawS (.inl rfl) (fun _ _ h => h) (.cons_cons _ <| .cons _ <| .cons_cons _ <| .cons_cons _ <| .refl _) [2] (by kernel_rfl) fun ds => ?_
   refine WX_take 0 rfl (by kernel_rfl) (by kernel_rfl) (by kernel_rfl) (by kernel_rfl) rfl rfl (fun _ h => h.drop (.cons_cons _ <| .cons _ <| .cons_cons _ <| .cons_cons _ <| .refl _)) (fun _ _ _ h => h) (q_load1 one_3 (lk4 rfl <| lk0) (Cell.own 0 rfl rfl)) ?_
   refine WX_x0 1 rfl (by kernel_rfl) (x_store1 sz_29 (lk4 rfl <| lk2 rfl <| lk0) lk_const (i := 1) rfl (.here) rfl (.next <| .here) ⟨fun _ _ => (fun _ h => h.drop (.cons_cons _ <| .cons _ <| .cons_cons _ <| .cons_cons _ <| .refl _)), ?_⟩)
   refine WX_x0 2 rfl (by kernel_rfl) (x_store1 sz_3 (lk4 rfl <| lk1 rfl <| lk0) (lk0) (i := 0) rfl (.here) rfl (.here) ⟨(fun h => nomatch h), ?_⟩)
   refine WX_done (by kernel_rfl) ?_ _
   refine then_n ?_
   refine WC_ret ?_
   refine then_r ?_
   refine post_ret rfl (.one one_29 (lk4 rfl <| lk2 rfl <| lk0) (Cell.own 1 rfl rfl) (.one one_3 (lk4 rfl <| lk1 rfl <| lk0) (Cell.own 0 rfl rfl) .nil)) ?_
   refine ⟨_, _, rfl, ?_⟩
   unfold allR
   rw [if_neg ha]
   exact ⟨fun _ => ⟨rfl, rfl⟩, (fun _ _ h => nomatch h)⟩
end Go.Proofs.Ytbcjfkcpfjccdaa
namespace Go.Proofs.Ytbcjfkcpfjccdaa
open Go.RowKit
theorem bd_43 : Body Try.prog 43 := body_of (by kernel_rfl)
theorem bd_60 : Body Try.prog 60 := body_of (by kernel_rfl)
theorem bd_61 : Body Try.prog 61 := body_of (by kernel_rfl)
theorem bd_62 : Body Try.prog 62 := body_of (by kernel_rfl)
theorem pt_105_0 : PartT Try.prog 105 0 0 4 := partT_of (by kernel_rfl)
set_option maxRecDepth 100000 in
theorem can_ok {F : Heap} {b c1 c8 c3 : Nat} {vb vr vs vq vl : Value} {r : Room} (hX : RoomX num F b c1 c8 c3 vb vr vs vq vl r) (hv : Valid r) {v : Value} {l : List Nat} (hl : Nats F v l) (hlt2 : ∀ i ∈ l, i < r.reqs.length) (hn8 : l.length ≤ 8) : Ok Try.prog 60 [.pointer (some ⟨b, 0, none⟩), v].toArray F fun u _ => u = .bool (allR r l).isSome := by
  refine Ok.intro Try.func60 rfl Try.ntmps60 rfl fun w0 => ?_
  refine WC_seq ?_
  refine WC_reg fun ds => ?_
  refine WL_q rfl (q_assign lk_const) ?_
  refine WL_nil ?_
  refine then_n ?_
  refine WC_seq ?_
  refine WC_reg fun ds => ?_
  refine WL_q rfl (q_move (lk1 rfl <| lk_entry rfl)) ?_
  refine WL_q rfl (q_move (lk2 rfl <| lk_entry rfl)) ?_
  refine WL_x rfl (x_call bd_62 lk_func (.cons (lk1 rfl <| lk0) (.cons (lk0) .nil)) (give_ok hX hv hl hlt2 hn8) fun v1 F2 hr3 hF4 => ?_)
  replace hX := hX.mono hF4
  replace hl := hl.mono hF4
  obtain ⟨ws, L, rfl, hB⟩ := hr3
  refine WL_q rfl (q_move (lk0)) ?_
  refine WL_q rfl (q_extract (lk0) rfl) ?_
  refine WL_q rfl (q_extract (lk1 rfl <| lk0) rfl) ?_
  refine WL_q rfl (q_assign (lk1 rfl <| lk0)) ?_
  refine WL_q rfl (q_assign (lk1 rfl <| lk0)) ?_
  refine WL_nil ?_
  refine then_n ?_
  refine WC_seq ?_
  refine WC_reg fun ds => ?_
  refine WL_q rfl (q_move (lk0)) ?_
  refine WL_q rfl (q_geq (lk0) lk_const) ?_
  refine WL_q rfl (q_assign (lk0)) ?_
  refine WL_nil ?_
  refine then_n ?_
  refine WC_ret ?_
  refine post_ret rfl (.tmp (lk0) .nil) ?_
  show _ = _
  rw [← hB.is]; rfl
theorem ints_nats {F : Heap} {v : Value} {l : List Nat} (h : Ints F v (l.map fun (n : Nat) => (n : Int))) : Nats F v l := by
  have := h.nats (by simp)
  rwa [List.map_map, show (Int.toNat ∘ fun (n : Nat) => (n : Int)) = id from rfl, List.map_id] at this
set_option maxRecDepth 100000 in
theorem can_top_ok {F : Heap} {vb vr vs vq : Value} {r : Room} (hr : RoomR F vb vr vs vq r) {v : Value} {xs : List Int} (hx : Ints F v xs) : Ok Try.prog 19 [.agg #[vb, vr, vs, vq], v].toArray F fun u _ => u = canV r xs := by
  refine Ok.intro Try.func19 rfl Try.ntmps19 rfl fun w0 => ?_
  by_cases h0 : someErr r xs = 0
  ·
   obtain ⟨l, rfl, hlt2, hasc⟩ := idx_of h0
   have hv := someErr_valid h0
   have hl := ints_nats hx
   have hn8 := asc_length hv hlt2 hasc
   refine WC_seq ?_
   refine WC_reg fun ds => ?_
   refine WL_x rfl (x_box (lk_entry rfl) rfl fun b1 hb1 nb1 => ?_)
   refine WL_q rfl (q_assign lk_const) ?_
   refine WL_q rfl (q_assign lk_const) ?_
   refine WL_nil ?_
   refine then_n ?_
   refine WC_seq ?_
   refine WC_reg fun ds => ?_
   refine WL_q rfl (q_loadN agg_27 (lk2 rfl <| lk0) rfl rfl (own_whole 0 rfl)) ?_
   refine WL_q rfl (q_move (lk4 rfl <| lk_entry rfl)) ?_
   refine WL_x rfl (x_call bd_57 lk_func (.cons (lk1 rfl <| lk0) (.cons (lk0) .nil)) (enter_good hr hx h0) fun v2 F3 hr4 hF5 => ?_)
   replace hr := hr.mono hF5
   replace hx := hx.mono hF5
   replace hl := hl.mono hF5
   obtain ⟨p, rfl, hlk⟩ := hr4
   obtain ⟨b, c1, c8, c3, wb, wr, ws, wq, wl, rfl, hX⟩ := hlk
   refine WL_q rfl (q_move (lk0)) ?_
   refine WL_q rfl (q_extract (lk0) rfl) ?_
   refine WL_q rfl (q_extract (lk1 rfl <| lk0) rfl) ?_
   refine WL_q rfl (q_assign (lk1 rfl <| lk0)) ?_
   refine WL_q rfl (q_assign (lk1 rfl <| lk0)) ?_
   refine WL_nil ?_
   refine then_n ?_
   refine WC_seq ?_
   refine WC_seq ?_
   refine WC_reg fun ds => ?_
   refine WL_q rfl (q_move (lk0)) ?_
   refine WL_q rfl (q_neq (lk0) lk_const) ?_
   refine WL_nil ?_
   refine then_n ?_
   refine WC_if_false (lk0) (by decide) ?_
   refine WC_skip ?_
   refine then_n ?_
   refine WC_seq ?_
   refine WC_reg fun ds => ?_
   refine WL_q rfl (q_move (lk2 rfl <| lk1 rfl <| lk0)) ?_
   refine WL_q rfl (q_move (lk8 rfl <| lk4 rfl <| lk2 rfl <| lk_entry rfl)) ?_
   refine WL_c rfl (q_call bd_60 lk_func (.cons (lk1 rfl <| lk0) (.cons (lk0) .nil)) (can_ok hX hv hl hlt2 hn8) (fun _ _ h => h)) ?_
   refine WL_q rfl (q_assign (lk0)) ?_
   refine WL_q rfl (q_assign lk_const) ?_
   refine WL_nil ?_
   refine then_n ?_
   refine WC_ret ?_
   refine post_ret rfl (.tmp (lk1 rfl <| lk0) (.tmp (lk0) .nil)) ?_
   show _ = canV r _
   rw [canV_ok h0]; rfl
  ·
   refine WC_seq ?_
   refine WC_reg fun ds => ?_
   refine WL_x rfl (x_box (lk_entry rfl) rfl fun b6 hb6 nb6 => ?_)
   refine WL_q rfl (q_assign lk_const) ?_
   refine WL_q rfl (q_assign lk_const) ?_
   refine WL_nil ?_
   refine then_n ?_
   refine WC_seq ?_
   refine WC_reg fun ds => ?_
   refine WL_q rfl (q_loadN agg_27 (lk2 rfl <| lk0) rfl rfl (own_whole 0 rfl)) ?_
   refine WL_q rfl (q_move (lk4 rfl <| lk_entry rfl)) ?_
   refine WL_c rfl (q_call bd_57 lk_func (.cons (lk1 rfl <| lk0) (.cons (lk0) .nil)) (enter_bad hr hx h0) (fun _ _ h => h)) ?_
   refine WL_q rfl (q_move (lk0)) ?_
   refine WL_q rfl (q_extract (lk0) rfl) ?_
   refine WL_q rfl (q_extract (lk1 rfl <| lk0) rfl) ?_
   refine WL_q rfl (q_assign (lk1 rfl <| lk0)) ?_
   refine WL_q rfl (q_assign (lk1 rfl <| lk0)) ?_
   refine WL_nil ?_
   refine then_n ?_
   refine WC_seq ?_
   refine WC_seq ?_
   refine WC_reg fun ds => ?_
   refine WL_q rfl (q_move (lk0)) ?_
   refine WL_q rfl (q_neq (lk0) lk_const) ?_
   refine WL_nil ?_
   refine then_n ?_
   refine WC_if_true (lk0) (decide_eq_true h0) ?_
   refine WC_seq ?_
   refine WC_reg fun ds => ?_
   refine WL_q rfl (q_move (lk2 rfl <| lk0)) ?_
   refine WL_q rfl (q_assign lk_const) ?_
   refine WL_q rfl (q_assign (lk1 rfl <| lk0)) ?_
   refine WL_nil ?_
   refine then_n ?_
   refine WC_ret ?_
   refine then_r ?_
   refine post_ret rfl (.tmp (lk1 rfl <| lk0) (.tmp (lk0) .nil)) ?_
   show _ = canV r _
   rw [canV_bad h0]; rfl
set_option maxRecDepth 100000 in
theorem seats_top_ok {F : Heap} {vb vr vs vq : Value} {r : Room} (hr : RoomR F vb vr vs vq r) {v : Value} {xs : List Int} (hx : Ints F v xs) : Ok Try.prog 22 [.agg #[vb, vr, vs, vq], v].toArray F fun u F' => ∃ ws, u = .tuple #[ws, .int .i64 (seatsE r xs).2.1, .int .i64 (seatsE r xs).2.2] ∧ Nats F' ws (seatsE r xs).1 := by
  refine Ok.intro Try.func22 rfl Try.ntmps22 rfl fun w0 => ?_
  by_cases h0 : someErr r xs = 0
  ·
   obtain ⟨l, rfl, hlt2, hasc⟩ := idx_of h0
   have hv := someErr_valid h0
   have hl := ints_nats hx
   have hn8 := asc_length hv hlt2 hasc
   refine WC_seq ?_
   refine WC_reg fun ds => ?_
   refine WL_x rfl (x_box (lk_entry rfl) rfl fun b1 hb1 nb1 => ?_)
   refine WL_q rfl (q_assign lk_const) ?_
   refine WL_q rfl (q_assign lk_const) ?_
   refine WL_q rfl (q_assign lk_const) ?_
   refine WL_nil ?_
   refine then_n ?_
   refine WC_seq ?_
   refine WC_reg fun ds => ?_
   refine WL_q rfl (q_loadN agg_27 (lk2 rfl <| lk1 rfl <| lk0) rfl rfl (own_whole 0 rfl)) ?_
   refine WL_q rfl (q_move (lk4 rfl <| lk1 rfl <| lk_entry rfl)) ?_
   refine WL_x rfl (x_call bd_57 lk_func (.cons (lk1 rfl <| lk0) (.cons (lk0) .nil)) (enter_good hr hx h0) fun v2 F3 hr4 hF5 => ?_)
   replace hr := hr.mono hF5
   replace hx := hx.mono hF5
   replace hl := hl.mono hF5
   obtain ⟨p, rfl, hlk⟩ := hr4
   obtain ⟨b, c1, c8, c3, wb, wr, ws, wq, wl, rfl, hX⟩ := hlk
   refine WL_q rfl (q_move (lk0)) ?_
   refine WL_q rfl (q_extract (lk0) rfl) ?_
   refine WL_q rfl (q_extract (lk1 rfl <| lk0) rfl) ?_
   refine WL_q rfl (q_assign (lk1 rfl <| lk0)) ?_
   refine WL_q rfl (q_assign (lk1 rfl <| lk0)) ?_
   refine WL_nil ?_
   refine then_n ?_
   refine WC_seq ?_
   refine WC_seq ?_
   refine WC_reg fun ds => ?_
   refine WL_q rfl (q_move (lk0)) ?_
   refine WL_q rfl (q_neq (lk0) lk_const) ?_
   refine WL_nil ?_
   refine then_n ?_
   refine WC_if_false (lk0) (by decide) ?_
   rcases hA : allR r l with _ | ⟨s, m⟩
   ·
    refine WC_skip ?_
    refine then_n ?_
    refine WC_seq ?_
    refine WC_seq ?_
    refine WC_reg fun ds => ?_
    refine WL_q rfl (q_move (lk2 rfl <| lk1 rfl <| lk0)) ?_
    refine WL_q rfl (q_move (lk8 rfl <| lk4 rfl <| lk2 rfl <| lk1 rfl <| lk_entry rfl)) ?_
    refine WL_x rfl (x_call bd_62 lk_func (.cons (lk1 rfl <| lk0) (.cons (lk0) .nil)) (give_ok hX hv hl hlt2 hn8) fun v6 F7 hr8 hF9 => ?_)
    replace hr := hr.mono hF9
    replace hx := hx.mono hF9
    replace hl := hl.mono hF9
    replace hX := hX.mono hF9
    obtain ⟨ws, L2, rfl, hB⟩ := hr8
    rw [hA] at hB
    obtain ⟨rfl, rfl⟩ := hB.no rfl
    refine WL_q rfl (q_move (lk0)) ?_
    refine WL_q rfl (q_extract (lk0) rfl) ?_
    refine WL_q rfl (q_extract (lk1 rfl <| lk0) rfl) ?_
    refine WL_q rfl (q_assign (lk1 rfl <| lk0)) ?_
    refine WL_q rfl (q_assign (lk1 rfl <| lk0)) ?_
    refine WL_nil ?_
    refine then_n ?_
    refine WC_seq ?_
    refine WC_reg fun ds => ?_
    refine WL_q rfl (q_move (lk0)) ?_
    refine WL_q rfl (q_lss (lk0) lk_const) ?_
    refine WL_nil ?_
    refine then_n ?_
    refine WC_if_true (lk0) (by decide) ?_
    refine WC_seq ?_
    refine WC_reg fun ds => ?_
    refine WL_q rfl (q_assign lk_const) ?_
    refine WL_q rfl (q_assign lk_const) ?_
    refine WL_q rfl (q_assign lk_const) ?_
    refine WL_nil ?_
    refine then_n ?_
    refine WC_ret ?_
    refine then_r ?_
    refine post_ret rfl (.tmp (lk2 rfl <| lk0) (.tmp (lk1 rfl <| lk0) (.tmp (lk0) .nil))) ?_
    rw [seatsE_none h0 hA]
    exact ⟨_, rfl, Sl.nil⟩
   ·
    refine WC_skip ?_
    refine then_n ?_
    refine WC_seq ?_
    refine WC_seq ?_
    refine WC_reg fun ds => ?_
    refine WL_q rfl (q_move (lk2 rfl <| lk1 rfl <| lk0)) ?_
    refine WL_q rfl (q_move (lk8 rfl <| lk4 rfl <| lk2 rfl <| lk1 rfl <| lk_entry rfl)) ?_
    refine WL_x rfl (x_call bd_62 lk_func (.cons (lk1 rfl <| lk0) (.cons (lk0) .nil)) (give_ok hX hv hl hlt2 hn8) fun v10 F11 hr12 hF13 => ?_)
    replace hr := hr.mono hF13
    replace hx := hx.mono hF13
    replace hl := hl.mono hF13
    replace hX := hX.mono hF13
    obtain ⟨ws, L2, rfl, hB⟩ := hr12
    rw [hA] at hB
    obtain ⟨rfl, hws, hm0⟩ := hB.so _ _ rfl
    refine WL_q rfl (q_move (lk0)) ?_
    refine WL_q rfl (q_extract (lk0) rfl) ?_
    refine WL_q rfl (q_extract (lk1 rfl <| lk0) rfl) ?_
    refine WL_q rfl (q_assign (lk1 rfl <| lk0)) ?_
    refine WL_q rfl (q_assign (lk1 rfl <| lk0)) ?_
    refine WL_nil ?_
    refine then_n ?_
    refine WC_seq ?_
    refine WC_reg fun ds => ?_
    refine WL_q rfl (q_move (lk0)) ?_
    refine WL_q rfl (q_lss (lk0) lk_const) ?_
    refine WL_nil ?_
    refine then_n ?_
    refine WC_if_false (lk0) (decide_eq_false (by omega)) ?_
    refine WC_skip ?_
    refine then_n ?_
    refine WC_seq ?_
    refine WC_reg fun ds => ?_
    refine WL_q rfl (q_move (lk2 rfl <| lk1 rfl <| lk0)) ?_
    refine WL_q rfl (q_move (lk2 rfl <| lk1 rfl <| lk0)) ?_
    refine WL_q rfl (q_assign (lk1 rfl <| lk0)) ?_
    refine WL_q rfl (q_assign (lk1 rfl <| lk0)) ?_
    refine WL_q rfl (q_assign lk_const) ?_
    refine WL_nil ?_
    refine then_n ?_
    refine WC_ret ?_
    refine post_ret rfl (.tmp (lk2 rfl <| lk0) (.tmp (lk1 rfl <| lk0) (.tmp (lk0) .nil))) ?_
    rw [seatsE_some h0 hA]
    exact ⟨_, rfl, hws⟩
  ·
   refine WC_seq ?_
   refine WC_reg fun ds => ?_
   refine WL_x rfl (x_box (lk_entry rfl) rfl fun b14 hb14 nb14 => ?_)
   refine WL_q rfl (q_assign lk_const) ?_
   refine WL_q rfl (q_assign lk_const) ?_
   refine WL_q rfl (q_assign lk_const) ?_
   refine WL_nil ?_
   refine then_n ?_
   refine WC_seq ?_
   refine WC_reg fun ds => ?_
   refine WL_q rfl (q_loadN agg_27 (lk2 rfl <| lk1 rfl <| lk0) rfl rfl (own_whole 0 rfl)) ?_
   refine WL_q rfl (q_move (lk4 rfl <| lk1 rfl <| lk_entry rfl)) ?_
   refine WL_c rfl (q_call bd_57 lk_func (.cons (lk1 rfl <| lk0) (.cons (lk0) .nil)) (enter_bad hr hx h0) (fun _ _ h => h)) ?_
   refine WL_q rfl (q_move (lk0)) ?_
   refine WL_q rfl (q_extract (lk0) rfl) ?_
   refine WL_q rfl (q_extract (lk1 rfl <| lk0) rfl) ?_
   refine WL_q rfl (q_assign (lk1 rfl <| lk0)) ?_
   refine WL_q rfl (q_assign (lk1 rfl <| lk0)) ?_
   refine WL_nil ?_
   refine then_n ?_
   refine WC_seq ?_
   refine WC_seq ?_
   refine WC_reg fun ds => ?_
   refine WL_q rfl (q_move (lk0)) ?_
   refine WL_q rfl (q_neq (lk0) lk_const) ?_
   refine WL_nil ?_
   refine then_n ?_
   refine WC_if_true (lk0) (decide_eq_true h0) ?_
   refine WC_seq ?_
   refine WC_reg fun ds => ?_
   refine WL_q rfl (q_move (lk2 rfl <| lk0)) ?_
   refine WL_q rfl (q_assign lk_const) ?_
   refine WL_q rfl (q_assign lk_const) ?_
   refine WL_q rfl (q_assign (lk2 rfl <| lk0)) ?_
   refine WL_nil ?_
   refine then_n ?_
   refine WC_ret ?_
   refine then_r ?_
   refine post_ret rfl (.tmp (lk2 rfl <| lk0) (.tmp (lk1 rfl <| lk0) (.tmp (lk0) .nil))) ?_
   rw [seatsE_bad h0]
   exact ⟨_, rfl, Sl.nil⟩
end Go.Proofs.Ytbcjfkcpfjccdaa
