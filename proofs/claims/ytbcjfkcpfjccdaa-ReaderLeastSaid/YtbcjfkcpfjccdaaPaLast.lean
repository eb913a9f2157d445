/-
  ReaderLeast returns true of any room, bits and numbers, and leaves what it is handed as it was. No conditions.
-/
import Derived.Test.YtbcjfkcpfjccdaaPae
namespace Go.Proofs.Ytbcjfkcpfjccdaa
open Go.RowKit
theorem bd_41 : Body Try.prog 41 := body_of (by kernel_rfl)
theorem bd_42 : Body Try.prog 42 := body_of (by kernel_rfl)
set_option maxRecDepth 100000 in
theorem leastLaw_ok {F : Heap} {vb vr vs vq : Value} {r : Room} (hr : RoomR F vb vr vs vq r) {bits : Nat} {vy : Value} {ys : List Nat} (hy : Sl F vy 1 u8E ys) (hy8 : ∀ x ∈ ys, x < 256) : Ok Try.prog 8 [.agg #[vb, vr, vs, vq], .int .u8 (bits : Int), vy].toArray F fun u _ => u = .bool true := by
  refine Ok.intro Try.func8 rfl Try.ntmps8 rfl fun w0 => ?_
  by_cases h0 : (check r).2.2 = 0
  ·
   have hv := valid_of h0
   have hE := chosen_err h0 (bits := bits)
   have hn8 := asc_length hv (chosen_lt (bits := bits)) chosen_asc
   rcases seats_least hE [] with ⟨hs1, hs2, hs3, -⟩ | ⟨hs1, hs2, -⟩
   ·
    refine WC_seq ?_
    refine WC_reg fun ds => ?_
    refine WL_x rfl (x_box (lk_entry rfl) rfl fun b1 hb1 nb1 => ?_)
    refine WL_q rfl (q_assign lk_const) ?_
    refine WL_nil ?_
    refine then_n ?_
    refine WC_seq ?_
    refine WC_seq ?_
    refine WC_reg fun ds => ?_
    refine WL_q rfl (q_loadN agg_27 (lk1 rfl <| lk0) rfl rfl (own_whole 0 rfl)) ?_
    refine WL_c rfl (q_call bd_37 lk_func (.cons (lk0) .nil) (valid_ok hr) (fun _ _ h => h)) ?_
    refine WL_q rfl (q_not (lk0)) ?_
    refine WL_nil ?_
    refine then_n ?_
    refine WC_if_false (lk0) (by simp [h0]) ?_
    refine WC_skip ?_
    refine then_n ?_
    refine WC_seq ?_
    refine WC_reg fun ds => ?_
    refine WL_q rfl (q_loadN agg_27 (lk4 rfl <| lk0) rfl rfl (own_whole 0 rfl)) ?_
    refine WL_q rfl (q_move (lk4 rfl <| lk2 rfl <| lk_entry rfl)) ?_
    refine WL_x rfl (x_call bd_38 lk_func (.cons (lk1 rfl <| lk0) (.cons (lk0) .nil)) (chosen_ok hr) fun v2 F3 hr4 hF5 => ?_)
    replace hr := hr.mono hF5
    replace hy := hy.mono hF5
    obtain ⟨wl, hwl⟩ : ∃ x, x = v2 := ⟨_, rfl⟩
    subst hwl
    have hl := hr4
    refine WL_q rfl (q_assign (lk0)) ?_
    refine WL_nil ?_
    refine then_n ?_
    refine WC_seq ?_
    refine WC_reg fun ds => ?_
    refine WL_q rfl (q_loadN agg_27 (lk8 rfl <| lk0) rfl rfl (own_whole 0 rfl)) ?_
    refine WL_q rfl (q_move (lk1 rfl <| lk0)) ?_
    refine WL_x rfl (x_call bd_22 lk_func (.cons (lk1 rfl <| lk0) (.cons (lk0) .nil)) (seats_top_ok hr (Nats.ints hl)) fun v6 F7 hr8 hF9 => ?_)
    replace hr := hr.mono hF9
    replace hy := hy.mono hF9
    replace hl := hl.mono hF9
    obtain ⟨ws, rfl, hq⟩ := hr8
    refine WL_q rfl (q_move (lk0)) ?_
    refine WL_q rfl (q_extract (lk0) rfl) ?_
    refine WL_q rfl (q_extract (lk1 rfl <| lk0) rfl) ?_
    refine WL_q rfl (q_extract (lk2 rfl <| lk0) rfl) ?_
    refine WL_q rfl (q_assign (lk2 rfl <| lk0)) ?_
    refine WL_q rfl (q_assign (lk2 rfl <| lk0)) ?_
    refine WL_q rfl (q_assign (lk2 rfl <| lk0)) ?_
    refine WL_nil ?_
    refine then_n ?_
    refine WC_seq ?_
    refine WC_reg fun ds => ?_
    refine WL_q rfl (q_loadN agg_27 (lk16 rfl <| lk2 rfl <| lk0) rfl rfl (own_whole 0 rfl)) ?_
    refine WL_q rfl (q_move (lk8 rfl <| lk2 rfl <| lk1 rfl <| lk0)) ?_
    refine WL_c rfl (q_call bd_19 lk_func (.cons (lk1 rfl <| lk0) (.cons (lk0) .nil)) (can_top_ok hr (Nats.ints hl)) (fun _ _ h => h.trans (can_val1 (b := true) hE hs2))) ?_
    refine WL_q rfl (q_move (lk0)) ?_
    refine WL_q rfl (q_extract (lk0) rfl) ?_
    refine WL_q rfl (q_extract (lk1 rfl <| lk0) rfl) ?_
    refine WL_q rfl (q_assign (lk1 rfl <| lk0)) ?_
    refine WL_q rfl (q_assign (lk1 rfl <| lk0)) ?_
    refine WL_nil ?_
    refine then_n ?_
    refine WC_seq ?_
    refine WC_seq ?_
    refine WC_reg fun ds => ?_
    refine WL_q rfl (q_move (lk0)) ?_
    refine WL_q rfl (q_neq (lk0) lk_const) ?_
    refine WL_q rfl (q_move (lk0)) ?_
    refine WL_want rfl rfl (lk0) rfl ?_
    refine WL_q rfl (q_move (lk4 rfl <| lk0)) ?_
    refine WL_want rfl rfl (lk1 rfl <| lk0) rfl ?_
    refine WL_q rfl (q_move (lk8 rfl <| lk4 rfl <| lk0)) ?_
    refine WL_want rfl rfl (lk2 rfl <| lk0) rfl ?_
    refine WL_q rfl (q_eql (lk0) lk_const) ?_
    refine WL_want rfl rfl (lk2 rfl <| lk1 rfl <| lk0) rfl ?_
    refine WL_q rfl (q_neb Try.underlying4 (lk2 rfl <| lk0) (lk0)) ?_
    refine WL_q rfl (q_pick_false (lk4 rfl <| lk0) rfl (lk0)) ?_
    refine WL_nil ?_
    refine then_n ?_
    refine WC_if_false (lk0) (by rw [decide_eq_true hs1]; rfl) ?_
    refine WC_skip ?_
    refine then_n ?_
    refine WC_seq ?_
    refine WC_drawF 9 (.inl rfl) (fun _ _ h => h) (by kernel_rfl) (by kernel_rfl) false rfl ([fun F v => v = .agg #[vb, vr, vs, vq], fun F v => v = wl, fun F v => v = .agg #[vb, vr, vs, vq], fun F v => v = wl, fun F v => v = .int .i64 ((chosenL r bits).length : Int), fun F v => v = vy, fun F v => ∃ os, Nats F v os, fun F v => ∃ os, v = .int .i64 (lightV r (chosenL r bits) (castL os)), fun F v => ∃ os, v = .int .i64 (lightV r (chosenL r bits) (castL os))]) (⟨fun F F2 v hF h => h, fun F F2 v hF h => h, fun F F2 v hF h => h, fun F F2 v hF h => h, fun F F2 v hF h => h, fun F F2 v hF h => h, fun F F2 v hF h => h.imp fun os h => h.mono hF, fun F F2 v hF h => h, fun F F2 v hF h => h, trivial⟩) (fun ds => ?_) (fun ds => ?_)
    ·
     refine ⟨⟨⟨⟨⟨⟨⟨⟨⟨trivial, ?_⟩, ?_⟩, ?_⟩, ?_⟩, ?_⟩, ?_⟩, ?_⟩, ?_⟩, ?_⟩
     ·
      intro e1 F1 hF1 he hj
      replace hr := hr.mono hF1
      replace hy := hy.mono hF1
      replace hl := hl.mono hF1
      replace hq := hq.mono hF1
      refine ⟨_, _, _, _, _, rfl, ?_⟩
      refine x_quiet (q_loadN agg_27 (lk_old (he_of he (by kernel_rfl)) <| lk32 rfl <| lk2 rfl <| lk0) rfl rfl (own_whole 0 rfl)).quiet ⟨_, rfl, Heap.le_refl _, rfl⟩
     ·
      intro e1 F1 hF1 he hj
      replace hr := hr.mono hF1
      replace hy := hy.mono hF1
      replace hl := hl.mono hF1
      replace hq := hq.mono hF1
      refine ⟨_, _, _, _, _, rfl, ?_⟩
      refine x_quiet (q_move (lk_old (he_of he (by kernel_rfl)) <| lk16 rfl <| lk8 rfl <| lk2 rfl <| lk0)).quiet ⟨_, rfl, Heap.le_refl _, rfl⟩
     ·
      intro e1 F1 hF1 he hj
      replace hr := hr.mono hF1
      replace hy := hy.mono hF1
      replace hl := hl.mono hF1
      replace hq := hq.mono hF1
      refine ⟨_, _, _, _, _, rfl, ?_⟩
      refine x_quiet (q_loadN agg_27 (lk_old (he_of he (by kernel_rfl)) <| lk32 rfl <| lk2 rfl <| lk0) rfl rfl (own_whole 0 rfl)).quiet ⟨_, rfl, Heap.le_refl _, rfl⟩
     ·
      intro e1 F1 hF1 he hj
      replace hr := hr.mono hF1
      replace hy := hy.mono hF1
      replace hl := hl.mono hF1
      replace hq := hq.mono hF1
      refine ⟨_, _, _, _, _, rfl, ?_⟩
      refine x_quiet (q_move (lk_old (he_of he (by kernel_rfl)) <| lk16 rfl <| lk8 rfl <| lk2 rfl <| lk0)).quiet ⟨_, rfl, Heap.le_refl _, rfl⟩
     ·
      intro e1 F1 hF1 he hj
      replace hr := hr.mono hF1
      replace hy := hy.mono hF1
      replace hl := hl.mono hF1
      replace hq := hq.mono hF1
      have g56 : (e1 56) = wl := hj 3 (by kernel_rfl) (by decide)
      refine ⟨_, _, _, _, _, rfl, ?_⟩
      refine x_quiet (q_lenP sl_29 (lk_eq g56) hl.plain).quiet ⟨_, rfl, Heap.le_refl _, rfl⟩
     ·
      intro e1 F1 hF1 he hj
      replace hr := hr.mono hF1
      replace hy := hy.mono hF1
      replace hl := hl.mono hF1
      replace hq := hq.mono hF1
      refine ⟨_, _, _, _, _, rfl, ?_⟩
      refine x_quiet (q_move (lk_old (he_of he (by kernel_rfl)) <| lk32 rfl <| lk2 rfl <| lk1 rfl <| lk_entry rfl)).quiet ⟨_, rfl, Heap.le_refl _, rfl⟩
     ·
      intro e1 F1 hF1 he hj
      replace hr := hr.mono hF1
      replace hy := hy.mono hF1
      replace hl := hl.mono hF1
      replace hq := hq.mono hF1
      have g55 : (e1 55) = .agg #[vb, vr, vs, vq] := hj 2 (by kernel_rfl) (by decide)
      have g57 : (e1 57) = .int .i64 ((chosenL r bits).length : Int) := hj 4 (by kernel_rfl) (by decide)
      have g58 : (e1 58) = vy := hj 5 (by kernel_rfl) (by decide)
      refine ⟨_, _, _, _, _, rfl, ?_⟩
      refine x_call bd_42 lk_func (.cons (lk_eq g55) (.cons (lk_eq g57) (.cons (lk_eq g58) .nil))) (some_ok hr hv hy hy8 (by omega)) fun v2 F2 hr hF2 => ⟨F2, rfl, hF2, hr⟩
     ·
      intro e1 F1 hF1 he hj
      replace hr := hr.mono hF1
      replace hy := hy.mono hF1
      replace hl := hl.mono hF1
      replace hq := hq.mono hF1
      have g53 : (e1 53) = .agg #[vb, vr, vs, vq] := hj 0 (by kernel_rfl) (by decide)
      have g54 : (e1 54) = wl := hj 1 (by kernel_rfl) (by decide)
      have g59 : ∃ os, Nats F1 (e1 59) os := hj 6 (by kernel_rfl) (by decide)
      obtain ⟨os, hos⟩ := g59
      refine ⟨_, _, _, _, _, rfl, ?_⟩
      refine x_quiet (q_call bd_41 lk_func (.cons (lk_eq g53) (.cons (lk_eq g54) (.cons (lk_eq rfl) .nil))) (light_ok hr hv hl chosen_lt hn8 (Nats.ints hos)) (fun _ _ h => h)) ⟨_, rfl, Heap.le_refl _, ⟨os, rfl⟩⟩
     ·
      intro e1 F1 hF1 he hj
      replace hr := hr.mono hF1
      replace hy := hy.mono hF1
      replace hl := hl.mono hF1
      replace hq := hq.mono hF1
      have g53 : (e1 53) = .agg #[vb, vr, vs, vq] := hj 0 (by kernel_rfl) (by decide)
      have g54 : (e1 54) = wl := hj 1 (by kernel_rfl) (by decide)
      have g55 : (e1 55) = .agg #[vb, vr, vs, vq] := hj 2 (by kernel_rfl) (by decide)
      have g56 : (e1 56) = wl := hj 3 (by kernel_rfl) (by decide)
      have g57 : (e1 57) = .int .i64 ((chosenL r bits).length : Int) := hj 4 (by kernel_rfl) (by decide)
      have g58 : (e1 58) = vy := hj 5 (by kernel_rfl) (by decide)
      have g59 : ∃ os, Nats F1 (e1 59) os := hj 6 (by kernel_rfl) (by decide)
      have g60 : ∃ os, (e1 60) = .int .i64 (lightV r (chosenL r bits) (castL os)) := hj 7 (by kernel_rfl) (by decide)
      refine ⟨_, _, _, _, _, rfl, ?_⟩
      refine x_quiet (q_assign (lk_eq rfl)).quiet ⟨_, rfl, Heap.le_refl _, g60⟩
    intro e13 F10 hF11 he12 hj
    replace hr := hr.mono hF11
    replace hy := hy.mono hF11
    replace hl := hl.mono hF11
    replace hq := hq.mono hF11
    have g53 : (e13 53) = .agg #[vb, vr, vs, vq] := hj 0 (by decide)
    have g54 : (e13 54) = wl := hj 1 (by decide)
    have g55 : (e13 55) = .agg #[vb, vr, vs, vq] := hj 2 (by decide)
    have g56 : (e13 56) = wl := hj 3 (by decide)
    have g57 : (e13 57) = .int .i64 ((chosenL r bits).length : Int) := hj 4 (by decide)
    have g58 : (e13 58) = vy := hj 5 (by decide)
    have g59 : ∃ os, Nats F10 (e13 59) os := hj 6 (by decide)
    have g60 : ∃ os, (e13 60) = .int .i64 (lightV r (chosenL r bits) (castL os)) := hj 7 (by decide)
    have g15 : ∃ os, (e13 15) = .int .i64 (lightV r (chosenL r bits) (castL os)) := hj 8 (by decide)
    obtain ⟨os, g15⟩ := g15
    refine then_n ?_
    refine WC_seq ?_
    refine WC_seq ?_
    refine WC_reg fun ds => ?_
    refine WL_q rfl (q_move (lk_old (he_of he12 (by kernel_rfl)) <| lk16 rfl <| lk0)) ?_
    refine WL_q rfl (q_neq (lk0) lk_const) ?_
    refine WL_nil ?_
    refine then_n ?_
    refine WC_if_false (lk0) (by rw [hs1]; rfl) ?_
    refine WC_skip ?_
    refine then_n ?_
    refine WC_seq ?_
    refine WC_reg fun ds => ?_
    refine WL_q rfl (q_loadN agg_27 (lk2 rfl <| lk_old (he_of he12 (by kernel_rfl)) <| lk32 rfl <| lk2 rfl <| lk0) rfl rfl (own_whole 0 rfl)) ?_
    refine WL_q rfl (q_move (lk2 rfl <| lk1 rfl <| lk_old (he_of he12 (by kernel_rfl)) <| lk16 rfl <| lk8 rfl <| lk2 rfl <| lk0)) ?_
    refine WL_q rfl (q_move (lk4 rfl <| lk_old (he_of he12 (by kernel_rfl)) <| lk16 rfl <| lk2 rfl <| lk0)) ?_
    refine WL_c rfl (q_call bd_41 lk_func (.cons (lk2 rfl <| lk0) (.cons (lk1 rfl <| lk0) (.cons (lk0) .nil))) (light_ok hr hv hl chosen_lt hn8 (Nats.ints hq)) (fun _ _ h => h)) ?_
    refine WL_q rfl (q_move (lk4 rfl <| lk2 rfl <| lk_old (he_of he12 (by kernel_rfl)) <| lk16 rfl <| lk1 rfl <| lk0)) ?_
    refine WL_q rfl (q_eql (lk1 rfl <| lk0) (lk0)) ?_
    refine WL_q rfl (q_move (lk0)) ?_
    refine WL_want rfl rfl (lk0) (decide_eq_true hs3) ?_
    refine WL_q rfl (q_move (lk8 rfl <| lk1 rfl <| lk_eq g15)) ?_
    refine WL_want rfl rfl (lk1 rfl <| lk0) (decide_eq_true hs3) ?_
    refine WL_q rfl (q_lss (lk0) lk_const) ?_
    refine WL_want rfl rfl (lk2 rfl <| lk0) (decide_eq_true hs3) ?_
    refine WL_q rfl (q_move (lk0)) ?_
    by_cases ho : (lightV r (chosenL r bits) (castL os)) < 0
    ·
     refine WL_pass rfl rfl (lk0) (.inl (congrArg Value.bool (decide_eq_true ho))) rfl ?_
     refine WL_pass rfl rfl (lk1 rfl <| lk0) (.inl (congrArg Value.bool (decide_eq_true ho))) rfl ?_
     refine WL_pass rfl rfl (lk2 rfl <| lk0) (.inl (congrArg Value.bool (decide_eq_true ho))) rfl ?_
     refine WL_want rfl rfl (lk4 rfl <| lk2 rfl <| lk0) (decide_eq_true hs3) ?_
     refine WL_q rfl (q_pick_true (lk2 rfl <| lk1 rfl <| lk0) (decide_eq_true ho) lk_const) ?_
     refine WL_q rfl (q_pick_true (lk4 rfl <| lk2 rfl <| lk1 rfl <| lk0) (decide_eq_true hs3) (lk0)) ?_
     refine WL_q rfl (q_move (lk0)) ?_
     refine WL_want rfl rfl (lk0) rfl ?_
     refine WL_c rfl (q_call bd_21 lk_func .nil awake_ok (fun _ _ h => h)) ?_
     refine WL_q rfl (q_pick_true (lk1 rfl <| lk0) rfl (lk0)) ?_
     refine WL_q rfl (q_assign (lk0)) ?_
     refine WL_nil ?_
     refine then_n ?_
     refine WC_ret ?_
     refine post_ret rfl (.tmp (lk0) .nil) ?_
     rfl
    ·
     refine WL_want rfl rfl (lk0) (decide_eq_false ho) ?_
     refine WL_q rfl (q_move (lk8 rfl <| lk4 rfl <| lk_eq g15)) ?_
     refine WL_want rfl rfl (lk1 rfl <| lk0) (decide_eq_false ho) ?_
     refine WL_q rfl (q_move (lk8 rfl <| lk4 rfl <| lk1 rfl <| lk_old (he_of he12 (by kernel_rfl)) <| lk16 rfl <| lk1 rfl <| lk0)) ?_
     refine WL_want rfl rfl (lk2 rfl <| lk0) (decide_eq_false ho) ?_
     refine WL_q rfl (q_geq (lk1 rfl <| lk0) (lk0)) ?_
     refine WL_want rfl rfl (lk4 rfl <| lk2 rfl <| lk0) (decide_eq_true hs3) ?_
     refine WL_q rfl (q_pick_false (lk2 rfl <| lk1 rfl <| lk0) (decide_eq_false ho) (lk0)) ?_
     refine WL_q rfl (q_pick_true (lk4 rfl <| lk2 rfl <| lk1 rfl <| lk0) (decide_eq_true hs3) (lk0)) ?_
     refine WL_q rfl (q_move (lk0)) ?_
     refine WL_want rfl rfl (lk0) (decide_eq_true (least_other hE hs1 ho)) ?_
     refine WL_c rfl (q_call bd_21 lk_func .nil awake_ok (fun _ _ h => h)) ?_
     refine WL_q rfl (q_pick_true (lk1 rfl <| lk0) (decide_eq_true (least_other hE hs1 ho)) (lk0)) ?_
     refine WL_q rfl (q_assign (lk0)) ?_
     refine WL_nil ?_
     refine then_n ?_
     refine WC_ret ?_
     refine post_ret rfl (.tmp (lk0) .nil) ?_
     rfl
   ·
    refine WC_seq ?_
    refine WC_reg fun ds => ?_
    refine WL_x rfl (x_box (lk_entry rfl) rfl fun b14 hb14 nb14 => ?_)
    refine WL_q rfl (q_assign lk_const) ?_
    refine WL_nil ?_
    refine then_n ?_
    refine WC_seq ?_
    refine WC_seq ?_
    refine WC_reg fun ds => ?_
    refine WL_q rfl (q_loadN agg_27 (lk1 rfl <| lk0) rfl rfl (own_whole 0 rfl)) ?_
    refine WL_c rfl (q_call bd_37 lk_func (.cons (lk0) .nil) (valid_ok hr) (fun _ _ h => h)) ?_
    refine WL_q rfl (q_not (lk0)) ?_
    refine WL_nil ?_
    refine then_n ?_
    refine WC_if_false (lk0) (by simp [h0]) ?_
    refine WC_skip ?_
    refine then_n ?_
    refine WC_seq ?_
    refine WC_reg fun ds => ?_
    refine WL_q rfl (q_loadN agg_27 (lk4 rfl <| lk0) rfl rfl (own_whole 0 rfl)) ?_
    refine WL_q rfl (q_move (lk4 rfl <| lk2 rfl <| lk_entry rfl)) ?_
    refine WL_x rfl (x_call bd_38 lk_func (.cons (lk1 rfl <| lk0) (.cons (lk0) .nil)) (chosen_ok hr) fun v15 F16 hr17 hF18 => ?_)
    replace hr := hr.mono hF18
    replace hy := hy.mono hF18
    obtain ⟨wl, hwl⟩ : ∃ x, x = v15 := ⟨_, rfl⟩
    subst hwl
    have hl := hr17
    refine WL_q rfl (q_assign (lk0)) ?_
    refine WL_nil ?_
    refine then_n ?_
    refine WC_seq ?_
    refine WC_reg fun ds => ?_
    refine WL_q rfl (q_loadN agg_27 (lk8 rfl <| lk0) rfl rfl (own_whole 0 rfl)) ?_
    refine WL_q rfl (q_move (lk1 rfl <| lk0)) ?_
    refine WL_x rfl (x_call bd_22 lk_func (.cons (lk1 rfl <| lk0) (.cons (lk0) .nil)) (seats_top_ok hr (Nats.ints hl)) fun v19 F20 hr21 hF22 => ?_)
    replace hr := hr.mono hF22
    replace hy := hy.mono hF22
    replace hl := hl.mono hF22
    obtain ⟨ws, rfl, hq⟩ := hr21
    refine WL_q rfl (q_move (lk0)) ?_
    refine WL_q rfl (q_extract (lk0) rfl) ?_
    refine WL_q rfl (q_extract (lk1 rfl <| lk0) rfl) ?_
    refine WL_q rfl (q_extract (lk2 rfl <| lk0) rfl) ?_
    refine WL_q rfl (q_assign (lk2 rfl <| lk0)) ?_
    refine WL_q rfl (q_assign (lk2 rfl <| lk0)) ?_
    refine WL_q rfl (q_assign (lk2 rfl <| lk0)) ?_
    refine WL_nil ?_
    refine then_n ?_
    refine WC_seq ?_
    refine WC_reg fun ds => ?_
    refine WL_q rfl (q_loadN agg_27 (lk16 rfl <| lk2 rfl <| lk0) rfl rfl (own_whole 0 rfl)) ?_
    refine WL_q rfl (q_move (lk8 rfl <| lk2 rfl <| lk1 rfl <| lk0)) ?_
    refine WL_c rfl (q_call bd_19 lk_func (.cons (lk1 rfl <| lk0) (.cons (lk0) .nil)) (can_top_ok hr (Nats.ints hl)) (fun _ _ h => h.trans (can_val1 (b := false) hE hs2))) ?_
    refine WL_q rfl (q_move (lk0)) ?_
    refine WL_q rfl (q_extract (lk0) rfl) ?_
    refine WL_q rfl (q_extract (lk1 rfl <| lk0) rfl) ?_
    refine WL_q rfl (q_assign (lk1 rfl <| lk0)) ?_
    refine WL_q rfl (q_assign (lk1 rfl <| lk0)) ?_
    refine WL_nil ?_
    refine then_n ?_
    refine WC_seq ?_
    refine WC_seq ?_
    refine WC_reg fun ds => ?_
    refine WL_q rfl (q_move (lk0)) ?_
    refine WL_q rfl (q_neq (lk0) lk_const) ?_
    refine WL_q rfl (q_move (lk0)) ?_
    refine WL_want rfl rfl (lk0) rfl ?_
    refine WL_q rfl (q_move (lk4 rfl <| lk0)) ?_
    refine WL_want rfl rfl (lk1 rfl <| lk0) rfl ?_
    refine WL_q rfl (q_move (lk8 rfl <| lk4 rfl <| lk0)) ?_
    refine WL_want rfl rfl (lk2 rfl <| lk0) rfl ?_
    refine WL_q rfl (q_eql (lk0) lk_const) ?_
    refine WL_want rfl rfl (lk2 rfl <| lk1 rfl <| lk0) rfl ?_
    refine WL_q rfl (q_neb Try.underlying4 (lk2 rfl <| lk0) (lk0)) ?_
    refine WL_q rfl (q_pick_false (lk4 rfl <| lk0) rfl (lk0)) ?_
    refine WL_nil ?_
    refine then_n ?_
    refine WC_if_false (lk0) (by rw [decide_eq_false (show ¬ (seatsE r (castL (chosenL r bits))).2.2 = 0 by omega)]; rfl) ?_
    refine WC_skip ?_
    refine then_n ?_
    refine WC_seq ?_
    refine WC_drawF 9 (.inl rfl) (fun _ _ h => h) (by kernel_rfl) (by kernel_rfl) false rfl ([fun F v => v = .agg #[vb, vr, vs, vq], fun F v => v = wl, fun F v => v = .agg #[vb, vr, vs, vq], fun F v => v = wl, fun F v => v = .int .i64 ((chosenL r bits).length : Int), fun F v => v = vy, fun F v => ∃ os, Nats F v os, fun F v => ∃ os, v = .int .i64 (lightV r (chosenL r bits) (castL os)), fun F v => ∃ os, v = .int .i64 (lightV r (chosenL r bits) (castL os))]) (⟨fun F F2 v hF h => h, fun F F2 v hF h => h, fun F F2 v hF h => h, fun F F2 v hF h => h, fun F F2 v hF h => h, fun F F2 v hF h => h, fun F F2 v hF h => h.imp fun os h => h.mono hF, fun F F2 v hF h => h, fun F F2 v hF h => h, trivial⟩) (fun ds => ?_) (fun ds => ?_)
    ·
     refine ⟨⟨⟨⟨⟨⟨⟨⟨⟨trivial, ?_⟩, ?_⟩, ?_⟩, ?_⟩, ?_⟩, ?_⟩, ?_⟩, ?_⟩, ?_⟩
     ·
      intro e1 F1 hF1 he hj
      replace hr := hr.mono hF1
      replace hy := hy.mono hF1
      replace hl := hl.mono hF1
      replace hq := hq.mono hF1
      refine ⟨_, _, _, _, _, rfl, ?_⟩
      refine x_quiet (q_loadN agg_27 (lk_old (he_of he (by kernel_rfl)) <| lk32 rfl <| lk2 rfl <| lk0) rfl rfl (own_whole 0 rfl)).quiet ⟨_, rfl, Heap.le_refl _, rfl⟩
     ·
      intro e1 F1 hF1 he hj
      replace hr := hr.mono hF1
      replace hy := hy.mono hF1
      replace hl := hl.mono hF1
      replace hq := hq.mono hF1
      refine ⟨_, _, _, _, _, rfl, ?_⟩
      refine x_quiet (q_move (lk_old (he_of he (by kernel_rfl)) <| lk16 rfl <| lk8 rfl <| lk2 rfl <| lk0)).quiet ⟨_, rfl, Heap.le_refl _, rfl⟩
     ·
      intro e1 F1 hF1 he hj
      replace hr := hr.mono hF1
      replace hy := hy.mono hF1
      replace hl := hl.mono hF1
      replace hq := hq.mono hF1
      refine ⟨_, _, _, _, _, rfl, ?_⟩
      refine x_quiet (q_loadN agg_27 (lk_old (he_of he (by kernel_rfl)) <| lk32 rfl <| lk2 rfl <| lk0) rfl rfl (own_whole 0 rfl)).quiet ⟨_, rfl, Heap.le_refl _, rfl⟩
     ·
      intro e1 F1 hF1 he hj
      replace hr := hr.mono hF1
      replace hy := hy.mono hF1
      replace hl := hl.mono hF1
      replace hq := hq.mono hF1
      refine ⟨_, _, _, _, _, rfl, ?_⟩
      refine x_quiet (q_move (lk_old (he_of he (by kernel_rfl)) <| lk16 rfl <| lk8 rfl <| lk2 rfl <| lk0)).quiet ⟨_, rfl, Heap.le_refl _, rfl⟩
     ·
      intro e1 F1 hF1 he hj
      replace hr := hr.mono hF1
      replace hy := hy.mono hF1
      replace hl := hl.mono hF1
      replace hq := hq.mono hF1
      have g56 : (e1 56) = wl := hj 3 (by kernel_rfl) (by decide)
      refine ⟨_, _, _, _, _, rfl, ?_⟩
      refine x_quiet (q_lenP sl_29 (lk_eq g56) hl.plain).quiet ⟨_, rfl, Heap.le_refl _, rfl⟩
     ·
      intro e1 F1 hF1 he hj
      replace hr := hr.mono hF1
      replace hy := hy.mono hF1
      replace hl := hl.mono hF1
      replace hq := hq.mono hF1
      refine ⟨_, _, _, _, _, rfl, ?_⟩
      refine x_quiet (q_move (lk_old (he_of he (by kernel_rfl)) <| lk32 rfl <| lk2 rfl <| lk1 rfl <| lk_entry rfl)).quiet ⟨_, rfl, Heap.le_refl _, rfl⟩
     ·
      intro e1 F1 hF1 he hj
      replace hr := hr.mono hF1
      replace hy := hy.mono hF1
      replace hl := hl.mono hF1
      replace hq := hq.mono hF1
      have g55 : (e1 55) = .agg #[vb, vr, vs, vq] := hj 2 (by kernel_rfl) (by decide)
      have g57 : (e1 57) = .int .i64 ((chosenL r bits).length : Int) := hj 4 (by kernel_rfl) (by decide)
      have g58 : (e1 58) = vy := hj 5 (by kernel_rfl) (by decide)
      refine ⟨_, _, _, _, _, rfl, ?_⟩
      refine x_call bd_42 lk_func (.cons (lk_eq g55) (.cons (lk_eq g57) (.cons (lk_eq g58) .nil))) (some_ok hr hv hy hy8 (by omega)) fun v2 F2 hr hF2 => ⟨F2, rfl, hF2, hr⟩
     ·
      intro e1 F1 hF1 he hj
      replace hr := hr.mono hF1
      replace hy := hy.mono hF1
      replace hl := hl.mono hF1
      replace hq := hq.mono hF1
      have g53 : (e1 53) = .agg #[vb, vr, vs, vq] := hj 0 (by kernel_rfl) (by decide)
      have g54 : (e1 54) = wl := hj 1 (by kernel_rfl) (by decide)
      have g59 : ∃ os, Nats F1 (e1 59) os := hj 6 (by kernel_rfl) (by decide)
      obtain ⟨os, hos⟩ := g59
      refine ⟨_, _, _, _, _, rfl, ?_⟩
      refine x_quiet (q_call bd_41 lk_func (.cons (lk_eq g53) (.cons (lk_eq g54) (.cons (lk_eq rfl) .nil))) (light_ok hr hv hl chosen_lt hn8 (Nats.ints hos)) (fun _ _ h => h)) ⟨_, rfl, Heap.le_refl _, ⟨os, rfl⟩⟩
     ·
      intro e1 F1 hF1 he hj
      replace hr := hr.mono hF1
      replace hy := hy.mono hF1
      replace hl := hl.mono hF1
      replace hq := hq.mono hF1
      have g53 : (e1 53) = .agg #[vb, vr, vs, vq] := hj 0 (by kernel_rfl) (by decide)
      have g54 : (e1 54) = wl := hj 1 (by kernel_rfl) (by decide)
      have g55 : (e1 55) = .agg #[vb, vr, vs, vq] := hj 2 (by kernel_rfl) (by decide)
      have g56 : (e1 56) = wl := hj 3 (by kernel_rfl) (by decide)
      have g57 : (e1 57) = .int .i64 ((chosenL r bits).length : Int) := hj 4 (by kernel_rfl) (by decide)
      have g58 : (e1 58) = vy := hj 5 (by kernel_rfl) (by decide)
      have g59 : ∃ os, Nats F1 (e1 59) os := hj 6 (by kernel_rfl) (by decide)
      have g60 : ∃ os, (e1 60) = .int .i64 (lightV r (chosenL r bits) (castL os)) := hj 7 (by kernel_rfl) (by decide)
      refine ⟨_, _, _, _, _, rfl, ?_⟩
      refine x_quiet (q_assign (lk_eq rfl)).quiet ⟨_, rfl, Heap.le_refl _, g60⟩
    intro e26 F23 hF24 he25 hj
    replace hr := hr.mono hF24
    replace hy := hy.mono hF24
    replace hl := hl.mono hF24
    replace hq := hq.mono hF24
    have g53 : (e26 53) = .agg #[vb, vr, vs, vq] := hj 0 (by decide)
    have g54 : (e26 54) = wl := hj 1 (by decide)
    have g55 : (e26 55) = .agg #[vb, vr, vs, vq] := hj 2 (by decide)
    have g56 : (e26 56) = wl := hj 3 (by decide)
    have g57 : (e26 57) = .int .i64 ((chosenL r bits).length : Int) := hj 4 (by decide)
    have g58 : (e26 58) = vy := hj 5 (by decide)
    have g59 : ∃ os, Nats F23 (e26 59) os := hj 6 (by decide)
    have g60 : ∃ os, (e26 60) = .int .i64 (lightV r (chosenL r bits) (castL os)) := hj 7 (by decide)
    have g15 : ∃ os, (e26 15) = .int .i64 (lightV r (chosenL r bits) (castL os)) := hj 8 (by decide)
    obtain ⟨os, g15⟩ := g15
    refine then_n ?_
    refine WC_seq ?_
    refine WC_seq ?_
    refine WC_reg fun ds => ?_
    refine WL_q rfl (q_move (lk_old (he_of he25 (by kernel_rfl)) <| lk16 rfl <| lk0)) ?_
    refine WL_q rfl (q_neq (lk0) lk_const) ?_
    refine WL_nil ?_
    refine then_n ?_
    refine WC_if_true (lk0) (by rw [hs1]; rfl) ?_
    refine WC_seq ?_
    refine WC_reg fun ds => ?_
    refine WL_q rfl (q_move (lk2 rfl <| lk_old (he_of he25 (by kernel_rfl)) <| lk16 rfl <| lk0)) ?_
    refine WL_q rfl (q_eql (lk0) lk_const) ?_
    refine WL_q rfl (q_move (lk0)) ?_
    refine WL_want rfl rfl (lk0) (decide_eq_true hs1) ?_
    refine WL_q rfl (q_move (lk4 rfl <| lk1 rfl <| lk_eq g15)) ?_
    refine WL_want rfl rfl (lk1 rfl <| lk0) (decide_eq_true hs1) ?_
    refine WL_q rfl (q_lss (lk0) lk_const) ?_
    refine WL_q rfl (q_pick_true (lk2 rfl <| lk0) (decide_eq_true hs1) (lk0)) ?_
    refine WL_q rfl (q_move (lk0)) ?_
    refine WL_want rfl rfl (lk0) (decide_eq_true (by rcases seats_least hE (castL os) with ⟨a, -⟩ | ⟨-, -, a⟩ <;> omega)) ?_
    refine WL_c rfl (q_call bd_21 lk_func .nil awake_ok (fun _ _ h => h)) ?_
    refine WL_q rfl (q_pick_true (lk1 rfl <| lk0) (decide_eq_true (by rcases seats_least hE (castL os) with ⟨a, -⟩ | ⟨-, -, a⟩ <;> omega)) (lk0)) ?_
    refine WL_q rfl (q_assign (lk0)) ?_
    refine WL_nil ?_
    refine then_n ?_
    refine WC_ret ?_
    refine then_r ?_
    refine post_ret rfl (.tmp (lk0) .nil) ?_
    rfl
  ·
   refine WC_seq ?_
   refine WC_reg fun ds => ?_
   refine WL_x rfl (x_box (lk_entry rfl) rfl fun b27 hb27 nb27 => ?_)
   refine WL_q rfl (q_assign lk_const) ?_
   refine WL_nil ?_
   refine then_n ?_
   refine WC_seq ?_
   refine WC_seq ?_
   refine WC_reg fun ds => ?_
   refine WL_q rfl (q_loadN agg_27 (lk1 rfl <| lk0) rfl rfl (own_whole 0 rfl)) ?_
   refine WL_c rfl (q_call bd_37 lk_func (.cons (lk0) .nil) (valid_ok hr) (fun _ _ h => h)) ?_
   refine WL_q rfl (q_not (lk0)) ?_
   refine WL_nil ?_
   refine then_n ?_
   refine WC_if_true (lk0) (by simp [h0]) ?_
   refine WC_seq ?_
   refine WC_reg fun ds => ?_
   refine WL_q rfl (q_loadN agg_27 (lk4 rfl <| lk0) rfl rfl (own_whole 0 rfl)) ?_
   refine WL_c rfl (q_call bd_19 lk_func (.cons (lk0) (.cons lk_const .nil)) (can_top_ok hr (v := .slice none 0 0) (xs := []) Sl.nil) (fun _ _ h => h.trans (canV_eq _ _))) ?_
   refine WL_q rfl (q_move (lk0)) ?_
   refine WL_q rfl (q_extract (lk0) rfl) ?_
   refine WL_q rfl (q_extract (lk1 rfl <| lk0) rfl) ?_
   refine WL_q rfl (q_assign (lk1 rfl <| lk0)) ?_
   refine WL_q rfl (q_assign (lk1 rfl <| lk0)) ?_
   refine WL_nil ?_
   refine then_n ?_
   refine WC_seq ?_
   refine WC_reg fun ds => ?_
   refine WL_q rfl (q_move (lk0)) ?_
   refine WL_q rfl (q_neq (lk0) lk_const) ?_
   refine WL_q rfl (q_move (lk0)) ?_
   refine WL_want rfl rfl (lk0) (decide_eq_true (by rw [someErr_nil]; exact h0)) ?_
   refine WL_c rfl (q_call bd_21 lk_func .nil awake_ok (fun _ _ h => h)) ?_
   refine WL_q rfl (q_pick_true (lk1 rfl <| lk0) (decide_eq_true (by rw [someErr_nil]; exact h0)) (lk0)) ?_
   refine WL_q rfl (q_assign (lk0)) ?_
   refine WL_nil ?_
   refine then_n ?_
   refine WC_ret ?_
   refine then_r ?_
   refine post_ret rfl (.tmp (lk0) .nil) ?_
   rfl
end Go.Proofs.Ytbcjfkcpfjccdaa
namespace Go.Proofs.Ytbcjfkcpfjccdaa
open Go.ChangeShapes Go.WideShapes Go.ChangeAt Go.RowKit
set_option maxRecDepth 100000 in
theorem readerLeastLifted (os : Os) (started : os.Started) (H : Type) (enc : TypeId × Value → H) :
    ReturnsInHanded {} Try.checked os 8 .any (Rows.readerLeastSpec.pre6 enc Try.prog Try.f8 Rows.readerLeastRow.domain false) (Rows.readerLeastSpec.post enc Try.prog Try.f8 false true false false) := by
  refine returnsInHanded_of_change_sized (C := Try.checked) ownKnob0 started (by kernel_rfl) Try.func8
    (ChangeSpec.witness6 (enc := enc) (C := Try.checked) false ⟨#[], #[.agg #[.slice none 0 0, .slice none 0 0, .slice none 0 0, .slice none 0 0], .int .u8 0, .slice none 0 0], []⟩ 8 (by kernel_rfl) (by kernel_rfl) (by kernel_rfl) (by kernel_rfl)) ?_
  intro W base args ds gs before hval0 hW hcnd hsz _
  have hval : ∀ (j : Nat) t v, Try.f8.params[j]? = some t → args[j]? = some v → Value.okWide Try.prog W .any base t v := hval0
  have hW' := hW
  obtain ⟨p, q, hA0, hV, rfl, hfz, hnd⟩ := hW
  have hA : DataW.TrodAll enc Try.prog W 0 (fun _ => true) true Try.f8.params.toList args.toList ds p := hA0
  rw [Try.params8] at hA hval
  obtain ⟨v0, vs0, d0, ds0, p0, q0, hargs, rfl, rfl, h0, r0⟩ := trodAll_cons hA
  obtain ⟨v1, vs1, d1, ds1, p1, q1, rfl, rfl, rfl, h1, r1⟩ := trodAll_cons r0
  obtain ⟨v2, vs2, d2, ds2, p2, q2, rfl, rfl, rfl, h2, r2⟩ := trodAll_cons r1
  obtain ⟨rfl, rfl, rfl⟩ := trodAll_nil r2
  obtain rfl : args = #[v0, v1, v2] := by cases args; simp_all
  obtain ⟨rfl, rfl⟩ := trodVars_none hV
  have hsz' : (DataW.weightsEach Try.prog (Try.f8.params.toList ++ []) ([d0, d1, d2] ++ [])).all (· ≤ reachBytes) = true := hsz
  rw [Try.params8] at hsz'
  have k0 := h0
  have lt0 : ∀ x ∈ p0, x.block < W.heap.size := by obtain ⟨m, hm⟩ := k0; exact DataW.trod_lt m _ _ _ hm
  have k1 := h1
  have lt1 : ∀ x ∈ p1, x.block < W.heap.size := by obtain ⟨m, hm⟩ := k1; exact DataW.trod_lt m _ _ _ hm
  have k2 := h2
  have lt2 : ∀ x ∈ p2, x.block < W.heap.size := by obtain ⟨m, hm⟩ := k2; exact DataW.trod_lt m _ _ _ hm
  obtain ⟨vb, vr, vs, vq, r, rfl, hr, hrw⟩ := arg_room (hval 0 27 v0 rfl rfl) h0 (weights_at hsz' (j := 0) rfl rfl)
  obtain ⟨x, rfl, hx8⟩ := arg_u8 (hval 1 5 v1 rfl rfl) h1 (weights_at hsz' (j := 1) rfl rfl)
  obtain ⟨ys, hy, hy8⟩ := arg_bytes (hval 2 70 v2 rfl rfl) h2 (weights_at hsz' (j := 2) rfl rfl)
  clear hA0 hval0
  refine (Ok.law (leastLaw_ok hr (bits := x) hy hy8)).mono fun e W' ⟨he, bel⟩ => ?_
  subst he
  exact ⟨_, rfl, _, _, _, [], _, [], hW', trodAll_mk1 (shut_bool Try.underlying4 _), (trodAll_cons_mk (Below.trod laidOut (by kernel_rfl) (of_decide_eq_true (by kernel_rfl)) k0 bel lt0) (trodAll_cons_mk (Below.trod laidOut (by kernel_rfl) (of_decide_eq_true (by kernel_rfl)) k1 bel lt1) (trodAll_cons_mk (Below.trod laidOut (by kernel_rfl) (of_decide_eq_true (by kernel_rfl)) k2 bel lt2) trodAll_mk0))), rfl, bel.frame _, fun h => by cases h⟩
theorem readerLeast : Rows.ReaderLeastSaid :=
  OpenClaim.holds_of_wide 8 Try.f8 rfl rfl rfl rfl rfl rfl rfl ⟨rfl, rfl, rfl, rfl, rfl⟩ rfl rfl rfl rfl rfl (by kernel_rfl) Try.func8 (by kernel_rfl)
    (of_decide_eq_true (by kernel_rfl)) (by unfold Func.isWrapper; first | (rw [if_pos (by decide +kernel)]; kernel_rfl) | (rw [if_neg (by decide +kernel)]; exact ⟨rfl, rfl⟩))
    (fun os started H enc _ => readerLeastLifted os started H enc)
#print axioms readerLeast
end Go.Proofs.Ytbcjfkcpfjccdaa
