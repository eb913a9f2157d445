/-
  ReaderGives returns true of any room, bits and number, and leaves what it is handed as it was. No conditions.
-/
import Derived.Test.YtbcjfkcpfjccdaaPae
namespace Go.Proofs.Ytbcjfkcpfjccdaa
open Go.RowKit
theorem ar_77 : ArrT Try.prog 77 2 5 1 := arrT_of (by kernel_rfl)
theorem givesV_ok {F : Heap} {vb vr vs vq : Value} {r : Room} (hr : RoomR F vb vr vs vq r) {v : Value} {xs : List Int} (hx : Ints F v xs) {x : Int} {ls : List Nat} {c : Int} (hg : givesE r xs x = (ls, c)) : Ok Try.prog 32 [.agg #[vb, vr, vs, vq], v, .int .i64 x].toArray F fun u F' => ∃ ws, u = .tuple #[ws, .int .i64 c] ∧ Nats F' ws ls := by
  have := gives_top_ok hr hx x
  rw [hg] at this; exact this
theorem wo_le {l y : List Nat} : (wo l y).length ≤ l.length := List.length_filter_le _ _
set_option maxRecDepth 100000 in
theorem givesLaw_ok {F : Heap} {vb vr vs vq : Value} {r : Room} (hr : RoomR F vb vr vs vq r) {b0 b1 x : Nat} (hx8 : x < 256) : Ok Try.prog 11 [.agg #[vb, vr, vs, vq], .agg #[.int .u8 (b0 : Int), .int .u8 (b1 : Int)], .int .u8 (x : Int)].toArray F fun u _ => u = .bool true := by
  refine Ok.intro Try.func11 rfl Try.ntmps11 rfl fun w0 => ?_
  have hle0 : F.le F := Heap.le_refl _
  have hLq := hr.reqs.plain.lt
  by_cases h0 : (check r).2.2 = 0
  ·
   have hv := valid_of h0
   have hE := chosen_err h0 (bits := b0)
   have hn8 := asc_length hv (chosen_lt (bits := b0)) chosen_asc
   by_cases hn0 : r.reqs.length = 0
   ·
    refine WC_seq ?_
    refine WC_reg fun ds => ?_
    refine WL_x rfl (x_box (lk_entry rfl) rfl fun b1 hb1 nb1 => ?_)
    refine WL_x rfl (x_box (lk1 rfl <| lk_entry rfl) rfl fun b2 hb2 nb2 => ?_)
    refine WL_q rfl (q_assign lk_const) ?_
    refine WL_nil ?_
    refine then_n ?_
    refine WC_seq ?_
    refine WC_seq ?_
    refine WC_reg fun ds => ?_
    refine WL_q rfl (q_loadN agg_27 (lk2 rfl <| lk0) rfl rfl (own_whole 1 rfl)) ?_
    refine WL_c rfl (q_call bd_37 lk_func (.cons (lk0) .nil) (valid_ok hr) (fun _ _ h => h)) ?_
    refine WL_q rfl (q_not (lk0)) ?_
    refine WL_q rfl (q_move (lk0)) ?_
    refine WL_want rfl rfl (lk0) (by simp [h0]) ?_
    refine WL_q rfl (q_fieldAddrB fd_27_3 (lk4 rfl <| lk2 rfl <| lk0)) ?_
    refine WL_want rfl rfl (lk1 rfl <| lk0) (by simp [h0]) ?_
    refine WL_q rfl (q_load1 one_25 (lk0) (Cell.own 1 rfl rfl)) ?_
    refine WL_want rfl rfl (lk2 rfl <| lk0) (by simp [h0]) ?_
    refine WL_q rfl (q_lenP sl_25 (lk0) hr.reqs.plain) ?_
    refine WL_want rfl rfl (lk2 rfl <| lk1 rfl <| lk0) (by simp [h0]) ?_
    refine WL_q rfl (q_eql (lk0) lk_const) ?_
    refine WL_q rfl (q_pick_false (lk4 rfl <| lk0) (by simp [h0]) (lk0)) ?_
    refine WL_nil ?_
    refine then_n ?_
    refine WC_if_true (lk0) (decide_eq_true (by omega)) ?_
    refine WC_seq ?_
    refine WC_reg fun ds => ?_
    refine WL_q rfl (q_loadN agg_27 (lk8 rfl <| lk2 rfl <| lk1 rfl <| lk0) rfl rfl (own_whole 1 rfl)) ?_
    refine WL_x rfl (x_call bd_32 lk_func (.cons (lk0) (.cons lk_const (.cons lk_const .nil))) (gives_top_ok hr (v := .slice none 0 0) (xs := []) Sl.nil 0) fun v3 F4 hr5 hF6 => ?_)
    replace hr := hr.mono hF6
    replace hle0 := Heap.le_trans hle0 hF6
    obtain ⟨w0_, rfl, hg0⟩ := hr5
    refine WL_q rfl (q_move (lk0)) ?_
    refine WL_q rfl (q_extract (lk0) rfl) ?_
    refine WL_q rfl (q_extract (lk1 rfl <| lk0) rfl) ?_
    refine WL_q rfl (q_assign (lk1 rfl <| lk0)) ?_
    refine WL_q rfl (q_assign (lk1 rfl <| lk0)) ?_
    refine WL_nil ?_
    refine then_n ?_
    refine WC_seq ?_
    refine WC_reg fun ds => ?_
    refine WL_q rfl (q_move (lk0)) ?_
    refine WL_q rfl (q_neq (lk0) lk_const) ?_
    refine WL_q rfl (q_move (lk0)) ?_
    refine WL_want rfl rfl (lk0) (decide_eq_true (gives_none (.inr hn0))) ?_
    refine WL_c rfl (q_call bd_21 lk_func .nil awake_ok (fun _ _ h => h)) ?_
    refine WL_q rfl (q_pick_true (lk1 rfl <| lk0) (decide_eq_true (gives_none (.inr hn0))) (lk0)) ?_
    refine WL_q rfl (q_assign (lk0)) ?_
    refine WL_nil ?_
    refine then_n ?_
    refine WC_ret ?_
    refine then_r ?_
    refine post_ret rfl (.tmp (lk0) .nil) ?_
    rfl
   ·
    have hQ : (x % r.reqs.length) < r.reqs.length := Nat.mod_lt _ (by omega)
    have hE1 := one_err h0 hQ
    have hB := inB_of hQ
    refine WC_seq ?_
    refine WC_reg fun ds => ?_
    refine WL_x rfl (x_box (lk_entry rfl) rfl fun b7 hb7 nb7 => ?_)
    refine WL_x rfl (x_box (lk1 rfl <| lk_entry rfl) rfl fun b8 hb8 nb8 => ?_)
    refine WL_q rfl (q_assign lk_const) ?_
    refine WL_nil ?_
    refine then_n ?_
    refine WC_seq ?_
    refine WC_seq ?_
    refine WC_reg fun ds => ?_
    refine WL_q rfl (q_loadN agg_27 (lk2 rfl <| lk0) rfl rfl (own_whole 1 rfl)) ?_
    refine WL_c rfl (q_call bd_37 lk_func (.cons (lk0) .nil) (valid_ok hr) (fun _ _ h => h)) ?_
    refine WL_q rfl (q_not (lk0)) ?_
    refine WL_q rfl (q_move (lk0)) ?_
    refine WL_want rfl rfl (lk0) (by simp [h0]) ?_
    refine WL_q rfl (q_fieldAddrB fd_27_3 (lk4 rfl <| lk2 rfl <| lk0)) ?_
    refine WL_want rfl rfl (lk1 rfl <| lk0) (by simp [h0]) ?_
    refine WL_q rfl (q_load1 one_25 (lk0) (Cell.own 1 rfl rfl)) ?_
    refine WL_want rfl rfl (lk2 rfl <| lk0) (by simp [h0]) ?_
    refine WL_q rfl (q_lenP sl_25 (lk0) hr.reqs.plain) ?_
    refine WL_want rfl rfl (lk2 rfl <| lk1 rfl <| lk0) (by simp [h0]) ?_
    refine WL_q rfl (q_eql (lk0) lk_const) ?_
    refine WL_q rfl (q_pick_false (lk4 rfl <| lk0) (by simp [h0]) (lk0)) ?_
    refine WL_nil ?_
    refine then_n ?_
    refine WC_if_false (lk0) (decide_eq_false (by omega)) ?_
    refine WC_skip ?_
    refine then_n ?_
    refine WC_seq ?_
    have hleS := hle0
    refine WC_drawS (.inl rfl) (fun _ _ h => h) (.cons_cons _ <| .cons_cons _ <| .refl _) [11] (by kernel_rfl) fun ds => ?_
    refine WX_take 0 rfl (by kernel_rfl) (by kernel_rfl) (by kernel_rfl) (by kernel_rfl) rfl rfl (fun _ h => h.drop (.cons_cons _ <| .cons_cons _ <| .refl _)) (fun _ _ _ h => h) (q_loadN agg_27 (lk8 rfl <| lk2 rfl <| lk1 rfl <| lk0) rfl rfl (own_whole 1 rfl)) ?_
    refine WX_take 1 rfl (by kernel_rfl) (by kernel_rfl) (by kernel_rfl) (by kernel_rfl) rfl rfl (fun _ h => h.drop (.cons_cons _ <| .cons_cons _ <| .refl _)) (fun _ _ _ h => h) (q_indexArrB (k := 0) ar_77 (lk8 rfl <| lk2 rfl <| lk1 rfl <| lk0) lk_const rfl (by decide)) ?_
    refine WX_take 2 rfl (by kernel_rfl) (by kernel_rfl) (by kernel_rfl) (by kernel_rfl) rfl rfl (fun _ h => h.drop (.cons_cons _ <| .cons_cons _ <| .refl _)) (fun _ _ _ h => h) (q_load1 one_5 (lk0) (Cell.own 0 rfl rfl)) ?_
    refine WX_take 4 rfl (by kernel_rfl) (by kernel_rfl) (by kernel_rfl) (by kernel_rfl) rfl rfl (fun _ h => h.drop (.cons_cons _ <| .cons_cons _ <| .refl _)) (fun _ _ _ h => h) (q_move (lk8 rfl <| lk4 rfl <| lk2 rfl <| lk1 rfl <| lk_entry rfl)) ?_
    refine WX_take 5 rfl (by kernel_rfl) (by kernel_rfl) (by kernel_rfl) (by kernel_rfl) rfl rfl (fun _ h => h.drop (.cons_cons _ <| .cons_cons _ <| .refl _)) (fun _ _ _ h => h) (q_convert ⟨_, Try.underlying5⟩ Try.underlying3 (lk0) (IntWalk.i64_in _ ⟨by omega, by omega⟩)) ?_
    refine WX_take 6 rfl (by kernel_rfl) (by kernel_rfl) (by kernel_rfl) (by kernel_rfl) rfl rfl (fun _ h => h.drop (.cons_cons _ <| .cons_cons _ <| .refl _)) (fun _ _ _ h => h) (q_fieldAddrB fd_27_3 (lk16 rfl <| lk0)) ?_
    refine WX_take 7 rfl (by kernel_rfl) (by kernel_rfl) (by kernel_rfl) (by kernel_rfl) rfl rfl (fun _ h => h.drop (.cons_cons _ <| .cons_cons _ <| .refl _)) (fun _ _ _ h => h) (q_load1 one_25 (lk0) (Cell.own 1 rfl rfl)) ?_
    refine WX_take 8 rfl (by kernel_rfl) (by kernel_rfl) (by kernel_rfl) (by kernel_rfl) rfl rfl (fun _ h => h.drop (.cons_cons _ <| .cons_cons _ <| .refl _)) (fun _ _ _ h => h) (q_lenP sl_25 (lk0) hr.reqs.plain) ?_
    refine WX_take 9 rfl (by kernel_rfl) (by kernel_rfl) (by kernel_rfl) (by kernel_rfl) rfl rfl (fun _ h => h.drop (.cons_cons _ <| .cons_cons _ <| .refl _)) (fun _ _ _ h => h) (q_remN (lk2 rfl <| lk1 rfl <| lk0) (lk0) (by omega)) ?_
    refine WX_x 3 rfl (by kernel_rfl) rfl (x_call bd_38 lk_func (.cons (lk8 rfl <| lk0) (.cons (lk4 rfl <| lk2 rfl <| lk0) .nil)) (chosen_ok hr) fun v9 F10 hr11 hF12 => ⟨fun _ _ _ h => (h.drop (.cons_cons _ <| .cons_cons _ <| .refl _)).weak hF12 hleS, ?_⟩)
    replace hr := hr.mono hF12
    replace hle0 := Heap.le_trans hle0 hF12
    obtain ⟨wl, hwl⟩ : ∃ y, y = v9 := ⟨_, rfl⟩
    subst hwl
    have hl := hr11
    refine WX_x 10 rfl (by kernel_rfl) rfl (x_quiet (q_assign (lk0)).quiet ⟨fun _ _ => (fun _ h => (h.drop (.cons_cons _ <| .cons_cons _ <| .refl _)).weak hF12 hleS), ?_⟩)
    refine WX_x 11 rfl (by kernel_rfl) rfl (x_quiet (q_assign (lk2 rfl <| lk0)).quiet ⟨(fun h => nomatch h), ?_⟩)
    refine WX_done (by kernel_rfl) ?_ _
    refine then_n ?_
    refine WC_seq ?_
    by_cases hm : (x % r.reqs.length) ∈ (chosenL r b0)
    ·
     refine WC_reg fun ds => ?_
     refine WL_q rfl (q_loadN agg_27 (lk16 rfl <| lk4 rfl <| lk2 rfl <| lk1 rfl <| lk0) rfl rfl (own_whole 1 rfl)) ?_
     refine WL_q rfl (q_move (lk2 rfl <| lk0)) ?_
     refine WL_q rfl (q_move (lk2 rfl <| lk0)) ?_
     refine WL_x rfl (x_call bd_32 lk_func (.cons (lk2 rfl <| lk0) (.cons (lk1 rfl <| lk0) (.cons (lk0) .nil))) (givesV_ok hr (Nats.ints hl) (gives_in hE hB hm)) fun v13 F14 hr15 hF16 => ?_)
     replace hr := hr.mono hF16
     replace hle0 := Heap.le_trans hle0 hF16
     replace hl := hl.mono hF16
     obtain ⟨ws, rfl, hq⟩ := hr15
     refine WL_q rfl (q_move (lk0)) ?_
     refine WL_q rfl (q_extract (lk0) rfl) ?_
     refine WL_q rfl (q_extract (lk1 rfl <| lk0) rfl) ?_
     refine WL_q rfl (q_assign (lk1 rfl <| lk0)) ?_
     refine WL_q rfl (q_assign (lk1 rfl <| lk0)) ?_
     refine WL_nil ?_
     refine then_n ?_
     refine WC_seq ?_
     refine WC_seq ?_
     refine WC_reg fun ds => ?_
     refine WL_q rfl (q_move (lk8 rfl <| lk2 rfl <| lk0)) ?_
     refine WL_q rfl (q_move (lk8 rfl <| lk2 rfl <| lk0)) ?_
     refine WL_c rfl (q_call bd_39 lk_func (.cons (lk1 rfl <| lk0) (.cons (lk0) .nil)) (has_nat hl (x % r.reqs.length)) (fun _ _ h => h)) ?_
     refine WL_nil ?_
     refine then_n ?_
     refine WC_if_true (lk0) (decide_eq_true hm) ?_
     refine WC_seq ?_
     refine WC_reg fun ds => ?_
     refine WL_q rfl (q_move (lk2 rfl <| lk1 rfl <| lk0)) ?_
     refine WL_q rfl (q_eql (lk0) lk_const) ?_
     refine WL_q rfl (q_move (lk0)) ?_
     refine WL_want rfl rfl (lk0) rfl ?_
     refine WL_q rfl (q_move (lk4 rfl <| lk2 rfl <| lk1 rfl <| lk0)) ?_
     refine WL_want rfl rfl (lk1 rfl <| lk0) rfl ?_
     refine WL_q rfl (q_lenP sl_29 (lk0) hq.plain) ?_
     refine WL_want rfl rfl (lk2 rfl <| lk0) rfl ?_
     refine WL_q rfl (q_eql (lk0) lk_const) ?_
     refine WL_q rfl (q_pick_true (lk2 rfl <| lk1 rfl <| lk0) rfl (lk0)) ?_
     refine WL_q rfl (q_move (lk0)) ?_
     refine WL_want rfl rfl (lk0) rfl ?_
     refine WL_c rfl (q_call bd_21 lk_func .nil awake_ok (fun _ _ h => h)) ?_
     refine WL_q rfl (q_pick_true (lk1 rfl <| lk0) rfl (lk0)) ?_
     refine WL_q rfl (q_assign (lk0)) ?_
     refine WL_nil ?_
     refine then_n ?_
     refine WC_ret ?_
     refine then_r ?_
     refine post_ret rfl (.tmp (lk0) .nil) ?_
     rfl
    ·
     cases hc1 : canB r (chosenL r b0)
     ·
      refine WC_reg fun ds => ?_
      refine WL_q rfl (q_loadN agg_27 (lk16 rfl <| lk4 rfl <| lk2 rfl <| lk1 rfl <| lk0) rfl rfl (own_whole 1 rfl)) ?_
      refine WL_q rfl (q_move (lk2 rfl <| lk0)) ?_
      refine WL_q rfl (q_move (lk2 rfl <| lk0)) ?_
      refine WL_x rfl (x_call bd_32 lk_func (.cons (lk2 rfl <| lk0) (.cons (lk1 rfl <| lk0) (.cons (lk0) .nil))) (givesV_ok hr (Nats.ints hl) (gives_down hE hB hm (fun hc => by rw [hc1] at hc; simp at hc))) fun v17 F18 hr19 hF20 => ?_)
      replace hr := hr.mono hF20
      replace hle0 := Heap.le_trans hle0 hF20
      replace hl := hl.mono hF20
      obtain ⟨ws, rfl, hq⟩ := hr19
      refine WL_q rfl (q_move (lk0)) ?_
      refine WL_q rfl (q_extract (lk0) rfl) ?_
      refine WL_q rfl (q_extract (lk1 rfl <| lk0) rfl) ?_
      refine WL_q rfl (q_assign (lk1 rfl <| lk0)) ?_
      refine WL_q rfl (q_assign (lk1 rfl <| lk0)) ?_
      refine WL_nil ?_
      refine then_n ?_
      refine WC_seq ?_
      refine WC_seq ?_
      refine WC_reg fun ds => ?_
      refine WL_q rfl (q_move (lk8 rfl <| lk2 rfl <| lk0)) ?_
      refine WL_q rfl (q_move (lk8 rfl <| lk2 rfl <| lk0)) ?_
      refine WL_c rfl (q_call bd_39 lk_func (.cons (lk1 rfl <| lk0) (.cons (lk0) .nil)) (has_nat hl (x % r.reqs.length)) (fun _ _ h => h)) ?_
      refine WL_nil ?_
      refine then_n ?_
      refine WC_if_false (lk0) (decide_eq_false hm) ?_
      refine WC_skip ?_
      refine then_n ?_
      refine WC_seq ?_
      refine WC_reg fun ds => ?_
      refine WL_q rfl (q_loadN agg_27 (lk32 rfl <| lk2 rfl <| lk1 rfl <| lk0) rfl rfl (own_whole 1 rfl)) ?_
      refine WL_q rfl (q_move (lk8 rfl <| lk4 rfl <| lk2 rfl <| lk0)) ?_
      refine WL_c rfl (q_call bd_19 lk_func (.cons (lk1 rfl <| lk0) (.cons (lk0) .nil)) (can_top_ok hr (Nats.ints hl)) (fun _ _ h => h.trans (can_val1 (b := false) hE hc1))) ?_
      refine WL_q rfl (q_move (lk0)) ?_
      refine WL_q rfl (q_extract (lk0) rfl) ?_
      refine WL_q rfl (q_extract (lk1 rfl <| lk0) rfl) ?_
      refine WL_q rfl (q_assign (lk1 rfl <| lk0)) ?_
      refine WL_q rfl (q_assign (lk1 rfl <| lk0)) ?_
      refine WL_nil ?_
      refine then_n ?_
      refine WC_seq ?_
      refine WC_reg fun ds => ?_
      refine WL_q rfl (q_loadN agg_27 (lk32 rfl <| lk8 rfl <| lk2 rfl <| lk1 rfl <| lk0) rfl rfl (own_whole 1 rfl)) ?_
      refine WL_q rfl (q_move (lk16 rfl <| lk4 rfl <| lk1 rfl <| lk0)) ?_
      refine WL_x rfl (x_build sl_29 zr_3 rfl (.cons (lk0) .nil) rfl rfl (by decide) (by simp [Value.oneCell']) fun b21 hb21 nb21 => ?_)
      refine WL_freeze (i := 0) rfl hb21 .here fun F22 hF23 hz24 => ?_
      replace hr := hr.mono hF23
      replace hle0 := Heap.le_trans hle0 hF23
      replace hl := hl.mono hF23
      replace hq := hq.mono hF23
      have hsl25 := natOne1 hz24
      refine WL_c rfl (q_call bd_19 lk_func (.cons (lk2 rfl <| lk0) (.cons (lk0) .nil)) (can_top_ok hr (Nats.ints hsl25)) (fun _ _ h => h.trans (can_val1 (b := (canB r [(x % r.reqs.length)])) hE1 rfl))) ?_
      refine WL_q rfl (q_move (lk0)) ?_
      refine WL_q rfl (q_extract (lk0) rfl) ?_
      refine WL_q rfl (q_extract (lk1 rfl <| lk0) rfl) ?_
      refine WL_q rfl (q_assign (lk1 rfl <| lk0)) ?_
      refine WL_q rfl (q_assign (lk1 rfl <| lk0)) ?_
      refine WL_nil ?_
      refine then_n ?_
      refine WC_seq ?_
      refine WC_seq ?_
      refine WC_reg fun ds => ?_
      refine WL_q rfl (q_move (lk8 rfl <| lk1 rfl <| lk0)) ?_
      refine WL_q rfl (q_neq (lk0) lk_const) ?_
      refine WL_q rfl (q_move (lk0)) ?_
      refine WL_want rfl rfl (lk0) rfl ?_
      refine WL_q rfl (q_move (lk2 rfl <| lk1 rfl <| lk0)) ?_
      refine WL_want rfl rfl (lk1 rfl <| lk0) rfl ?_
      refine WL_q rfl (q_neq (lk0) lk_const) ?_
      refine WL_q rfl (q_pick_false (lk2 rfl <| lk0) rfl (lk0)) ?_
      refine WL_nil ?_
      refine then_n ?_
      refine WC_if_false (lk0) rfl ?_
      refine WC_skip ?_
      refine then_n ?_
      refine WC_seq ?_
      refine WC_seq ?_
      refine WC_reg fun ds => ?_
      refine WL_q rfl (q_move (lk16 rfl <| lk8 rfl <| lk2 rfl <| lk0)) ?_
      refine WL_q rfl (q_neq (lk0) lk_const) ?_
      refine WL_nil ?_
      refine then_n ?_
      refine WC_if_true (lk0) rfl ?_
      refine WC_seq ?_
      refine WC_reg fun ds => ?_
      refine WL_q rfl (q_move (lk16 rfl <| lk8 rfl <| lk4 rfl <| lk0)) ?_
      refine WL_q rfl (q_eql (lk0) lk_const) ?_
      refine WL_q rfl (q_move (lk0)) ?_
      refine WL_want rfl rfl (lk0) rfl ?_
      refine WL_q rfl (q_move (lk32 rfl <| lk0)) ?_
      refine WL_want rfl rfl (lk1 rfl <| lk0) rfl ?_
      refine WL_q rfl (q_lenP sl_29 (lk0) hq.plain) ?_
      refine WL_want rfl rfl (lk2 rfl <| lk0) rfl ?_
      refine WL_q rfl (q_eql (lk0) lk_const) ?_
      refine WL_q rfl (q_pick_true (lk2 rfl <| lk1 rfl <| lk0) rfl (lk0)) ?_
      refine WL_q rfl (q_move (lk0)) ?_
      refine WL_want rfl rfl (lk0) rfl ?_
      refine WL_q rfl (q_move (lk16 rfl <| lk8 rfl <| lk2 rfl <| lk0)) ?_
      refine WL_want rfl rfl (lk1 rfl <| lk0) rfl ?_
      refine WL_q rfl (q_not (lk0)) ?_
      refine WL_want rfl rfl (lk2 rfl <| lk0) rfl ?_
      refine WL_q rfl (q_move (lk0)) ?_
      refine WL_pass rfl rfl (lk0) (.inl (congrArg Value.bool rfl)) rfl ?_
      refine WL_pass rfl rfl (lk1 rfl <| lk0) (.inl (congrArg Value.bool rfl)) rfl ?_
      refine WL_want rfl rfl (lk4 rfl <| lk1 rfl <| lk0) rfl ?_
      refine WL_q rfl (q_pick_true (lk2 rfl <| lk0) rfl lk_const) ?_
      refine WL_q rfl (q_pick_true (lk4 rfl <| lk2 rfl <| lk0) rfl (lk0)) ?_
      refine WL_q rfl (q_move (lk0)) ?_
      refine WL_want rfl rfl (lk0) rfl ?_
      refine WL_c rfl (q_call bd_21 lk_func .nil awake_ok (fun _ _ h => h)) ?_
      refine WL_q rfl (q_pick_true (lk1 rfl <| lk0) rfl (lk0)) ?_
      refine WL_q rfl (q_assign (lk0)) ?_
      refine WL_nil ?_
      refine then_n ?_
      refine WC_ret ?_
      refine then_r ?_
      refine post_ret rfl (.tmp (lk0) .nil) ?_
      rfl
     ·
      cases hc2 : canB r [(x % r.reqs.length)]
      ·
       refine WC_reg fun ds => ?_
       refine WL_q rfl (q_loadN agg_27 (lk16 rfl <| lk4 rfl <| lk2 rfl <| lk1 rfl <| lk0) rfl rfl (own_whole 1 rfl)) ?_
       refine WL_q rfl (q_move (lk2 rfl <| lk0)) ?_
       refine WL_q rfl (q_move (lk2 rfl <| lk0)) ?_
       refine WL_x rfl (x_call bd_32 lk_func (.cons (lk2 rfl <| lk0) (.cons (lk1 rfl <| lk0) (.cons (lk0) .nil))) (givesV_ok hr (Nats.ints hl) (gives_down hE hB hm (fun hc => by rw [hc2] at hc; simp at hc))) fun v26 F27 hr28 hF29 => ?_)
       replace hr := hr.mono hF29
       replace hle0 := Heap.le_trans hle0 hF29
       replace hl := hl.mono hF29
       obtain ⟨ws, rfl, hq⟩ := hr28
       refine WL_q rfl (q_move (lk0)) ?_
       refine WL_q rfl (q_extract (lk0) rfl) ?_
       refine WL_q rfl (q_extract (lk1 rfl <| lk0) rfl) ?_
       refine WL_q rfl (q_assign (lk1 rfl <| lk0)) ?_
       refine WL_q rfl (q_assign (lk1 rfl <| lk0)) ?_
       refine WL_nil ?_
       refine then_n ?_
       refine WC_seq ?_
       refine WC_seq ?_
       refine WC_reg fun ds => ?_
       refine WL_q rfl (q_move (lk8 rfl <| lk2 rfl <| lk0)) ?_
       refine WL_q rfl (q_move (lk8 rfl <| lk2 rfl <| lk0)) ?_
       refine WL_c rfl (q_call bd_39 lk_func (.cons (lk1 rfl <| lk0) (.cons (lk0) .nil)) (has_nat hl (x % r.reqs.length)) (fun _ _ h => h)) ?_
       refine WL_nil ?_
       refine then_n ?_
       refine WC_if_false (lk0) (decide_eq_false hm) ?_
       refine WC_skip ?_
       refine then_n ?_
       refine WC_seq ?_
       refine WC_reg fun ds => ?_
       refine WL_q rfl (q_loadN agg_27 (lk32 rfl <| lk2 rfl <| lk1 rfl <| lk0) rfl rfl (own_whole 1 rfl)) ?_
       refine WL_q rfl (q_move (lk8 rfl <| lk4 rfl <| lk2 rfl <| lk0)) ?_
       refine WL_c rfl (q_call bd_19 lk_func (.cons (lk1 rfl <| lk0) (.cons (lk0) .nil)) (can_top_ok hr (Nats.ints hl)) (fun _ _ h => h.trans (can_val1 (b := true) hE hc1))) ?_
       refine WL_q rfl (q_move (lk0)) ?_
       refine WL_q rfl (q_extract (lk0) rfl) ?_
       refine WL_q rfl (q_extract (lk1 rfl <| lk0) rfl) ?_
       refine WL_q rfl (q_assign (lk1 rfl <| lk0)) ?_
       refine WL_q rfl (q_assign (lk1 rfl <| lk0)) ?_
       refine WL_nil ?_
       refine then_n ?_
       refine WC_seq ?_
       refine WC_reg fun ds => ?_
       refine WL_q rfl (q_loadN agg_27 (lk32 rfl <| lk8 rfl <| lk2 rfl <| lk1 rfl <| lk0) rfl rfl (own_whole 1 rfl)) ?_
       refine WL_q rfl (q_move (lk16 rfl <| lk4 rfl <| lk1 rfl <| lk0)) ?_
       refine WL_x rfl (x_build sl_29 zr_3 rfl (.cons (lk0) .nil) rfl rfl (by decide) (by simp [Value.oneCell']) fun b30 hb30 nb30 => ?_)
       refine WL_freeze (i := 0) rfl hb30 .here fun F31 hF32 hz33 => ?_
       replace hr := hr.mono hF32
       replace hle0 := Heap.le_trans hle0 hF32
       replace hl := hl.mono hF32
       replace hq := hq.mono hF32
       have hsl34 := natOne1 hz33
       refine WL_c rfl (q_call bd_19 lk_func (.cons (lk2 rfl <| lk0) (.cons (lk0) .nil)) (can_top_ok hr (Nats.ints hsl34)) (fun _ _ h => h.trans (can_val1 (b := false) hE1 hc2))) ?_
       refine WL_q rfl (q_move (lk0)) ?_
       refine WL_q rfl (q_extract (lk0) rfl) ?_
       refine WL_q rfl (q_extract (lk1 rfl <| lk0) rfl) ?_
       refine WL_q rfl (q_assign (lk1 rfl <| lk0)) ?_
       refine WL_q rfl (q_assign (lk1 rfl <| lk0)) ?_
       refine WL_nil ?_
       refine then_n ?_
       refine WC_seq ?_
       refine WC_seq ?_
       refine WC_reg fun ds => ?_
       refine WL_q rfl (q_move (lk8 rfl <| lk1 rfl <| lk0)) ?_
       refine WL_q rfl (q_neq (lk0) lk_const) ?_
       refine WL_q rfl (q_move (lk0)) ?_
       refine WL_want rfl rfl (lk0) rfl ?_
       refine WL_q rfl (q_move (lk2 rfl <| lk1 rfl <| lk0)) ?_
       refine WL_want rfl rfl (lk1 rfl <| lk0) rfl ?_
       refine WL_q rfl (q_neq (lk0) lk_const) ?_
       refine WL_q rfl (q_pick_false (lk2 rfl <| lk0) rfl (lk0)) ?_
       refine WL_nil ?_
       refine then_n ?_
       refine WC_if_false (lk0) rfl ?_
       refine WC_skip ?_
       refine then_n ?_
       refine WC_seq ?_
       refine WC_seq ?_
       refine WC_reg fun ds => ?_
       refine WL_q rfl (q_move (lk16 rfl <| lk8 rfl <| lk2 rfl <| lk0)) ?_
       refine WL_q rfl (q_neq (lk0) lk_const) ?_
       refine WL_nil ?_
       refine then_n ?_
       refine WC_if_true (lk0) rfl ?_
       refine WC_seq ?_
       refine WC_reg fun ds => ?_
       refine WL_q rfl (q_move (lk16 rfl <| lk8 rfl <| lk4 rfl <| lk0)) ?_
       refine WL_q rfl (q_eql (lk0) lk_const) ?_
       refine WL_q rfl (q_move (lk0)) ?_
       refine WL_want rfl rfl (lk0) rfl ?_
       refine WL_q rfl (q_move (lk32 rfl <| lk0)) ?_
       refine WL_want rfl rfl (lk1 rfl <| lk0) rfl ?_
       refine WL_q rfl (q_lenP sl_29 (lk0) hq.plain) ?_
       refine WL_want rfl rfl (lk2 rfl <| lk0) rfl ?_
       refine WL_q rfl (q_eql (lk0) lk_const) ?_
       refine WL_q rfl (q_pick_true (lk2 rfl <| lk1 rfl <| lk0) rfl (lk0)) ?_
       refine WL_q rfl (q_move (lk0)) ?_
       refine WL_want rfl rfl (lk0) rfl ?_
       refine WL_q rfl (q_move (lk16 rfl <| lk8 rfl <| lk2 rfl <| lk0)) ?_
       refine WL_want rfl rfl (lk1 rfl <| lk0) rfl ?_
       refine WL_q rfl (q_not (lk0)) ?_
       refine WL_want rfl rfl (lk2 rfl <| lk0) rfl ?_
       refine WL_q rfl (q_move (lk0)) ?_
       refine WL_want rfl rfl (lk0) rfl ?_
       refine WL_q rfl (q_move (lk16 rfl <| lk4 rfl <| lk0)) ?_
       refine WL_want rfl rfl (lk1 rfl <| lk0) rfl ?_
       refine WL_q rfl (q_not (lk0)) ?_
       refine WL_want rfl rfl (lk4 rfl <| lk1 rfl <| lk0) rfl ?_
       refine WL_q rfl (q_pick_false (lk2 rfl <| lk0) rfl (lk0)) ?_
       refine WL_q rfl (q_pick_true (lk4 rfl <| lk2 rfl <| lk0) rfl (lk0)) ?_
       refine WL_q rfl (q_move (lk0)) ?_
       refine WL_want rfl rfl (lk0) rfl ?_
       refine WL_c rfl (q_call bd_21 lk_func .nil awake_ok (fun _ _ h => h)) ?_
       refine WL_q rfl (q_pick_true (lk1 rfl <| lk0) rfl (lk0)) ?_
       refine WL_q rfl (q_assign (lk0)) ?_
       refine WL_nil ?_
       refine then_n ?_
       refine WC_ret ?_
       refine then_r ?_
       refine post_ret rfl (.tmp (lk0) .nil) ?_
       rfl
      ·
       refine WC_reg fun ds => ?_
       refine WL_q rfl (q_loadN agg_27 (lk16 rfl <| lk4 rfl <| lk2 rfl <| lk1 rfl <| lk0) rfl rfl (own_whole 1 rfl)) ?_
       refine WL_q rfl (q_move (lk2 rfl <| lk0)) ?_
       refine WL_q rfl (q_move (lk2 rfl <| lk0)) ?_
       refine WL_x rfl (x_call bd_32 lk_func (.cons (lk2 rfl <| lk0) (.cons (lk1 rfl <| lk0) (.cons (lk0) .nil))) (givesV_ok hr (Nats.ints hl) (gives_ok hE hB hm ⟨hc1, hc2⟩)) fun v35 F36 hr37 hF38 => ?_)
       replace hr := hr.mono hF38
       replace hle0 := Heap.le_trans hle0 hF38
       replace hl := hl.mono hF38
       obtain ⟨ws, rfl, hq⟩ := hr37
       refine WL_q rfl (q_move (lk0)) ?_
       refine WL_q rfl (q_extract (lk0) rfl) ?_
       refine WL_q rfl (q_extract (lk1 rfl <| lk0) rfl) ?_
       refine WL_q rfl (q_assign (lk1 rfl <| lk0)) ?_
       refine WL_q rfl (q_assign (lk1 rfl <| lk0)) ?_
       refine WL_nil ?_
       refine then_n ?_
       refine WC_seq ?_
       refine WC_seq ?_
       refine WC_reg fun ds => ?_
       refine WL_q rfl (q_move (lk8 rfl <| lk2 rfl <| lk0)) ?_
       refine WL_q rfl (q_move (lk8 rfl <| lk2 rfl <| lk0)) ?_
       refine WL_c rfl (q_call bd_39 lk_func (.cons (lk1 rfl <| lk0) (.cons (lk0) .nil)) (has_nat hl (x % r.reqs.length)) (fun _ _ h => h)) ?_
       refine WL_nil ?_
       refine then_n ?_
       refine WC_if_false (lk0) (decide_eq_false hm) ?_
       refine WC_skip ?_
       refine then_n ?_
       refine WC_seq ?_
       refine WC_reg fun ds => ?_
       refine WL_q rfl (q_loadN agg_27 (lk32 rfl <| lk2 rfl <| lk1 rfl <| lk0) rfl rfl (own_whole 1 rfl)) ?_
       refine WL_q rfl (q_move (lk8 rfl <| lk4 rfl <| lk2 rfl <| lk0)) ?_
       refine WL_c rfl (q_call bd_19 lk_func (.cons (lk1 rfl <| lk0) (.cons (lk0) .nil)) (can_top_ok hr (Nats.ints hl)) (fun _ _ h => h.trans (can_val1 (b := true) hE hc1))) ?_
       refine WL_q rfl (q_move (lk0)) ?_
       refine WL_q rfl (q_extract (lk0) rfl) ?_
       refine WL_q rfl (q_extract (lk1 rfl <| lk0) rfl) ?_
       refine WL_q rfl (q_assign (lk1 rfl <| lk0)) ?_
       refine WL_q rfl (q_assign (lk1 rfl <| lk0)) ?_
       refine WL_nil ?_
       refine then_n ?_
       refine WC_seq ?_
       refine WC_reg fun ds => ?_
       refine WL_q rfl (q_loadN agg_27 (lk32 rfl <| lk8 rfl <| lk2 rfl <| lk1 rfl <| lk0) rfl rfl (own_whole 1 rfl)) ?_
       refine WL_q rfl (q_move (lk16 rfl <| lk4 rfl <| lk1 rfl <| lk0)) ?_
       refine WL_x rfl (x_build sl_29 zr_3 rfl (.cons (lk0) .nil) rfl rfl (by decide) (by simp [Value.oneCell']) fun b39 hb39 nb39 => ?_)
       refine WL_freeze (i := 0) rfl hb39 .here fun F40 hF41 hz42 => ?_
       replace hr := hr.mono hF41
       replace hle0 := Heap.le_trans hle0 hF41
       replace hl := hl.mono hF41
       replace hq := hq.mono hF41
       have hsl43 := natOne1 hz42
       refine WL_c rfl (q_call bd_19 lk_func (.cons (lk2 rfl <| lk0) (.cons (lk0) .nil)) (can_top_ok hr (Nats.ints hsl43)) (fun _ _ h => h.trans (can_val1 (b := true) hE1 hc2))) ?_
       refine WL_q rfl (q_move (lk0)) ?_
       refine WL_q rfl (q_extract (lk0) rfl) ?_
       refine WL_q rfl (q_extract (lk1 rfl <| lk0) rfl) ?_
       refine WL_q rfl (q_assign (lk1 rfl <| lk0)) ?_
       refine WL_q rfl (q_assign (lk1 rfl <| lk0)) ?_
       refine WL_nil ?_
       refine then_n ?_
       refine WC_seq ?_
       refine WC_seq ?_
       refine WC_reg fun ds => ?_
       refine WL_q rfl (q_move (lk8 rfl <| lk1 rfl <| lk0)) ?_
       refine WL_q rfl (q_neq (lk0) lk_const) ?_
       refine WL_q rfl (q_move (lk0)) ?_
       refine WL_want rfl rfl (lk0) rfl ?_
       refine WL_q rfl (q_move (lk2 rfl <| lk1 rfl <| lk0)) ?_
       refine WL_want rfl rfl (lk1 rfl <| lk0) rfl ?_
       refine WL_q rfl (q_neq (lk0) lk_const) ?_
       refine WL_q rfl (q_pick_false (lk2 rfl <| lk0) rfl (lk0)) ?_
       refine WL_nil ?_
       refine then_n ?_
       refine WC_if_false (lk0) rfl ?_
       refine WC_skip ?_
       refine then_n ?_
       refine WC_seq ?_
       refine WC_seq ?_
       refine WC_reg fun ds => ?_
       refine WL_q rfl (q_move (lk16 rfl <| lk8 rfl <| lk2 rfl <| lk0)) ?_
       refine WL_q rfl (q_neq (lk0) lk_const) ?_
       refine WL_nil ?_
       refine then_n ?_
       refine WC_if_false (lk0) rfl ?_
       have hG := give_facts h0 chosen_lt chosen_asc hQ hm hc2 b1
       refine WC_skip ?_
       refine then_n ?_
       refine WC_seq ?_
       refine WC_reg fun ds => ?_
       refine WL_q rfl (q_assign lk_const) ?_
       refine WL_q rfl (q_assign lk_const) ?_
       refine WL_nil ?_
       refine then_n ?_
       refine WC_seq ?_
       refine WC_reg fun ds => ?_
       refine WL_q rfl (q_assign lk_const) ?_
       refine WL_nil ?_
       refine then_n ?_
       refine WC_seq ?_
       refine WC_seq ?_
       refine WC_reg fun ds => ?_
       refine WL_q rfl (q_assign lk_const) ?_
       refine WL_nil ?_
       refine then_n ?_
       refine WC_block ?_
       refine WC_loopN [17, 18, 19, 20, 113, 114, 115, 116, 117, 118, 119, 120, 121, 122, 123, 124, 125, 126, 127, 128, 129, 130, 131, 132, 133, 134, 135, 136, 137, 138, 139, 140, 141, 142, 143, 144, 145, 146, 147] (fun m e σ => ∃ k : Nat, m + k = (chosenL r b0).length ∧ e 20 = .int .i64 k ∧ e 19 = .int .i64 ((mnyTo b1 k) : Nat) ∧ ∃ (v17 v18 : Value) (S17 S18 : List (Nat × Obj)), e 17 = v17 ∧ e 18 = v18 ∧ Own 3 1 v17 (wo ((chosenL r b0).take k) (wo (chosenL r b0) (keptP r (chosenL r b0) (x % r.reqs.length)))).length ((wo ((chosenL r b0).take k) (wo (chosenL r b0) (keptP r (chosenL r b0) (x % r.reqs.length)))).flatMap natE) S17 ∧ Own 3 1 v18 (othTo (chosenL r b0) b1 k).length ((othTo (chosenL r b0) b1 k).flatMap natE) S18 ∧ σ = ⟨F40, (b8, bx 77 [.int .u8 (b0 : Int), .int .u8 (b1 : Int)]) :: (b7, bx 27 [vb, vr, vs, vq]) :: (S17 ++ S18)⟩) ((chosenL r b0).length) ?_ ?_
       · exact ⟨0, by omega, (lk0), (lk1 rfl <| lk0), _, _, [], [], (lk2 rfl <| lk1 rfl <| lk0), (lk2 rfl <| lk0), own_nil, own_nil, rfl⟩
       ·
        rintro m e _ ⟨k, hm_, hs20, hs19, v17, v18, R17, R18, hs17, hs18, ho17, ho18, rfl⟩
        by_cases hlt : k < (chosenL r b0).length
        ·
         have hwl := wo_le (l := (chosenL r b0).take k) (y := (wo (chosenL r b0) (keptP r (chosenL r b0) (x % r.reqs.length))))
         have htl : ((chosenL r b0).take k).length ≤ k := by rw [List.length_take]; omega
         have hol := oth_len (l := (chosenL r b0)) (b := b1) k
         refine WC_seq ?_
         refine WC_seq ?_
         refine WC_reg fun ds => ?_
         refine WL_q rfl (q_move (lk_in rfl hs20)) ?_
         refine WL_q rfl (q_move (lk1 rfl <| lk_off rfl <| lk32 rfl <| lk8 rfl <| lk2 rfl <| lk0)) ?_
         refine WL_q rfl (q_lenP sl_29 (lk0) hl.plain) ?_
         refine WL_q rfl (q_lss (lk2 rfl <| lk0) (lk0)) ?_
         refine WL_nil ?_
         refine then_n ?_
         refine WC_if_true (lk0) (by first | rfl | exact decide_eq_true (by omega)) ?_
         by_cases hin : (chosenL r b0)[k] ∈ (wo (chosenL r b0) (keptP r (chosenL r b0) (x % r.reqs.length)))
         ·
          refine WC_skip ?_
          refine then_n ?_
          refine WC_seq ?_
          refine WC_block ?_
          refine WC_seq ?_
          refine WC_seq ?_
          refine WC_reg fun ds => ?_
          refine WL_q rfl (q_move (lk4 rfl <| lk_off rfl <| lk32 rfl <| lk1 rfl <| lk0)) ?_
          refine WL_q rfl (q_move (lk4 rfl <| lk1 rfl <| lk_off rfl <| lk32 rfl <| lk8 rfl <| lk2 rfl <| lk0)) ?_
          refine WL_q rfl (q_move (lk4 rfl <| lk2 rfl <| lk_in rfl hs20)) ?_
          refine WL_q rfl (q_index  sl_29 (lk1 rfl <| lk0) hl.plain (lk0) rfl hlt) ?_
          refine WL_q rfl (q_load1 one_3 (lk0) (hl.cell1 hlt rfl)) ?_
          refine WL_c rfl (q_call bd_39 lk_func (.cons (lk4 rfl <| lk0) (.cons (lk0) .nil)) (has_nat hq (chosenL r b0)[k]) (fun _ _ h => h)) ?_
          refine WL_q rfl (q_not (lk0)) ?_
          refine WL_nil ?_
          refine then_n ?_
          refine WC_if_false (lk0) (by rw [decide_eq_true hin]; rfl) ?_
          cases hb : b1.testBit k
          ·
           refine WC_skip ?_
           refine then_n ?_
           refine WC_seq ?_
           refine WC_reg fun ds => ?_
           refine WL_q rfl (q_indexArrB (k := 1) ar_77 (lk8 rfl <| lk2 rfl <| lk1 rfl <| lk_off rfl <| lk32 rfl <| lk16 rfl <| lk8 rfl <| lk4 rfl <| lk2 rfl <| lk1 rfl <| lk0) lk_const rfl (by decide)) ?_
           refine WL_q rfl (q_load1 one_5 (lk0) (Cell.own 0 rfl rfl)) ?_
           refine WL_q rfl (q_move (lk8 rfl <| lk4 rfl <| lk1 rfl <| lk_in rfl hs20)) ?_
           refine WL_q rfl (q_shr (lk1 rfl <| lk0) (lk0) (k := k) rfl (by show k < 8; omega) shr_nat) ?_
           refine WL_q rfl (q_rem (lk0) lk_const (Int.natCast_nonneg _) (by decide)) ?_
           refine WL_q rfl (q_eql (lk0) lk_const) ?_
           refine WL_nil ?_
           refine then_n ?_
           refine WC_if_false (lk0) (by rw [bit8_eq]; exact hb) ?_
           refine WC_reg fun ds => ?_
           refine WL_q rfl (q_move (lk16 rfl <| lk1 rfl <| lk_in rfl hs18)) ?_
           refine WL_q rfl (q_move (lk16 rfl <| lk2 rfl <| lk_off rfl <| lk32 rfl <| lk8 rfl <| lk2 rfl <| lk0)) ?_
           refine WL_q rfl (q_move (lk16 rfl <| lk2 rfl <| lk1 rfl <| lk_in rfl hs20)) ?_
           refine WL_q rfl (q_index  sl_29 (lk1 rfl <| lk0) hl.plain (lk0) rfl hlt) ?_
           refine WL_q rfl (q_load1 one_3 (lk0) (hl.cell1 hlt rfl)) ?_
           refine WL_x rfl (x_build sl_29 zr_3 rfl (.cons (lk0) .nil) rfl rfl (by decide) (by simp [Value.oneCell']) fun b45 hb45 nb45 => ?_)
           refine WL_x rfl (x_append sl_29 el_3 (lk4 rfl <| lk1 rfl <| lk0) ho18 (lk0) (src_box (s := 1) 0 rfl rfl (by simp [Value.oneCell'])) (by omega) (by omega) (.s <| .s <| .s <| .k <| .z) .last fun v46 R47 ho48 => ?_)
           have ho8 := ho48.snoc (x := (chosenL r b0)[k]) rfl rfl
           refine WL_q rfl (q_assign (lk0)) ?_
           refine WL_nil ?_
           refine block_n (then_n ?_)
           refine WC_imp (fun _ _ h => h.drop (.cons _ <| .cons_cons _ <| .cons_cons _ <| .refl _)) ?_
           refine WC_reg fun ds => ?_
           refine WL_q rfl (q_move (lk16 rfl <| lk8 rfl <| lk1 rfl <| lk_in rfl hs20)) ?_
           refine WL_q rfl (q_add (lk0) lk_const rfl (by omega) (by omega)) ?_
           refine WL_q rfl (q_assign (lk0)) ?_
           refine WL_nil ?_
           refine then_n ⟨_, m - 1, Off.eq (ou16 rfl <| ou8 rfl <| ou4 rfl <| off_over), by omega, ?_⟩
           obtain ⟨o1, o2⟩ := oth_yes (l := (chosenL r b0)) hlt hb
           refine ⟨k + 1, by omega, (lk0), by rw [o2]; exact (lk16 rfl <| lk8 rfl <| lk4 rfl <| lk_in rfl hs19), _, _, _, _, (lk16 rfl <| lk8 rfl <| lk4 rfl <| lk_in rfl hs17), (lk2 rfl <| lk1 rfl <| lk0), by rw [wo_take hlt, if_pos hin]; exact ho17, by rw [o1]; exact ho8, rfl⟩
          ·
           refine WC_skip ?_
           refine then_n ?_
           refine WC_seq ?_
           refine WC_reg fun ds => ?_
           refine WL_q rfl (q_indexArrB (k := 1) ar_77 (lk8 rfl <| lk2 rfl <| lk1 rfl <| lk_off rfl <| lk32 rfl <| lk16 rfl <| lk8 rfl <| lk4 rfl <| lk2 rfl <| lk1 rfl <| lk0) lk_const rfl (by decide)) ?_
           refine WL_q rfl (q_load1 one_5 (lk0) (Cell.own 0 rfl rfl)) ?_
           refine WL_q rfl (q_move (lk8 rfl <| lk4 rfl <| lk1 rfl <| lk_in rfl hs20)) ?_
           refine WL_q rfl (q_shr (lk1 rfl <| lk0) (lk0) (k := k) rfl (by show k < 8; omega) shr_nat) ?_
           refine WL_q rfl (q_rem (lk0) lk_const (Int.natCast_nonneg _) (by decide)) ?_
           refine WL_q rfl (q_eql (lk0) lk_const) ?_
           refine WL_nil ?_
           refine then_n ?_
           refine WC_if_true (lk0) (by rw [bit8_eq]; exact hb) ?_
           refine WC_reg fun ds => ?_
           refine WL_q rfl (q_move (lk16 rfl <| lk1 rfl <| lk_in rfl hs19)) ?_
           refine WL_q rfl (q_add (lk0) lk_const rfl (by omega) (by omega)) ?_
           refine WL_q rfl (q_assign (lk0)) ?_
           refine WL_nil ?_
           refine block_n (then_n ?_)
           refine WC_reg fun ds => ?_
           refine WL_q rfl (q_move (lk16 rfl <| lk4 rfl <| lk_in rfl hs20)) ?_
           refine WL_q rfl (q_add (lk0) lk_const rfl (by omega) (by omega)) ?_
           refine WL_q rfl (q_assign (lk0)) ?_
           refine WL_nil ?_
           refine then_n ⟨_, m - 1, Off.eq (ou16 rfl <| ou4 rfl <| ou2 rfl <| ou1 rfl <| off_over), by omega, ?_⟩
           obtain ⟨o1, o2⟩ := oth_no (l := (chosenL r b0)) hb
           exact ⟨k + 1, by omega, (lk0), by rw [o2]; exact (lk2 rfl <| lk1 rfl <| lk0), _, _, _, _, (lk16 rfl <| lk4 rfl <| lk2 rfl <| lk1 rfl <| lk_in rfl hs17), (lk16 rfl <| lk4 rfl <| lk2 rfl <| lk1 rfl <| lk_in rfl hs18), by rw [wo_take hlt, if_pos hin]; exact ho17, by rw [o1]; exact ho18, rfl⟩
         ·
          refine WC_skip ?_
          refine then_n ?_
          refine WC_seq ?_
          refine WC_block ?_
          refine WC_seq ?_
          refine WC_seq ?_
          refine WC_reg fun ds => ?_
          refine WL_q rfl (q_move (lk4 rfl <| lk_off rfl <| lk32 rfl <| lk1 rfl <| lk0)) ?_
          refine WL_q rfl (q_move (lk4 rfl <| lk1 rfl <| lk_off rfl <| lk32 rfl <| lk8 rfl <| lk2 rfl <| lk0)) ?_
          refine WL_q rfl (q_move (lk4 rfl <| lk2 rfl <| lk_in rfl hs20)) ?_
          refine WL_q rfl (q_index  sl_29 (lk1 rfl <| lk0) hl.plain (lk0) rfl hlt) ?_
          refine WL_q rfl (q_load1 one_3 (lk0) (hl.cell1 hlt rfl)) ?_
          refine WL_c rfl (q_call bd_39 lk_func (.cons (lk4 rfl <| lk0) (.cons (lk0) .nil)) (has_nat hq (chosenL r b0)[k]) (fun _ _ h => h)) ?_
          refine WL_q rfl (q_not (lk0)) ?_
          refine WL_nil ?_
          refine then_n ?_
          refine WC_if_true (lk0) (by rw [decide_eq_false hin]; rfl) ?_
          cases hb : b1.testBit k
          ·
           refine WC_reg fun ds => ?_
           refine WL_q rfl (q_move (lk8 rfl <| lk2 rfl <| lk1 rfl <| lk_in rfl hs17)) ?_
           refine WL_q rfl (q_move (lk8 rfl <| lk4 rfl <| lk_off rfl <| lk32 rfl <| lk8 rfl <| lk2 rfl <| lk0)) ?_
           refine WL_q rfl (q_move (lk8 rfl <| lk4 rfl <| lk1 rfl <| lk_in rfl hs20)) ?_
           refine WL_q rfl (q_index  sl_29 (lk1 rfl <| lk0) hl.plain (lk0) rfl (by omega)) ?_
           refine WL_q rfl (q_load1 one_3 (lk0) (hl.cell1 (by omega) rfl)) ?_
           refine WL_x rfl (x_build sl_29 zr_3 rfl (.cons (lk0) .nil) rfl rfl (by decide) (by simp [Value.oneCell']) fun b49 hb49 nb49 => ?_)
           refine WL_x rfl (x_append sl_29 el_3 (lk4 rfl <| lk1 rfl <| lk0) ho17 (lk0) (src_box (s := 1) 0 rfl rfl (by simp [Value.oneCell'])) (by omega) (by omega) (.s <| .s <| .s <| .z) .more fun v50 R51 ho52 => ?_)
           have ho7 := ho52.snoc (x := (chosenL r b0)[k]) rfl rfl
           refine WL_q rfl (q_assign (lk0)) ?_
           refine WL_nil ?_
           refine then_n ?_
           refine WC_seq ?_
           refine WC_reg fun ds => ?_
           refine WL_q rfl (q_indexArrB (k := 1) ar_77 (lk16 rfl <| lk2 rfl <| lk1 rfl <| lk_off rfl <| lk32 rfl <| lk16 rfl <| lk8 rfl <| lk4 rfl <| lk2 rfl <| lk1 rfl <| lk0) lk_const rfl (by decide)) ?_
           refine WL_q rfl (q_load1 one_5 (lk0) (Cell.own 1 rfl rfl)) ?_
           refine WL_q rfl (q_move (lk16 rfl <| lk4 rfl <| lk1 rfl <| lk_in rfl hs20)) ?_
           refine WL_q rfl (q_shr (lk1 rfl <| lk0) (lk0) (k := k) rfl (by show k < 8; omega) shr_nat) ?_
           refine WL_q rfl (q_rem (lk0) lk_const (Int.natCast_nonneg _) (by decide)) ?_
           refine WL_q rfl (q_eql (lk0) lk_const) ?_
           refine WL_nil ?_
           refine then_n ?_
           refine WC_if_false (lk0) (by rw [bit8_eq]; exact hb) ?_
           refine WC_reg fun ds => ?_
           refine WL_q rfl (q_move (lk16 rfl <| lk8 rfl <| lk1 rfl <| lk_in rfl hs18)) ?_
           refine WL_q rfl (q_move (lk16 rfl <| lk8 rfl <| lk2 rfl <| lk_off rfl <| lk32 rfl <| lk8 rfl <| lk2 rfl <| lk0)) ?_
           refine WL_q rfl (q_move (lk16 rfl <| lk8 rfl <| lk2 rfl <| lk1 rfl <| lk_in rfl hs20)) ?_
           refine WL_q rfl (q_index  sl_29 (lk1 rfl <| lk0) hl.plain (lk0) rfl hlt) ?_
           refine WL_q rfl (q_load1 one_3 (lk0) (hl.cell1 hlt rfl)) ?_
           refine WL_x rfl (x_build sl_29 zr_3 rfl (.cons (lk0) .nil) rfl rfl (by decide) (by simp [Value.oneCell']) fun b53 hb53 nb53 => ?_)
           refine WL_x rfl (x_append sl_29 el_3 (lk4 rfl <| lk1 rfl <| lk0) ho18 (lk0) (src_box (s := 1) 0 rfl rfl (by simp [Value.oneCell'])) (by omega) (by omega) (.s <| .s <| .s <| .s <| .k <| .z) .last fun v54 R55 ho56 => ?_)
           have ho8 := ho56.snoc (x := (chosenL r b0)[k]) rfl rfl
           refine WL_q rfl (q_assign (lk0)) ?_
           refine WL_nil ?_
           refine block_n (then_n ?_)
           refine WC_imp (fun _ _ h => h.drop (.cons _ <| .cons _ <| .cons_cons _ <| .cons_cons _ <| .refl _)) ?_
           refine WC_reg fun ds => ?_
           refine WL_q rfl (q_move (lk32 rfl <| lk1 rfl <| lk_in rfl hs20)) ?_
           refine WL_q rfl (q_add (lk0) lk_const rfl (by omega) (by omega)) ?_
           refine WL_q rfl (q_assign (lk0)) ?_
           refine WL_nil ?_
           refine then_n ⟨_, m - 1, Off.eq (ou32 rfl <| ou4 rfl <| off_over), by omega, ?_⟩
           obtain ⟨o1, o2⟩ := oth_yes (l := (chosenL r b0)) hlt hb
           refine ⟨k + 1, by omega, (lk0), by rw [o2]; exact (lk32 rfl <| lk4 rfl <| lk_in rfl hs19), _, _, _, _, (lk16 rfl <| lk1 rfl <| lk0), (lk2 rfl <| lk1 rfl <| lk0), by rw [wo_take hlt, if_neg hin]; exact ho7, by rw [o1]; exact ho8, rfl⟩
          ·
           refine WC_reg fun ds => ?_
           refine WL_q rfl (q_move (lk8 rfl <| lk2 rfl <| lk1 rfl <| lk_in rfl hs17)) ?_
           refine WL_q rfl (q_move (lk8 rfl <| lk4 rfl <| lk_off rfl <| lk32 rfl <| lk8 rfl <| lk2 rfl <| lk0)) ?_
           refine WL_q rfl (q_move (lk8 rfl <| lk4 rfl <| lk1 rfl <| lk_in rfl hs20)) ?_
           refine WL_q rfl (q_index  sl_29 (lk1 rfl <| lk0) hl.plain (lk0) rfl (by omega)) ?_
           refine WL_q rfl (q_load1 one_3 (lk0) (hl.cell1 (by omega) rfl)) ?_
           refine WL_x rfl (x_build sl_29 zr_3 rfl (.cons (lk0) .nil) rfl rfl (by decide) (by simp [Value.oneCell']) fun b57 hb57 nb57 => ?_)
           refine WL_x rfl (x_append sl_29 el_3 (lk4 rfl <| lk1 rfl <| lk0) ho17 (lk0) (src_box (s := 1) 0 rfl rfl (by simp [Value.oneCell'])) (by omega) (by omega) (.s <| .s <| .s <| .z) .more fun v58 R59 ho60 => ?_)
           have ho7 := ho60.snoc (x := (chosenL r b0)[k]) rfl rfl
           refine WL_q rfl (q_assign (lk0)) ?_
           refine WL_nil ?_
           refine then_n ?_
           refine WC_seq ?_
           refine WC_reg fun ds => ?_
           refine WL_q rfl (q_indexArrB (k := 1) ar_77 (lk16 rfl <| lk2 rfl <| lk1 rfl <| lk_off rfl <| lk32 rfl <| lk16 rfl <| lk8 rfl <| lk4 rfl <| lk2 rfl <| lk1 rfl <| lk0) lk_const rfl (by decide)) ?_
           refine WL_q rfl (q_load1 one_5 (lk0) (Cell.own 1 rfl rfl)) ?_
           refine WL_q rfl (q_move (lk16 rfl <| lk4 rfl <| lk1 rfl <| lk_in rfl hs20)) ?_
           refine WL_q rfl (q_shr (lk1 rfl <| lk0) (lk0) (k := k) rfl (by show k < 8; omega) shr_nat) ?_
           refine WL_q rfl (q_rem (lk0) lk_const (Int.natCast_nonneg _) (by decide)) ?_
           refine WL_q rfl (q_eql (lk0) lk_const) ?_
           refine WL_nil ?_
           refine then_n ?_
           refine WC_if_true (lk0) (by rw [bit8_eq]; exact hb) ?_
           refine WC_reg fun ds => ?_
           refine WL_q rfl (q_move (lk16 rfl <| lk8 rfl <| lk1 rfl <| lk_in rfl hs19)) ?_
           refine WL_q rfl (q_add (lk0) lk_const rfl (by omega) (by omega)) ?_
           refine WL_q rfl (q_assign (lk0)) ?_
           refine WL_nil ?_
           refine block_n (then_n ?_)
           refine WC_imp (fun _ _ h => h.drop (.cons _ <| .cons_cons _ <| .cons_cons _ <| .refl _)) ?_
           refine WC_reg fun ds => ?_
           refine WL_q rfl (q_move (lk16 rfl <| lk8 rfl <| lk4 rfl <| lk_in rfl hs20)) ?_
           refine WL_q rfl (q_add (lk0) lk_const rfl (by omega) (by omega)) ?_
           refine WL_q rfl (q_assign (lk0)) ?_
           refine WL_nil ?_
           refine then_n ⟨_, m - 1, Off.eq (ou16 rfl <| ou8 rfl <| ou4 rfl <| ou2 rfl <| ou1 rfl <| off_over), by omega, ?_⟩
           obtain ⟨o1, o2⟩ := oth_no (l := (chosenL r b0)) hb
           exact ⟨k + 1, by omega, (lk0), by rw [o2]; exact (lk2 rfl <| lk1 rfl <| lk0), _, _, _, _, (lk8 rfl <| lk4 rfl <| lk0), (lk16 rfl <| lk8 rfl <| lk4 rfl <| lk2 rfl <| lk1 rfl <| lk_in rfl hs18), by rw [wo_take hlt, if_neg hin]; exact ho7, by rw [o1]; exact ho18, rfl⟩
        ·
         refine WC_seq ?_
         refine WC_seq ?_
         refine WC_reg fun ds => ?_
         refine WL_q rfl (q_move (lk_in rfl hs20)) ?_
         refine WL_q rfl (q_move (lk1 rfl <| lk_off rfl <| lk32 rfl <| lk8 rfl <| lk2 rfl <| lk0)) ?_
         refine WL_q rfl (q_lenP sl_29 (lk0) hl.plain) ?_
         refine WL_q rfl (q_lss (lk2 rfl <| lk0) (lk0)) ?_
         refine WL_nil ?_
         refine then_n ?_
         refine WC_if_false (lk0) (by first | rfl | exact decide_eq_false (by omega)) ?_
         obtain rfl : k = (chosenL r b0).length := by omega
         rw [List.take_length] at ho17
         refine WC_freezeR (σ := ⟨_, _⟩) (by rfl) ho17 (.s <| .s <| .z) .more fun F61 hF62 hz63 => ?_
         replace hr := hr.mono hF62
         replace hle0 := Heap.le_trans hle0 hF62
         replace hl := hl.mono hF62
         replace hq := hq.mono hF62
         replace hsl43 := hsl43.mono hF62
         have hn17 := ho17.sl (fun _ => rfl) hz63 (by have := wo_le (l := (chosenL r b0)) (y := (wo (chosenL r b0) (keptP r (chosenL r b0) (x % r.reqs.length)))); omega)
         refine WC_freezeR (σ := ⟨_, _⟩) (by rfl) ho18 (.s <| .s <| .z) .last fun F64 hF65 hz66 => ?_
         replace hr := hr.mono hF65
         replace hle0 := Heap.le_trans hle0 hF65
         replace hl := hl.mono hF65
         replace hq := hq.mono hF65
         replace hsl43 := hsl43.mono hF65
         replace hn17 := hn17.mono hF65
         have hn18 := ho18.sl (fun _ => rfl) hz66 (by have := oth_len (l := (chosenL r b0)) (b := b1) (chosenL r b0).length; omega)
         obtain ⟨w17, hw17⟩ : ∃ y, y = v17 := ⟨_, rfl⟩
         subst hw17
         obtain ⟨w18, hw18⟩ : ∃ y, y = v18 := ⟨_, rfl⟩
         subst hw18
         have hwA := wo_le (l := (chosenL r b0)) (y := (wo (chosenL r b0) (keptP r (chosenL r b0) (x % r.reqs.length))))
         have hwB := wo_le (l := (chosenL r b0)) (y := keptP r (chosenL r b0) (x % r.reqs.length))
         refine WC_exit ?_
         refine then_x (then_x (exit_here ?_))
         refine then_n ?_
         refine WC_seq ?_
         refine WC_drawF 10 (.inl rfl) (fun _ _ h => h) (by kernel_rfl) (by kernel_rfl) false rfl ([fun F v => v = .agg #[vb, vr, vs, vq], fun F v => v = w17, fun F v => v = .int .i64 (((x % r.reqs.length) : Nat) : Int), fun F v => Nats F v (insR (wo (chosenL r b0) (wo (chosenL r b0) (keptP r (chosenL r b0) (x % r.reqs.length)))) [] (x % r.reqs.length)), fun F v => v = .tuple #[.bool true, .int .i64 0], fun F v => v = .tuple #[.bool true, .int .i64 0], fun F v => v = .bool true, fun F v => v = .int .i64 0, fun F v => v = .bool true, fun F v => v = .int .i64 0]) (⟨fun F F2 v hF h => h, fun F F2 v hF h => h, fun F F2 v hF h => h, fun F F2 v hF h => h.mono hF, fun F F2 v hF h => h, fun F F2 v hF h => h, fun F F2 v hF h => h, fun F F2 v hF h => h, fun F F2 v hF h => h, fun F F2 v hF h => h, trivial⟩) (fun ds => ?_) (fun ds => ?_)
         ·
          refine ⟨⟨⟨⟨⟨⟨⟨⟨⟨⟨trivial, ?_⟩, ?_⟩, ?_⟩, ?_⟩, ?_⟩, ?_⟩, ?_⟩, ?_⟩, ?_⟩, ?_⟩
          ·
           intro e1 F1 hF1 he hj
           replace hr := hr.mono hF1
           replace hl := hl.mono hF1
           replace hq := hq.mono hF1
           replace hsl43 := hsl43.mono hF1
           replace hn17 := hn17.mono hF1
           replace hn18 := hn18.mono hF1
           refine ⟨_, _, _, _, _, rfl, ?_⟩
           refine x_quiet (q_loadN agg_27 (lk_old (he_of he (by kernel_rfl)) <| lk4 rfl <| lk_off rfl <| lk32 rfl <| lk32 rfl <| lk0) rfl rfl (own_whole 1 rfl)).quiet ⟨_, rfl, Heap.le_refl _, rfl⟩
          ·
           intro e1 F1 hF1 he hj
           replace hr := hr.mono hF1
           replace hl := hl.mono hF1
           replace hq := hq.mono hF1
           replace hsl43 := hsl43.mono hF1
           replace hn17 := hn17.mono hF1
           replace hn18 := hn18.mono hF1
           refine ⟨_, _, _, _, _, rfl, ?_⟩
           refine x_quiet (q_move (lk_old (he_of he (by kernel_rfl)) <| lk4 rfl <| lk_in rfl hs17)).quiet ⟨_, rfl, Heap.le_refl _, rfl⟩
          ·
           intro e1 F1 hF1 he hj
           replace hr := hr.mono hF1
           replace hl := hl.mono hF1
           replace hq := hq.mono hF1
           replace hsl43 := hsl43.mono hF1
           replace hn17 := hn17.mono hF1
           replace hn18 := hn18.mono hF1
           refine ⟨_, _, _, _, _, rfl, ?_⟩
           refine x_quiet (q_move (lk_old (he_of he (by kernel_rfl)) <| lk4 rfl <| lk_off rfl <| lk32 rfl <| lk8 rfl <| lk1 rfl <| lk0)).quiet ⟨_, rfl, Heap.le_refl _, rfl⟩
          ·
           intro e1 F1 hF1 he hj
           replace hr := hr.mono hF1
           replace hl := hl.mono hF1
           replace hq := hq.mono hF1
           replace hsl43 := hsl43.mono hF1
           replace hn17 := hn17.mono hF1
           replace hn18 := hn18.mono hF1
           have g150 : (e1 150) = w17 := hj 1 (by kernel_rfl) (by decide)
           have g151 : (e1 151) = .int .i64 (((x % r.reqs.length) : Nat) : Int) := hj 2 (by kernel_rfl) (by decide)
           refine ⟨_, _, _, _, _, rfl, ?_⟩
           refine x_call bd_45 lk_func (.cons (lk_eq g150) (.cons lk_const (.cons (lk_eq g151) .nil))) (refWithout_ok hn17 (Sl.nil (enc := natE)) (by have := wo_le (l := (chosenL r b0)) (y := (wo (chosenL r b0) (keptP r (chosenL r b0) (x % r.reqs.length)))); omega) (x % r.reqs.length)) fun v2 F2 hr hF2 => ⟨F2, rfl, hF2, hr⟩
          ·
           intro e1 F1 hF1 he hj
           replace hr := hr.mono hF1
           replace hl := hl.mono hF1
           replace hq := hq.mono hF1
           replace hsl43 := hsl43.mono hF1
           replace hn17 := hn17.mono hF1
           replace hn18 := hn18.mono hF1
           have g149 : (e1 149) = .agg #[vb, vr, vs, vq] := hj 0 (by kernel_rfl) (by decide)
           have g152 : Nats F1 (e1 152) (insR (wo (chosenL r b0) (wo (chosenL r b0) (keptP r (chosenL r b0) (x % r.reqs.length)))) [] (x % r.reqs.length)) := hj 3 (by kernel_rfl) (by decide)
           refine ⟨_, _, _, _, _, rfl, ?_⟩
           refine x_quiet (q_call bd_19 lk_func (.cons (lk_eq g149) (.cons (lk_eq rfl) .nil)) (can_top_ok hr (Nats.ints g152)) (fun _ _ h => h.trans (can_val1 (b := true) hG.err hG.kept))) ⟨_, rfl, Heap.le_refl _, rfl⟩
          ·
           intro e1 F1 hF1 he hj
           replace hr := hr.mono hF1
           replace hl := hl.mono hF1
           replace hq := hq.mono hF1
           replace hsl43 := hsl43.mono hF1
           replace hn17 := hn17.mono hF1
           replace hn18 := hn18.mono hF1
           have g153 : (e1 153) = .tuple #[.bool true, .int .i64 0] := hj 4 (by kernel_rfl) (by decide)
           refine ⟨_, _, _, _, _, rfl, ?_⟩
           refine x_quiet (q_move (lk_eq g153)).quiet ⟨_, rfl, Heap.le_refl _, rfl⟩
          ·
           intro e1 F1 hF1 he hj
           replace hr := hr.mono hF1
           replace hl := hl.mono hF1
           replace hq := hq.mono hF1
           replace hsl43 := hsl43.mono hF1
           replace hn17 := hn17.mono hF1
           replace hn18 := hn18.mono hF1
           have g148 : (e1 148) = .tuple #[.bool true, .int .i64 0] := hj 5 (by kernel_rfl) (by decide)
           refine ⟨_, _, _, _, _, rfl, ?_⟩
           refine x_quiet (q_extract (lk_eq g148) rfl).quiet ⟨_, rfl, Heap.le_refl _, rfl⟩
          ·
           intro e1 F1 hF1 he hj
           replace hr := hr.mono hF1
           replace hl := hl.mono hF1
           replace hq := hq.mono hF1
           replace hsl43 := hsl43.mono hF1
           replace hn17 := hn17.mono hF1
           replace hn18 := hn18.mono hF1
           have g148 : (e1 148) = .tuple #[.bool true, .int .i64 0] := hj 5 (by kernel_rfl) (by decide)
           refine ⟨_, _, _, _, _, rfl, ?_⟩
           refine x_quiet (q_extract (lk_eq g148) rfl).quiet ⟨_, rfl, Heap.le_refl _, rfl⟩
          ·
           intro e1 F1 hF1 he hj
           replace hr := hr.mono hF1
           replace hl := hl.mono hF1
           replace hq := hq.mono hF1
           replace hsl43 := hsl43.mono hF1
           replace hn17 := hn17.mono hF1
           replace hn18 := hn18.mono hF1
           have g149 : (e1 149) = .agg #[vb, vr, vs, vq] := hj 0 (by kernel_rfl) (by decide)
           have g150 : (e1 150) = w17 := hj 1 (by kernel_rfl) (by decide)
           have g151 : (e1 151) = .int .i64 (((x % r.reqs.length) : Nat) : Int) := hj 2 (by kernel_rfl) (by decide)
           have g152 : Nats F1 (e1 152) (insR (wo (chosenL r b0) (wo (chosenL r b0) (keptP r (chosenL r b0) (x % r.reqs.length)))) [] (x % r.reqs.length)) := hj 3 (by kernel_rfl) (by decide)
           have g153 : (e1 153) = .tuple #[.bool true, .int .i64 0] := hj 4 (by kernel_rfl) (by decide)
           have g148 : (e1 148) = .tuple #[.bool true, .int .i64 0] := hj 5 (by kernel_rfl) (by decide)
           have g154 : (e1 154) = .bool true := hj 6 (by kernel_rfl) (by decide)
           refine ⟨_, _, _, _, _, rfl, ?_⟩
           refine x_quiet (q_assign (lk_eq g154)).quiet ⟨_, rfl, Heap.le_refl _, rfl⟩
          ·
           intro e1 F1 hF1 he hj
           replace hr := hr.mono hF1
           replace hl := hl.mono hF1
           replace hq := hq.mono hF1
           replace hsl43 := hsl43.mono hF1
           replace hn17 := hn17.mono hF1
           replace hn18 := hn18.mono hF1
           have g149 : (e1 149) = .agg #[vb, vr, vs, vq] := hj 0 (by kernel_rfl) (by decide)
           have g150 : (e1 150) = w17 := hj 1 (by kernel_rfl) (by decide)
           have g151 : (e1 151) = .int .i64 (((x % r.reqs.length) : Nat) : Int) := hj 2 (by kernel_rfl) (by decide)
           have g152 : Nats F1 (e1 152) (insR (wo (chosenL r b0) (wo (chosenL r b0) (keptP r (chosenL r b0) (x % r.reqs.length)))) [] (x % r.reqs.length)) := hj 3 (by kernel_rfl) (by decide)
           have g153 : (e1 153) = .tuple #[.bool true, .int .i64 0] := hj 4 (by kernel_rfl) (by decide)
           have g148 : (e1 148) = .tuple #[.bool true, .int .i64 0] := hj 5 (by kernel_rfl) (by decide)
           have g154 : (e1 154) = .bool true := hj 6 (by kernel_rfl) (by decide)
           have g155 : (e1 155) = .int .i64 0 := hj 7 (by kernel_rfl) (by decide)
           have g21 : (e1 21) = .bool true := hj 8 (by kernel_rfl) (by decide)
           refine ⟨_, _, _, _, _, rfl, ?_⟩
           refine x_quiet (q_assign (lk_eq g155)).quiet ⟨_, rfl, Heap.le_refl _, rfl⟩
         intro e70 F67 hF68 he69 hj
         replace hr := hr.mono hF68
         replace hle0 := Heap.le_trans hle0 hF68
         replace hl := hl.mono hF68
         replace hq := hq.mono hF68
         replace hsl43 := hsl43.mono hF68
         replace hn17 := hn17.mono hF68
         replace hn18 := hn18.mono hF68
         have g149 : (e70 149) = .agg #[vb, vr, vs, vq] := hj 0 (by decide)
         have g150 : (e70 150) = w17 := hj 1 (by decide)
         have g151 : (e70 151) = .int .i64 (((x % r.reqs.length) : Nat) : Int) := hj 2 (by decide)
         have g152 : Nats F67 (e70 152) (insR (wo (chosenL r b0) (wo (chosenL r b0) (keptP r (chosenL r b0) (x % r.reqs.length)))) [] (x % r.reqs.length)) := hj 3 (by decide)
         have g153 : (e70 153) = .tuple #[.bool true, .int .i64 0] := hj 4 (by decide)
         have g148 : (e70 148) = .tuple #[.bool true, .int .i64 0] := hj 5 (by decide)
         have g154 : (e70 154) = .bool true := hj 6 (by decide)
         have g155 : (e70 155) = .int .i64 0 := hj 7 (by decide)
         have g21 : (e70 21) = .bool true := hj 8 (by decide)
         have g22 : (e70 22) = .int .i64 0 := hj 9 (by decide)
         refine then_n ?_
         refine WC_seq ?_
         refine WC_drawF 10 (.inl rfl) (fun _ _ h => h) (by kernel_rfl) (by kernel_rfl) false rfl ([fun F v => v = .agg #[vb, vr, vs, vq], fun F v => v = w18, fun F v => v = .int .i64 (((x % r.reqs.length) : Nat) : Int), fun F v => Nats F v (insR (othTo (chosenL r b0) b1 (chosenL r b0).length) [] (x % r.reqs.length)), fun F v => v = .tuple #[.bool (canB r (insR (othTo (chosenL r b0) b1 (chosenL r b0).length) [] (x % r.reqs.length))), .int .i64 0], fun F v => v = .tuple #[.bool (canB r (insR (othTo (chosenL r b0) b1 (chosenL r b0).length) [] (x % r.reqs.length))), .int .i64 0], fun F v => v = .bool (canB r (insR (othTo (chosenL r b0) b1 (chosenL r b0).length) [] (x % r.reqs.length))), fun F v => v = .int .i64 0, fun F v => v = .bool (canB r (insR (othTo (chosenL r b0) b1 (chosenL r b0).length) [] (x % r.reqs.length))), fun F v => v = .int .i64 0]) (⟨fun F F2 v hF h => h, fun F F2 v hF h => h, fun F F2 v hF h => h, fun F F2 v hF h => h.mono hF, fun F F2 v hF h => h, fun F F2 v hF h => h, fun F F2 v hF h => h, fun F F2 v hF h => h, fun F F2 v hF h => h, fun F F2 v hF h => h, trivial⟩) (fun ds => ?_) (fun ds => ?_)
         ·
          refine ⟨⟨⟨⟨⟨⟨⟨⟨⟨⟨trivial, ?_⟩, ?_⟩, ?_⟩, ?_⟩, ?_⟩, ?_⟩, ?_⟩, ?_⟩, ?_⟩, ?_⟩
          ·
           intro e1 F1 hF1 he hj
           replace hr := hr.mono hF1
           replace hl := hl.mono hF1
           replace hq := hq.mono hF1
           replace hsl43 := hsl43.mono hF1
           replace hn17 := hn17.mono hF1
           replace hn18 := hn18.mono hF1
           refine ⟨_, _, _, _, _, rfl, ?_⟩
           refine x_quiet (q_loadN agg_27 (lk_old (he_of he (by kernel_rfl)) <| lk_old (he_of he69 (by kernel_rfl)) <| lk4 rfl <| lk_off rfl <| lk32 rfl <| lk32 rfl <| lk0) rfl rfl (own_whole 1 rfl)).quiet ⟨_, rfl, Heap.le_refl _, rfl⟩
          ·
           intro e1 F1 hF1 he hj
           replace hr := hr.mono hF1
           replace hl := hl.mono hF1
           replace hq := hq.mono hF1
           replace hsl43 := hsl43.mono hF1
           replace hn17 := hn17.mono hF1
           replace hn18 := hn18.mono hF1
           refine ⟨_, _, _, _, _, rfl, ?_⟩
           refine x_quiet (q_move (lk_old (he_of he (by kernel_rfl)) <| lk_old (he_of he69 (by kernel_rfl)) <| lk4 rfl <| lk_in rfl hs18)).quiet ⟨_, rfl, Heap.le_refl _, rfl⟩
          ·
           intro e1 F1 hF1 he hj
           replace hr := hr.mono hF1
           replace hl := hl.mono hF1
           replace hq := hq.mono hF1
           replace hsl43 := hsl43.mono hF1
           replace hn17 := hn17.mono hF1
           replace hn18 := hn18.mono hF1
           refine ⟨_, _, _, _, _, rfl, ?_⟩
           refine x_quiet (q_move (lk_old (he_of he (by kernel_rfl)) <| lk_old (he_of he69 (by kernel_rfl)) <| lk4 rfl <| lk_off rfl <| lk32 rfl <| lk8 rfl <| lk1 rfl <| lk0)).quiet ⟨_, rfl, Heap.le_refl _, rfl⟩
          ·
           intro e1 F1 hF1 he hj
           replace hr := hr.mono hF1
           replace hl := hl.mono hF1
           replace hq := hq.mono hF1
           replace hsl43 := hsl43.mono hF1
           replace hn17 := hn17.mono hF1
           replace hn18 := hn18.mono hF1
           have g158 : (e1 158) = w18 := hj 1 (by kernel_rfl) (by decide)
           have g159 : (e1 159) = .int .i64 (((x % r.reqs.length) : Nat) : Int) := hj 2 (by kernel_rfl) (by decide)
           refine ⟨_, _, _, _, _, rfl, ?_⟩
           refine x_call bd_45 lk_func (.cons (lk_eq g158) (.cons lk_const (.cons (lk_eq g159) .nil))) (refWithout_ok hn18 (Sl.nil (enc := natE)) (by have := oth_len (l := (chosenL r b0)) (b := b1) (chosenL r b0).length; omega) (x % r.reqs.length)) fun v2 F2 hr hF2 => ⟨F2, rfl, hF2, hr⟩
          ·
           intro e1 F1 hF1 he hj
           replace hr := hr.mono hF1
           replace hl := hl.mono hF1
           replace hq := hq.mono hF1
           replace hsl43 := hsl43.mono hF1
           replace hn17 := hn17.mono hF1
           replace hn18 := hn18.mono hF1
           have g157 : (e1 157) = .agg #[vb, vr, vs, vq] := hj 0 (by kernel_rfl) (by decide)
           have g160 : Nats F1 (e1 160) (insR (othTo (chosenL r b0) b1 (chosenL r b0).length) [] (x % r.reqs.length)) := hj 3 (by kernel_rfl) (by decide)
           refine ⟨_, _, _, _, _, rfl, ?_⟩
           refine x_quiet (q_call bd_19 lk_func (.cons (lk_eq g157) (.cons (lk_eq rfl) .nil)) (can_top_ok hr (Nats.ints g160)) (fun _ _ h => h.trans (can_val1 (b := _) hG.err2 rfl))) ⟨_, rfl, Heap.le_refl _, rfl⟩
          ·
           intro e1 F1 hF1 he hj
           replace hr := hr.mono hF1
           replace hl := hl.mono hF1
           replace hq := hq.mono hF1
           replace hsl43 := hsl43.mono hF1
           replace hn17 := hn17.mono hF1
           replace hn18 := hn18.mono hF1
           have g161 : (e1 161) = .tuple #[.bool (canB r (insR (othTo (chosenL r b0) b1 (chosenL r b0).length) [] (x % r.reqs.length))), .int .i64 0] := hj 4 (by kernel_rfl) (by decide)
           refine ⟨_, _, _, _, _, rfl, ?_⟩
           refine x_quiet (q_move (lk_eq g161)).quiet ⟨_, rfl, Heap.le_refl _, rfl⟩
          ·
           intro e1 F1 hF1 he hj
           replace hr := hr.mono hF1
           replace hl := hl.mono hF1
           replace hq := hq.mono hF1
           replace hsl43 := hsl43.mono hF1
           replace hn17 := hn17.mono hF1
           replace hn18 := hn18.mono hF1
           have g156 : (e1 156) = .tuple #[.bool (canB r (insR (othTo (chosenL r b0) b1 (chosenL r b0).length) [] (x % r.reqs.length))), .int .i64 0] := hj 5 (by kernel_rfl) (by decide)
           refine ⟨_, _, _, _, _, rfl, ?_⟩
           refine x_quiet (q_extract (lk_eq g156) rfl).quiet ⟨_, rfl, Heap.le_refl _, rfl⟩
          ·
           intro e1 F1 hF1 he hj
           replace hr := hr.mono hF1
           replace hl := hl.mono hF1
           replace hq := hq.mono hF1
           replace hsl43 := hsl43.mono hF1
           replace hn17 := hn17.mono hF1
           replace hn18 := hn18.mono hF1
           have g156 : (e1 156) = .tuple #[.bool (canB r (insR (othTo (chosenL r b0) b1 (chosenL r b0).length) [] (x % r.reqs.length))), .int .i64 0] := hj 5 (by kernel_rfl) (by decide)
           refine ⟨_, _, _, _, _, rfl, ?_⟩
           refine x_quiet (q_extract (lk_eq g156) rfl).quiet ⟨_, rfl, Heap.le_refl _, rfl⟩
          ·
           intro e1 F1 hF1 he hj
           replace hr := hr.mono hF1
           replace hl := hl.mono hF1
           replace hq := hq.mono hF1
           replace hsl43 := hsl43.mono hF1
           replace hn17 := hn17.mono hF1
           replace hn18 := hn18.mono hF1
           have g157 : (e1 157) = .agg #[vb, vr, vs, vq] := hj 0 (by kernel_rfl) (by decide)
           have g158 : (e1 158) = w18 := hj 1 (by kernel_rfl) (by decide)
           have g159 : (e1 159) = .int .i64 (((x % r.reqs.length) : Nat) : Int) := hj 2 (by kernel_rfl) (by decide)
           have g160 : Nats F1 (e1 160) (insR (othTo (chosenL r b0) b1 (chosenL r b0).length) [] (x % r.reqs.length)) := hj 3 (by kernel_rfl) (by decide)
           have g161 : (e1 161) = .tuple #[.bool (canB r (insR (othTo (chosenL r b0) b1 (chosenL r b0).length) [] (x % r.reqs.length))), .int .i64 0] := hj 4 (by kernel_rfl) (by decide)
           have g156 : (e1 156) = .tuple #[.bool (canB r (insR (othTo (chosenL r b0) b1 (chosenL r b0).length) [] (x % r.reqs.length))), .int .i64 0] := hj 5 (by kernel_rfl) (by decide)
           have g162 : (e1 162) = .bool (canB r (insR (othTo (chosenL r b0) b1 (chosenL r b0).length) [] (x % r.reqs.length))) := hj 6 (by kernel_rfl) (by decide)
           refine ⟨_, _, _, _, _, rfl, ?_⟩
           refine x_quiet (q_assign (lk_eq g162)).quiet ⟨_, rfl, Heap.le_refl _, rfl⟩
          ·
           intro e1 F1 hF1 he hj
           replace hr := hr.mono hF1
           replace hl := hl.mono hF1
           replace hq := hq.mono hF1
           replace hsl43 := hsl43.mono hF1
           replace hn17 := hn17.mono hF1
           replace hn18 := hn18.mono hF1
           have g157 : (e1 157) = .agg #[vb, vr, vs, vq] := hj 0 (by kernel_rfl) (by decide)
           have g158 : (e1 158) = w18 := hj 1 (by kernel_rfl) (by decide)
           have g159 : (e1 159) = .int .i64 (((x % r.reqs.length) : Nat) : Int) := hj 2 (by kernel_rfl) (by decide)
           have g160 : Nats F1 (e1 160) (insR (othTo (chosenL r b0) b1 (chosenL r b0).length) [] (x % r.reqs.length)) := hj 3 (by kernel_rfl) (by decide)
           have g161 : (e1 161) = .tuple #[.bool (canB r (insR (othTo (chosenL r b0) b1 (chosenL r b0).length) [] (x % r.reqs.length))), .int .i64 0] := hj 4 (by kernel_rfl) (by decide)
           have g156 : (e1 156) = .tuple #[.bool (canB r (insR (othTo (chosenL r b0) b1 (chosenL r b0).length) [] (x % r.reqs.length))), .int .i64 0] := hj 5 (by kernel_rfl) (by decide)
           have g162 : (e1 162) = .bool (canB r (insR (othTo (chosenL r b0) b1 (chosenL r b0).length) [] (x % r.reqs.length))) := hj 6 (by kernel_rfl) (by decide)
           have g163 : (e1 163) = .int .i64 0 := hj 7 (by kernel_rfl) (by decide)
           have g23 : (e1 23) = .bool (canB r (insR (othTo (chosenL r b0) b1 (chosenL r b0).length) [] (x % r.reqs.length))) := hj 8 (by kernel_rfl) (by decide)
           refine ⟨_, _, _, _, _, rfl, ?_⟩
           refine x_quiet (q_assign (lk_eq g163)).quiet ⟨_, rfl, Heap.le_refl _, rfl⟩
         intro e74 F71 hF72 he73 hj
         replace hr := hr.mono hF72
         replace hle0 := Heap.le_trans hle0 hF72
         replace hl := hl.mono hF72
         replace hq := hq.mono hF72
         replace hsl43 := hsl43.mono hF72
         replace hn17 := hn17.mono hF72
         replace hn18 := hn18.mono hF72
         have g157 : (e74 157) = .agg #[vb, vr, vs, vq] := hj 0 (by decide)
         have g158 : (e74 158) = w18 := hj 1 (by decide)
         have g159 : (e74 159) = .int .i64 (((x % r.reqs.length) : Nat) : Int) := hj 2 (by decide)
         have g160 : Nats F71 (e74 160) (insR (othTo (chosenL r b0) b1 (chosenL r b0).length) [] (x % r.reqs.length)) := hj 3 (by decide)
         have g161 : (e74 161) = .tuple #[.bool (canB r (insR (othTo (chosenL r b0) b1 (chosenL r b0).length) [] (x % r.reqs.length))), .int .i64 0] := hj 4 (by decide)
         have g156 : (e74 156) = .tuple #[.bool (canB r (insR (othTo (chosenL r b0) b1 (chosenL r b0).length) [] (x % r.reqs.length))), .int .i64 0] := hj 5 (by decide)
         have g162 : (e74 162) = .bool (canB r (insR (othTo (chosenL r b0) b1 (chosenL r b0).length) [] (x % r.reqs.length))) := hj 6 (by decide)
         have g163 : (e74 163) = .int .i64 0 := hj 7 (by decide)
         have g23 : (e74 23) = .bool (canB r (insR (othTo (chosenL r b0) b1 (chosenL r b0).length) [] (x % r.reqs.length))) := hj 8 (by decide)
         have g24 : (e74 24) = .int .i64 0 := hj 9 (by decide)
         refine then_n ?_
         refine WC_seq ?_
         refine WC_reg fun ds => ?_
         refine WL_q rfl (q_move (lk_old (he_of he73 (by kernel_rfl)) <| lk_old (he_of he69 (by kernel_rfl)) <| lk4 rfl <| lk_off rfl <| lk16 rfl <| lk4 rfl <| lk2 rfl <| lk0)) ?_
         refine WL_q rfl (q_move (lk0)) ?_
         refine WL_want rfl rfl (lk0) rfl ?_
         refine WL_q rfl (q_move (lk2 rfl <| lk_old (he_of he73 (by kernel_rfl)) <| lk_old (he_of he69 (by kernel_rfl)) <| lk4 rfl <| lk_off rfl <| lk8 rfl <| lk4 rfl <| lk1 rfl <| lk0)) ?_
         refine WL_q rfl (q_pick_true (lk1 rfl <| lk0) rfl (lk0)) ?_
         refine WL_q rfl (q_move (lk0)) ?_
         refine WL_want rfl rfl (lk0) rfl ?_
         refine WL_q rfl (q_move (lk4 rfl <| lk1 rfl <| lk_old (he_of he73 (by kernel_rfl)) <| lk_old (he_of he69 (by kernel_rfl)) <| lk4 rfl <| lk_in rfl hs17)) ?_
         refine WL_want rfl rfl (lk1 rfl <| lk0) rfl ?_
         refine WL_q rfl (q_lenP sl_29 (lk0) hn17.plain) ?_
         refine WL_want rfl rfl (lk2 rfl <| lk0) rfl ?_
         refine WL_q rfl (q_move (lk4 rfl <| lk2 rfl <| lk1 rfl <| lk_old (he_of he73 (by kernel_rfl)) <| lk_old (he_of he69 (by kernel_rfl)) <| lk4 rfl <| lk_off rfl <| lk32 rfl <| lk1 rfl <| lk0)) ?_
         refine WL_want rfl rfl (lk2 rfl <| lk1 rfl <| lk0) rfl ?_
         refine WL_q rfl (q_lenP sl_29 (lk0) hq.plain) ?_
         refine WL_want rfl rfl (lk4 rfl <| lk0) rfl ?_
         refine WL_q rfl (q_add (lk2 rfl <| lk0) (lk0) rfl (by omega) (by omega)) ?_
         refine WL_want rfl rfl (lk4 rfl <| lk1 rfl <| lk0) rfl ?_
         refine WL_q rfl (q_move (lk8 rfl <| lk2 rfl <| lk_old (he_of he73 (by kernel_rfl)) <| lk_old (he_of he69 (by kernel_rfl)) <| lk4 rfl <| lk_off rfl <| lk32 rfl <| lk8 rfl <| lk2 rfl <| lk0)) ?_
         refine WL_want rfl rfl (lk4 rfl <| lk2 rfl <| lk0) rfl ?_
         refine WL_q rfl (q_lenP sl_29 (lk0) hl.plain) ?_
         refine WL_want rfl rfl (lk4 rfl <| lk2 rfl <| lk1 rfl <| lk0) rfl ?_
         refine WL_q rfl (q_eql (lk2 rfl <| lk0) (lk0)) ?_
         refine WL_q rfl (q_pick_true (lk8 rfl <| lk0) rfl (lk0)) ?_
         refine WL_q rfl (q_move (lk0)) ?_
         refine WL_want rfl rfl (lk0) (decide_eq_true (by have := wo_len (l := (chosenL r b0)) (y := keptP r (chosenL r b0) (x % r.reqs.length)); omega)) ?_
         refine WL_q rfl (q_move (lk8 rfl <| lk4 rfl <| lk2 rfl <| lk1 rfl <| lk_old (he_of he73 (by kernel_rfl)) <| lk_eq g22)) ?_
         refine WL_want rfl rfl (lk1 rfl <| lk0) (decide_eq_true (by have := wo_len (l := (chosenL r b0)) (y := keptP r (chosenL r b0) (x % r.reqs.length)); omega)) ?_
         refine WL_q rfl (q_eql (lk0) lk_const) ?_
         refine WL_q rfl (q_pick_true (lk2 rfl <| lk0) (decide_eq_true (by have := wo_len (l := (chosenL r b0)) (y := keptP r (chosenL r b0) (x % r.reqs.length)); omega)) (lk0)) ?_
         refine WL_q rfl (q_move (lk0)) ?_
         refine WL_want rfl rfl (lk0) rfl ?_
         refine WL_q rfl (q_move (lk16 rfl <| lk2 rfl <| lk1 rfl <| lk_eq g24)) ?_
         refine WL_want rfl rfl (lk1 rfl <| lk0) rfl ?_
         refine WL_q rfl (q_eql (lk0) lk_const) ?_
         refine WL_q rfl (q_pick_true (lk2 rfl <| lk0) rfl (lk0)) ?_
         refine WL_q rfl (q_move (lk0)) ?_
         refine WL_want rfl rfl (lk0) rfl ?_
         refine WL_q rfl (q_move (lk16 rfl <| lk4 rfl <| lk2 rfl <| lk1 rfl <| lk_old (he_of he73 (by kernel_rfl)) <| lk_eq g21)) ?_
         refine WL_q rfl (q_pick_true (lk1 rfl <| lk0) rfl (lk0)) ?_
         refine WL_q rfl (q_move (lk0)) ?_
         refine WL_want rfl rfl (lk0) rfl ?_
         refine WL_q rfl (q_move (lk16 rfl <| lk8 rfl <| lk2 rfl <| lk_eq g23)) ?_
         refine WL_want rfl rfl (lk1 rfl <| lk0) rfl ?_
         refine WL_q rfl (q_not (lk0)) ?_
         refine WL_want rfl rfl (lk2 rfl <| lk0) rfl ?_
         refine WL_q rfl (q_move (lk0)) ?_
         cases hco : canB r (insR (othTo (chosenL r b0) b1 (chosenL r b0).length) [] (x % r.reqs.length))
         ·
          refine WL_pass rfl rfl (lk0) (.inl (congrArg Value.bool (by first | rfl | (rw [hco]; rfl)))) rfl ?_
          refine WL_pass rfl rfl (lk1 rfl <| lk0) (.inl (congrArg Value.bool (by first | rfl | (rw [hco]; rfl)))) rfl ?_
          refine WL_pass rfl rfl (lk2 rfl <| lk0) (.inl (congrArg Value.bool (by first | rfl | (rw [hco]; rfl)))) rfl ?_
          refine WL_pass rfl rfl (lk2 rfl <| lk1 rfl <| lk0) (.inl (congrArg Value.bool (by first | rfl | (rw [hco]; rfl)))) rfl ?_
          refine WL_want rfl rfl (lk4 rfl <| lk2 rfl <| lk1 rfl <| lk0) rfl ?_
          refine WL_q rfl (q_pick_true (lk4 rfl <| lk0) (by first | rfl | (rw [hco]; rfl)) lk_const) ?_
          refine WL_q rfl (q_pick_true (lk8 rfl <| lk0) rfl (lk0)) ?_
          refine WL_q rfl (q_move (lk0)) ?_
          refine WL_want rfl rfl (lk0) rfl ?_
          refine WL_c rfl (q_call bd_21 lk_func .nil awake_ok (fun _ _ h => h)) ?_
          refine WL_q rfl (q_pick_true (lk1 rfl <| lk0) rfl (lk0)) ?_
          refine WL_q rfl (q_assign (lk0)) ?_
          refine WL_nil ?_
          refine then_n ?_
          refine WC_ret ?_
          refine post_ret rfl (.tmp (lk0) .nil) ?_
          rfl
         ·
          refine WL_want rfl rfl (lk0) (by first | rfl | (rw [hco]; rfl)) ?_
          refine WL_q rfl (q_move (lk16 rfl <| lk8 rfl <| lk4 rfl <| lk1 rfl <| lk_old (he_of he73 (by kernel_rfl)) <| lk_old (he_of he69 (by kernel_rfl)) <| lk4 rfl <| lk_in rfl hs19)) ?_
          refine WL_want rfl rfl (lk1 rfl <| lk0) (by first | rfl | (rw [hco]; rfl)) ?_
          refine WL_q rfl (q_move (lk16 rfl <| lk8 rfl <| lk4 rfl <| lk2 rfl <| lk_old (he_of he73 (by kernel_rfl)) <| lk_old (he_of he69 (by kernel_rfl)) <| lk4 rfl <| lk_off rfl <| lk32 rfl <| lk1 rfl <| lk0)) ?_
          refine WL_want rfl rfl (lk2 rfl <| lk0) (by first | rfl | (rw [hco]; rfl)) ?_
          refine WL_q rfl (q_lenP sl_29 (lk0) hq.plain) ?_
          refine WL_want rfl rfl (lk2 rfl <| lk1 rfl <| lk0) (by first | rfl | (rw [hco]; rfl)) ?_
          refine WL_q rfl (q_geq (lk2 rfl <| lk0) (lk0)) ?_
          refine WL_want rfl rfl (lk4 rfl <| lk2 rfl <| lk1 rfl <| lk0) rfl ?_
          refine WL_q rfl (q_pick_false (lk4 rfl <| lk0) (by first | rfl | (rw [hco]; rfl)) (lk0)) ?_
          refine WL_q rfl (q_pick_true (lk8 rfl <| lk0) rfl (lk0)) ?_
          refine WL_q rfl (q_move (lk0)) ?_
          refine WL_want rfl rfl (lk0) (decide_eq_true (by have := hG.less hco; omega)) ?_
          refine WL_c rfl (q_call bd_21 lk_func .nil awake_ok (fun _ _ h => h)) ?_
          refine WL_q rfl (q_pick_true (lk1 rfl <| lk0) (decide_eq_true (by have := hG.less hco; omega)) (lk0)) ?_
          refine WL_q rfl (q_assign (lk0)) ?_
          refine WL_nil ?_
          refine then_n ?_
          refine WC_ret ?_
          refine post_ret rfl (.tmp (lk0) .nil) ?_
          rfl
  ·
   refine WC_seq ?_
   refine WC_reg fun ds => ?_
   refine WL_x rfl (x_box (lk_entry rfl) rfl fun b75 hb75 nb75 => ?_)
   refine WL_x rfl (x_box (lk1 rfl <| lk_entry rfl) rfl fun b76 hb76 nb76 => ?_)
   refine WL_q rfl (q_assign lk_const) ?_
   refine WL_nil ?_
   refine then_n ?_
   refine WC_seq ?_
   refine WC_seq ?_
   refine WC_reg fun ds => ?_
   refine WL_q rfl (q_loadN agg_27 (lk2 rfl <| lk0) rfl rfl (own_whole 1 rfl)) ?_
   refine WL_c rfl (q_call bd_37 lk_func (.cons (lk0) .nil) (valid_ok hr) (fun _ _ h => h)) ?_
   refine WL_q rfl (q_not (lk0)) ?_
   refine WL_q rfl (q_move (lk0)) ?_
   refine WL_pass rfl rfl (lk0) (.inl (congrArg Value.bool (by simp [h0]))) rfl ?_
   refine WL_pass rfl rfl (lk1 rfl <| lk0) (.inl (congrArg Value.bool (by simp [h0]))) rfl ?_
   refine WL_pass rfl rfl (lk2 rfl <| lk0) (.inl (congrArg Value.bool (by simp [h0]))) rfl ?_
   refine WL_pass rfl rfl (lk2 rfl <| lk1 rfl <| lk0) (.inl (congrArg Value.bool (by simp [h0]))) rfl ?_
   refine WL_q rfl (q_pick_true (lk4 rfl <| lk0) (by simp [h0]) lk_const) ?_
   refine WL_nil ?_
   refine then_n ?_
   refine WC_if_true (lk0) rfl ?_
   refine WC_seq ?_
   refine WC_reg fun ds => ?_
   refine WL_q rfl (q_loadN agg_27 (lk8 rfl <| lk2 rfl <| lk1 rfl <| lk0) rfl rfl (own_whole 1 rfl)) ?_
   refine WL_x rfl (x_call bd_32 lk_func (.cons (lk0) (.cons lk_const (.cons lk_const .nil))) (gives_top_ok hr (v := .slice none 0 0) (xs := []) Sl.nil 0) fun v77 F78 hr79 hF80 => ?_)
   replace hr := hr.mono hF80
   replace hle0 := Heap.le_trans hle0 hF80
   obtain ⟨w0_, rfl, hg0⟩ := hr79
   refine WL_q rfl (q_move (lk0)) ?_
   refine WL_q rfl (q_extract (lk0) rfl) ?_
   refine WL_q rfl (q_extract (lk1 rfl <| lk0) rfl) ?_
   refine WL_q rfl (q_assign (lk1 rfl <| lk0)) ?_
   refine WL_q rfl (q_assign (lk1 rfl <| lk0)) ?_
   refine WL_nil ?_
   refine then_n ?_
   refine WC_seq ?_
   refine WC_reg fun ds => ?_
   refine WL_q rfl (q_move (lk0)) ?_
   refine WL_q rfl (q_neq (lk0) lk_const) ?_
   refine WL_q rfl (q_move (lk0)) ?_
   refine WL_want rfl rfl (lk0) (decide_eq_true (gives_none (.inl h0))) ?_
   refine WL_c rfl (q_call bd_21 lk_func .nil awake_ok (fun _ _ h => h)) ?_
   refine WL_q rfl (q_pick_true (lk1 rfl <| lk0) (decide_eq_true (gives_none (.inl h0))) (lk0)) ?_
   refine WL_q rfl (q_assign (lk0)) ?_
   refine WL_nil ?_
   refine then_n ?_
   refine WC_ret ?_
   refine then_r ?_
   refine post_ret rfl (.tmp (lk0) .nil) ?_
   rfl
end Go.Proofs.Ytbcjfkcpfjccdaa
namespace Go.Proofs.Ytbcjfkcpfjccdaa
open Go.ChangeShapes Go.WideShapes Go.ChangeAt Go.RowKit
set_option maxRecDepth 100000 in
theorem readerGivesLifted (os : Os) (started : os.Started) (H : Type) (enc : TypeId × Value → H) :
    ReturnsInHanded {} Try.checked os 11 .any (Rows.readerGivesSpec.pre6 enc Try.prog Try.f11 Rows.readerGivesRow.domain false) (Rows.readerGivesSpec.post enc Try.prog Try.f11 false true false false) := by
  refine returnsInHanded_of_change_sized (C := Try.checked) ownKnob0 started (by kernel_rfl) Try.func11
    (ChangeSpec.witness6 (enc := enc) (C := Try.checked) false ⟨#[], #[.agg #[.slice none 0 0, .slice none 0 0, .slice none 0 0, .slice none 0 0], .agg #[.int .u8 0, .int .u8 0], .int .u8 0], []⟩ 8 (by kernel_rfl) (by kernel_rfl) (by kernel_rfl) (by kernel_rfl)) ?_
  intro W base args ds gs before hval0 hW hcnd hsz _
  have hval : ∀ (j : Nat) t v, Try.f11.params[j]? = some t → args[j]? = some v → Value.okWide Try.prog W .any base t v := hval0
  have hW' := hW
  obtain ⟨p, q, hA0, hV, rfl, hfz, hnd⟩ := hW
  have hA : DataW.TrodAll enc Try.prog W 0 (fun _ => true) true Try.f11.params.toList args.toList ds p := hA0
  rw [Try.params11] at hA hval
  obtain ⟨v0, vs0, d0, ds0, p0, q0, hargs, rfl, rfl, h0, r0⟩ := trodAll_cons hA
  obtain ⟨v1, vs1, d1, ds1, p1, q1, rfl, rfl, rfl, h1, r1⟩ := trodAll_cons r0
  obtain ⟨v2, vs2, d2, ds2, p2, q2, rfl, rfl, rfl, h2, r2⟩ := trodAll_cons r1
  obtain ⟨rfl, rfl, rfl⟩ := trodAll_nil r2
  obtain rfl : args = #[v0, v1, v2] := by cases args; simp_all
  obtain ⟨rfl, rfl⟩ := trodVars_none hV
  have hsz' : (DataW.weightsEach Try.prog (Try.f11.params.toList ++ []) ([d0, d1, d2] ++ [])).all (· ≤ reachBytes) = true := hsz
  rw [Try.params11] at hsz'
  have k0 := h0
  have lt0 : ∀ x ∈ p0, x.block < W.heap.size := by obtain ⟨m, hm⟩ := k0; exact DataW.trod_lt m _ _ _ hm
  have k1 := h1
  have lt1 : ∀ x ∈ p1, x.block < W.heap.size := by obtain ⟨m, hm⟩ := k1; exact DataW.trod_lt m _ _ _ hm
  have k2 := h2
  have lt2 : ∀ x ∈ p2, x.block < W.heap.size := by obtain ⟨m, hm⟩ := k2; exact DataW.trod_lt m _ _ _ hm
  obtain ⟨vb, vr, vs, vq, r, rfl, hr, hrw⟩ := arg_room (hval 0 27 v0 rfl rfl) h0 (weights_at hsz' (j := 0) rfl rfl)
  obtain ⟨b0, b1, rfl, hb0, hb1⟩ := arg_bits (hval 1 77 v1 rfl rfl) h1 (weights_at hsz' (j := 1) rfl rfl)
  obtain ⟨x, rfl, hx8⟩ := arg_u8 (hval 2 5 v2 rfl rfl) h2 (weights_at hsz' (j := 2) rfl rfl)
  clear hA0 hval0
  refine (Ok.law (givesLaw_ok hr hx8)).mono fun e W' ⟨he, bel⟩ => ?_
  subst he
  exact ⟨_, rfl, _, _, _, [], _, [], hW', trodAll_mk1 (shut_bool Try.underlying4 _), (trodAll_cons_mk (Below.trod laidOut (by kernel_rfl) (of_decide_eq_true (by kernel_rfl)) k0 bel lt0) (trodAll_cons_mk (Below.trod laidOut (by kernel_rfl) (of_decide_eq_true (by kernel_rfl)) k1 bel lt1) (trodAll_cons_mk (Below.trod laidOut (by kernel_rfl) (of_decide_eq_true (by kernel_rfl)) k2 bel lt2) trodAll_mk0))), rfl, bel.frame _, fun h => by cases h⟩
theorem readerGives : Rows.ReaderGivesSaid :=
  OpenClaim.holds_of_wide 11 Try.f11 rfl rfl rfl rfl rfl rfl rfl ⟨rfl, rfl, rfl, rfl, rfl⟩ rfl rfl rfl rfl rfl (by kernel_rfl) Try.func11 (by kernel_rfl)
    (of_decide_eq_true (by kernel_rfl)) (by unfold Func.isWrapper; first | (rw [if_pos (by decide +kernel)]; kernel_rfl) | (rw [if_neg (by decide +kernel)]; exact ⟨rfl, rfl⟩))
    (fun os started H enc _ => readerGivesLifted os started H enc)
#print axioms readerGives
end Go.Proofs.Ytbcjfkcpfjccdaa
