/-
  A part of a proof: ReaderFewer returns true of any room, bits and numbers, and leaves what it is handed as it was. No conditions.
-/
import Derived.Test.YtbcjfkcpfjccdaaPad
import Derived.KernelRfl
namespace Go.Proofs.Ytbcjfkcpfjccdaa
open Go.RowKit
theorem bd_72 : Body Try.prog 72 := body_of (by kernel_rfl)
theorem bd_73 : Body Try.prog 73 := body_of (by kernel_rfl)
theorem bd_75 : Body Try.prog 75 := body_of (by kernel_rfl)
set_option maxRecDepth 100000 in
theorem gives1_ok {F : Heap} {v : Value} {l : List Nat} (hl : Nats F v l) : Ok Try.prog 72 [v].toArray F fun r _ => r = .int .i64 (lenN l) := by
  refine Ok.intro Try.func72 rfl Try.ntmps72 rfl fun w0 => ?_
  refine WC_seq ?_
  refine WC_reg fun ds => ?_
  refine WL_q rfl (q_assign lk_const) ?_
  refine WL_nil ?_
  refine then_n ?_
  refine WC_seq ?_
  refine WC_reg fun ds => ?_
  refine WL_q rfl (q_move (lk1 rfl <| lk_entry rfl)) ?_
  refine WL_q rfl (q_lenP sl_29 (lk0) hl.plain) ?_
  refine WL_q rfl (q_assign (lk0)) ?_
  refine WL_nil ?_
  refine then_n ?_
  refine WC_ret ?_
  refine post_ret rfl (.tmp (lk0) .nil) ?_
  rfl
set_option maxRecDepth 100000 in
theorem gives2_ok {F : Heap} {v u w : Value} {xs ys l : List Nat} (hx : Nats F v xs) (hy : Nats F u ys) {d T : Nat} (hd : F d = some (bx T [w])) (hl : Nats F w l) (hn : l.length ≤ 1000) : Ok Try.prog 73 [v, u, .pointer (some ⟨d, 0, none⟩)].toArray F fun r _ => r = .int .i64 (cmpL (wo l xs) (wo l ys)) := by
  refine Ok.intro Try.func73 rfl Try.ntmps73 rfl fun w0 => ?_
  refine WC_seq ?_
  refine WC_reg fun ds => ?_
  refine WL_q rfl (q_assign lk_const) ?_
  refine WL_nil ?_
  refine then_n ?_
  refine WC_seq ?_
  refine WC_drawS (.inl rfl) (fun _ _ h => h) (.refl _) [2, 5, 6, 7] (by kernel_rfl) fun ds => ?_
  refine WX_take 0 rfl (by kernel_rfl) (by kernel_rfl) (by kernel_rfl) (by kernel_rfl) rfl rfl (fun _ h => h.drop (.refl _)) (fun _ _ _ h => h) (q_load1 one_29 (lk1 rfl <| lk_entry rfl) (CellF.own hd rfl).cell) ?_
  refine WX_take 1 rfl (by kernel_rfl) (by kernel_rfl) (by kernel_rfl) (by kernel_rfl) rfl rfl (fun _ h => h.drop (.refl _)) (fun _ _ _ h => h) (q_move (lk2 rfl <| lk_entry rfl)) ?_
  refine WX_pick [2, 3, 4] (by kernel_rfl) (by decide) (in3 ?_ ?_ ?_)
  ·
   refine WXop_x rfl rfl (x_call bd_75 lk_func (.cons (lk1 rfl <| lk0) (.cons (lk0) .nil)) (without_ok hl hx hn) fun v1 F2 hr3 hF4 => ⟨(fun h => nomatch h), ?_⟩)
   replace hx := hx.mono hF4
   replace hy := hy.mono hF4
   replace hl := hl.mono hF4
   replace hd := hF4 _ _ hd
   have ha := hr3
   refine WX_pick [3, 4] (by kernel_rfl) (by decide) (in2 ?_ ?_)
   ·
    refine WXop_x rfl rfl (x_quiet (q_load1 one_29 (lk4 rfl <| lk_entry rfl) (CellF.own hd rfl).cell).quiet ⟨(fun _ => late (by kernel_rfl)), ?_⟩)
    refine WX_x 4 rfl (by kernel_rfl) rfl (x_quiet (q_move (lk4 rfl <| lk1 rfl <| lk_entry rfl)).quiet ⟨(fun _ => late (by kernel_rfl)), ?_⟩)
    refine WX_x 5 rfl (by kernel_rfl) rfl (x_call bd_75 lk_func (.cons (lk1 rfl <| lk0) (.cons (lk0) .nil)) (without_ok hl hy hn) fun v5 F6 hr7 hF8 => ⟨(fun h => nomatch h), ?_⟩)
    replace hx := hx.mono hF8
    replace hy := hy.mono hF8
    replace hl := hl.mono hF8
    replace ha := ha.mono hF8
    replace hd := hF8 _ _ hd
    have hb := hr7
    refine WX_x 6 rfl (by kernel_rfl) rfl (x_quiet (q_call bd_74 lk_func (.cons (lk2 rfl <| lk1 rfl <| lk0) (.cons (lk0) .nil)) (compare_ok ha hb) (fun _ _ h => h)) ⟨(fun h => nomatch h), ?_⟩)
    refine WX_x 7 rfl (by kernel_rfl) rfl (x_quiet (q_assign (lk0)).quiet ⟨(fun h => nomatch h), ?_⟩)
    refine WX_done (by kernel_rfl) ?_ _
    refine then_n ?_
    refine WC_ret ?_
    refine post_ret rfl (.tmp (lk0) .nil) ?_
    rfl
   ·
    refine WXop_x rfl rfl (x_quiet (q_move (lk4 rfl <| lk_entry rfl)).quiet ⟨(fun _ => late (by kernel_rfl)), ?_⟩)
    refine WX_x 3 rfl (by kernel_rfl) rfl (x_quiet (q_load1 one_29 (lk4 rfl <| lk1 rfl <| lk_entry rfl) (CellF.own hd rfl).cell).quiet ⟨(fun _ => late (by kernel_rfl)), ?_⟩)
    refine WX_x 5 rfl (by kernel_rfl) rfl (x_call bd_75 lk_func (.cons (lk0) (.cons (lk1 rfl <| lk0) .nil)) (without_ok hl hy hn) fun v9 F10 hr11 hF12 => ⟨(fun h => nomatch h), ?_⟩)
    replace hx := hx.mono hF12
    replace hy := hy.mono hF12
    replace hl := hl.mono hF12
    replace ha := ha.mono hF12
    replace hd := hF12 _ _ hd
    have hb := hr11
    refine WX_x 6 rfl (by kernel_rfl) rfl (x_quiet (q_call bd_74 lk_func (.cons (lk2 rfl <| lk1 rfl <| lk0) (.cons (lk0) .nil)) (compare_ok ha hb) (fun _ _ h => h)) ⟨(fun h => nomatch h), ?_⟩)
    refine WX_x 7 rfl (by kernel_rfl) rfl (x_quiet (q_assign (lk0)).quiet ⟨(fun h => nomatch h), ?_⟩)
    refine WX_done (by kernel_rfl) ?_ _
    refine then_n ?_
    refine WC_ret ?_
    refine post_ret rfl (.tmp (lk0) .nil) ?_
    rfl
  ·
   refine WXop_x rfl rfl (x_quiet (q_load1 one_29 (lk2 rfl <| lk1 rfl <| lk_entry rfl) (CellF.own hd rfl).cell).quiet ⟨fun _ _ => (fun _ h => h.drop (.refl _)), ?_⟩)
   refine WX_pick [2, 4] (by kernel_rfl) (by decide) (in2 ?_ ?_)
   ·
    refine WXop_x rfl rfl (x_call bd_75 lk_func (.cons (lk2 rfl <| lk0) (.cons (lk1 rfl <| lk0) .nil)) (without_ok hl hx hn) fun v13 F14 hr15 hF16 => ⟨(fun h => nomatch h), ?_⟩)
    replace hx := hx.mono hF16
    replace hy := hy.mono hF16
    replace hl := hl.mono hF16
    replace hd := hF16 _ _ hd
    have ha := hr15
    refine WX_x 4 rfl (by kernel_rfl) rfl (x_quiet (q_move (lk4 rfl <| lk1 rfl <| lk_entry rfl)).quiet ⟨(fun _ => late (by kernel_rfl)), ?_⟩)
    refine WX_x 5 rfl (by kernel_rfl) rfl (x_call bd_75 lk_func (.cons (lk2 rfl <| lk0) (.cons (lk0) .nil)) (without_ok hl hy hn) fun v17 F18 hr19 hF20 => ⟨(fun h => nomatch h), ?_⟩)
    replace hx := hx.mono hF20
    replace hy := hy.mono hF20
    replace hl := hl.mono hF20
    replace ha := ha.mono hF20
    replace hd := hF20 _ _ hd
    have hb := hr19
    refine WX_x 6 rfl (by kernel_rfl) rfl (x_quiet (q_call bd_74 lk_func (.cons (lk2 rfl <| lk0) (.cons (lk0) .nil)) (compare_ok ha hb) (fun _ _ h => h)) ⟨(fun h => nomatch h), ?_⟩)
    refine WX_x 7 rfl (by kernel_rfl) rfl (x_quiet (q_assign (lk0)).quiet ⟨(fun h => nomatch h), ?_⟩)
    refine WX_done (by kernel_rfl) ?_ _
    refine then_n ?_
    refine WC_ret ?_
    refine post_ret rfl (.tmp (lk0) .nil) ?_
    rfl
   ·
    refine WXop_x rfl rfl (x_quiet (q_move (lk4 rfl <| lk_entry rfl)).quiet ⟨fun _ _ => (fun _ h => h.drop (.refl _)), ?_⟩)
    refine WX_x 2 rfl (by kernel_rfl) rfl (x_call bd_75 lk_func (.cons (lk2 rfl <| lk1 rfl <| lk0) (.cons (lk2 rfl <| lk0) .nil)) (without_ok hl hx hn) fun v21 F22 hr23 hF24 => ⟨(fun h => nomatch h), ?_⟩)
    replace hx := hx.mono hF24
    replace hy := hy.mono hF24
    replace hl := hl.mono hF24
    replace hd := hF24 _ _ hd
    have ha := hr23
    refine WX_x 5 rfl (by kernel_rfl) rfl (x_call bd_75 lk_func (.cons (lk2 rfl <| lk0) (.cons (lk1 rfl <| lk0) .nil)) (without_ok hl hy hn) fun v25 F26 hr27 hF28 => ⟨(fun h => nomatch h), ?_⟩)
    replace hx := hx.mono hF28
    replace hy := hy.mono hF28
    replace hl := hl.mono hF28
    replace ha := ha.mono hF28
    replace hd := hF28 _ _ hd
    have hb := hr27
    refine WX_x 6 rfl (by kernel_rfl) rfl (x_quiet (q_call bd_74 lk_func (.cons (lk1 rfl <| lk0) (.cons (lk0) .nil)) (compare_ok ha hb) (fun _ _ h => h)) ⟨(fun h => nomatch h), ?_⟩)
    refine WX_x 7 rfl (by kernel_rfl) rfl (x_quiet (q_assign (lk0)).quiet ⟨(fun h => nomatch h), ?_⟩)
    refine WX_done (by kernel_rfl) ?_ _
    refine then_n ?_
    refine WC_ret ?_
    refine post_ret rfl (.tmp (lk0) .nil) ?_
    rfl
  ·
   refine WXop_x rfl rfl (x_quiet (q_move (lk2 rfl <| lk1 rfl <| lk_entry rfl)).quiet ⟨fun _ _ => (fun _ h => h.drop (.refl _)), ?_⟩)
   refine WX_pick [2, 3] (by kernel_rfl) (by decide) (in2 ?_ ?_)
   ·
    refine WXop_x rfl rfl (x_call bd_75 lk_func (.cons (lk2 rfl <| lk0) (.cons (lk1 rfl <| lk0) .nil)) (without_ok hl hx hn) fun v29 F30 hr31 hF32 => ⟨(fun h => nomatch h), ?_⟩)
    replace hx := hx.mono hF32
    replace hy := hy.mono hF32
    replace hl := hl.mono hF32
    replace hd := hF32 _ _ hd
    have ha := hr31
    refine WX_x 3 rfl (by kernel_rfl) rfl (x_quiet (q_load1 one_29 (lk4 rfl <| lk1 rfl <| lk_entry rfl) (CellF.own hd rfl).cell).quiet ⟨(fun _ => late (by kernel_rfl)), ?_⟩)
    refine WX_x 5 rfl (by kernel_rfl) rfl (x_call bd_75 lk_func (.cons (lk0) (.cons (lk2 rfl <| lk0) .nil)) (without_ok hl hy hn) fun v33 F34 hr35 hF36 => ⟨(fun h => nomatch h), ?_⟩)
    replace hx := hx.mono hF36
    replace hy := hy.mono hF36
    replace hl := hl.mono hF36
    replace ha := ha.mono hF36
    replace hd := hF36 _ _ hd
    have hb := hr35
    refine WX_x 6 rfl (by kernel_rfl) rfl (x_quiet (q_call bd_74 lk_func (.cons (lk2 rfl <| lk0) (.cons (lk0) .nil)) (compare_ok ha hb) (fun _ _ h => h)) ⟨(fun h => nomatch h), ?_⟩)
    refine WX_x 7 rfl (by kernel_rfl) rfl (x_quiet (q_assign (lk0)).quiet ⟨(fun h => nomatch h), ?_⟩)
    refine WX_done (by kernel_rfl) ?_ _
    refine then_n ?_
    refine WC_ret ?_
    refine post_ret rfl (.tmp (lk0) .nil) ?_
    rfl
   ·
    refine WXop_x rfl rfl (x_quiet (q_load1 one_29 (lk4 rfl <| lk_entry rfl) (CellF.own hd rfl).cell).quiet ⟨fun _ _ => (fun _ h => h.drop (.refl _)), ?_⟩)
    refine WX_x 2 rfl (by kernel_rfl) rfl (x_call bd_75 lk_func (.cons (lk2 rfl <| lk1 rfl <| lk0) (.cons (lk2 rfl <| lk0) .nil)) (without_ok hl hx hn) fun v37 F38 hr39 hF40 => ⟨(fun h => nomatch h), ?_⟩)
    replace hx := hx.mono hF40
    replace hy := hy.mono hF40
    replace hl := hl.mono hF40
    replace hd := hF40 _ _ hd
    have ha := hr39
    refine WX_x 5 rfl (by kernel_rfl) rfl (x_call bd_75 lk_func (.cons (lk1 rfl <| lk0) (.cons (lk2 rfl <| lk0) .nil)) (without_ok hl hy hn) fun v41 F42 hr43 hF44 => ⟨(fun h => nomatch h), ?_⟩)
    replace hx := hx.mono hF44
    replace hy := hy.mono hF44
    replace hl := hl.mono hF44
    replace ha := ha.mono hF44
    replace hd := hF44 _ _ hd
    have hb := hr43
    refine WX_x 6 rfl (by kernel_rfl) rfl (x_quiet (q_call bd_74 lk_func (.cons (lk1 rfl <| lk0) (.cons (lk0) .nil)) (compare_ok ha hb) (fun _ _ h => h)) ⟨(fun h => nomatch h), ?_⟩)
    refine WX_x 7 rfl (by kernel_rfl) rfl (x_quiet (q_assign (lk0)).quiet ⟨(fun h => nomatch h), ?_⟩)
    refine WX_done (by kernel_rfl) ?_ _
    refine then_n ?_
    refine WC_ret ?_
    refine post_ret rfl (.tmp (lk0) .nil) ?_
    rfl
set_option maxRecDepth 100000 in
theorem gives_top_ok {F : Heap} {vb vr vs vq : Value} {r : Room} (hr : RoomR F vb vr vs vq r) {v : Value} {xs : List Int} (hx : Ints F v xs) (x : Int) : Ok Try.prog 32 [.agg #[vb, vr, vs, vq], v, .int .i64 x].toArray F fun u F' => ∃ ws, u = .tuple #[ws, .int .i64 (givesE r xs x).2] ∧ Nats F' ws (givesE r xs x).1 := by
  refine Ok.intro Try.func32 rfl Try.ntmps32 rfl fun w0 => ?_
  have hL1 := hr.reqs.plain.lt
  have hL2 := hx.plain.lt
  by_cases h0 : someErr r xs = 0
  ·
   obtain ⟨l, rfl, hlt2, hasc⟩ := idx_of h0
   have hv := someErr_valid h0
   have hl := ints_nats hx
   have hn8 := asc_length hv hlt2 hasc
   have hnb := hv.nb
   refine WC_seq ?_
   refine WC_reg fun ds => ?_
   refine WL_x rfl (x_box (lk_entry rfl) rfl fun b1 hb1 nb1 => ?_)
   refine WL_x rfl (x_box (lk1 rfl <| lk_entry rfl) (cells_one hx.plain.one) fun b2 hb2 nb2 => ?_)
   refine WL_q rfl (q_assign lk_const) ?_
   refine WL_q rfl (q_assign lk_const) ?_
   refine WL_nil ?_
   refine then_n ?_
   refine WC_seq ?_
   refine WC_reg fun ds => ?_
   refine WL_q rfl (q_loadN agg_27 (lk2 rfl <| lk1 rfl <| lk0) rfl rfl (own_whole 1 rfl)) ?_
   refine WL_q rfl (q_load1 one_29 (lk2 rfl <| lk1 rfl <| lk0) (Cell.own 0 rfl rfl)) ?_
   refine WL_x rfl (x_call bd_57 lk_func (.cons (lk1 rfl <| lk0) (.cons (lk0) .nil)) (enter_good hr hx h0) fun v3 F4 hr5 hF6 => ?_)
   replace hr := hr.mono hF6
   replace hx := hx.mono hF6
   replace hl := hl.mono hF6
   obtain ⟨p, rfl, hlk⟩ := hr5
   obtain ⟨b, c1, c8, c3, wb, wr, ws, wq, wl, rfl, hX⟩ := hlk
   refine WL_q rfl (q_move (lk0)) ?_
   refine WL_q rfl (q_extract (lk0) rfl) ?_
   refine WL_q rfl (q_extract (lk1 rfl <| lk0) rfl) ?_
   refine WL_q rfl (q_assign (lk1 rfl <| lk0)) ?_
   refine WL_q rfl (q_assign (lk1 rfl <| lk0)) ?_
   refine WL_nil ?_
   refine then_n ?_
   refine WC_seq ?_
   refine WC_block ?_
   refine WC_seq ?_
   refine WC_reg fun ds => ?_
   refine WL_q rfl (q_move (lk0)) ?_
   refine WL_q rfl (q_neq (lk0) lk_const) ?_
   refine WL_q rfl (q_assign (lk0)) ?_
   refine WL_nil ?_
   refine then_n ?_
   refine WC_if_false (lk0) (by decide) ?_
   have hnq := hv.nq
   by_cases hin : inB 0 (r.reqs.length - 1) x = true
   ·
    obtain ⟨q, rfl, hq⟩ := inB_nat hin
    have hq8 : q < 8 := by omega
    have hpq := pow_lt8 hq8
    refine WC_seq ?_
    refine WC_reg fun ds => ?_
    refine WL_q rfl (q_fieldAddrB fd_27_3 (lk8 rfl <| lk4 rfl <| lk2 rfl <| lk0)) ?_
    refine WL_q rfl (q_load1 one_25 (lk0) (Cell.own 1 rfl rfl)) ?_
    refine WL_q rfl (q_lenP sl_25 (lk0) hr.reqs.plain) ?_
    refine WL_q rfl (q_sub (lk0) lk_const rfl (by omega) (by omega)) ?_
    refine WL_q rfl (q_move (lk16 rfl <| lk2 rfl <| lk1 rfl <| lk_entry rfl)) ?_
    refine WL_x rfl (x_build sl_29 zr_3 rfl (.cons (lk0) .nil) rfl rfl (by decide) (by simp [Value.oneCell']) fun b7 hb7 nb7 => ?_)
    refine WL_freeze (i := 0) rfl hb7 .here fun F8 hF9 hz10 => ?_
    replace hr := hr.mono hF9
    replace hx := hx.mono hF9
    replace hl := hl.mono hF9
    replace hX := hX.mono hF9
    have hsl11 := ints_box1 hz10
    refine WL_c rfl (q_call bd_51 lk_func (.cons lk_const (.cons (lk2 rfl <| lk0) (.cons (lk0) .nil))) (outside_ok _ _ hsl11) (fun _ _ h => h)) ?_
    refine WL_q rfl (q_assign (lk0)) ?_
    refine WL_nil ?_
    refine then_n ?_
    refine WC_if_false (lk0) (by simp [hin]) ?_
    by_cases hqm : q ∈ l
    ·
     refine WC_seq ?_
     refine WC_reg fun ds => ?_
     refine WL_q rfl (q_load1 one_29 (lk16 rfl <| lk4 rfl <| lk1 rfl <| lk0) (Cell.own 0 rfl rfl)) ?_
     refine WL_q rfl (q_move (lk16 rfl <| lk8 rfl <| lk_entry rfl)) ?_
     refine WL_c rfl (q_call bd_69 lk_func (.cons (lk1 rfl <| lk0) (.cons (lk0) .nil)) (contains_nat hl q) (fun _ _ h => h)) ?_
     refine WL_q rfl (q_assign (lk0)) ?_
     refine WL_nil ?_
     refine then_n ?_
     refine WC_if_true (lk0) (decide_eq_true hqm) ?_
     refine WC_seq ?_
     refine WC_reg fun ds => ?_
     refine WL_q rfl (q_assign lk_const) ?_
     refine WL_q rfl (q_assign lk_const) ?_
     refine WL_nil ?_
     refine then_n ?_
     refine WC_ret ?_
     refine block_r (then_r ?_)
     refine post_ret rfl (.tmp (lk1 rfl <| lk0) (.tmp (lk0) .nil)) ?_
     rw [gives_in h0 hin hqm]
     exact ⟨_, rfl, Sl.nil⟩
    ·
     refine WC_seq ?_
     refine WC_reg fun ds => ?_
     refine WL_q rfl (q_load1 one_29 (lk16 rfl <| lk4 rfl <| lk1 rfl <| lk0) (Cell.own 0 rfl rfl)) ?_
     refine WL_q rfl (q_move (lk16 rfl <| lk8 rfl <| lk_entry rfl)) ?_
     refine WL_c rfl (q_call bd_69 lk_func (.cons (lk1 rfl <| lk0) (.cons (lk0) .nil)) (contains_nat hl q) (fun _ _ h => h)) ?_
     refine WL_q rfl (q_assign (lk0)) ?_
     refine WL_nil ?_
     refine then_n ?_
     refine WC_if_false (lk0) (decide_eq_false hqm) ?_
     by_cases hc1 : canB r l = true
     ·
      refine WC_seq ?_
      refine WC_reg fun ds => ?_
      refine WL_q rfl (q_move (lk16 rfl <| lk0)) ?_
      refine WL_q rfl (q_load1 one_29 (lk16 rfl <| lk8 rfl <| lk2 rfl <| lk0) (Cell.own 0 rfl rfl)) ?_
      refine WL_c rfl (q_call bd_60 lk_func (.cons (lk1 rfl <| lk0) (.cons (lk0) .nil)) (can_ok hX hv hl hlt2 hn8) (fun _ _ h => h)) ?_
      refine WL_q rfl (q_not (lk0)) ?_
      refine WL_q rfl (q_move (lk0)) ?_
      skip
      refine WL_want rfl rfl (lk0) (by rw [show (allR r l).isSome = true from hc1]; rfl) ?_
      refine WL_q rfl (q_move (lk16 rfl <| lk4 rfl <| lk1 rfl <| lk0)) ?_
      refine WL_want rfl rfl (lk1 rfl <| lk0) (by rw [show (allR r l).isSome = true from hc1]; rfl) ?_
      refine WL_q rfl (q_move (lk32 rfl <| lk1 rfl <| lk_entry rfl)) ?_
      refine WL_want rfl rfl (lk2 rfl <| lk0) (by rw [show (allR r l).isSome = true from hc1]; rfl) ?_
      refine WL_x rfl (x_build sl_29 zr_3 rfl (.cons (lk0) .nil) rfl rfl (by decide) (by simp [Value.oneCell']) fun b12 hb12 nb12 => ?_)
      refine WL_freeze (i := 0) rfl hb12 .here fun F13 hF14 hz15 => ?_
      replace hr := hr.mono hF14
      replace hx := hx.mono hF14
      replace hl := hl.mono hF14
      replace hX := hX.mono hF14
      replace hsl11 := hsl11.mono hF14
      have hsl16 := natOne1 hz15
      refine WL_want rfl rfl (lk2 rfl <| lk1 rfl <| lk0) (by rw [show (allR r l).isSome = true from hc1]; rfl) ?_
      refine WL_c rfl (q_call bd_60 lk_func (.cons (lk2 rfl <| lk0) (.cons (lk0) .nil)) (can_ok hX hv hsl16 (fun i hi => by simp at hi; omega) (by simp)) (fun _ _ h => h)) ?_
      refine WL_want rfl rfl (lk4 rfl <| lk0) (by rw [show (allR r l).isSome = true from hc1]; rfl) ?_
      refine WL_q rfl (q_not (lk0)) ?_
      refine WL_q rfl (q_pick_false (lk4 rfl <| lk1 rfl <| lk0) (by rw [show (allR r l).isSome = true from hc1]; rfl) (lk0)) ?_
      refine WL_q rfl (q_assign (lk0)) ?_
      refine WL_nil ?_
      refine then_n ?_
      by_cases hc2 : canB r [q] = true
      ·
       refine WC_if_false (lk0) (by rw [show (allR r [q]).isSome = true from hc2]; rfl) ?_
       refine WC_skip ?_
       refine block_n (then_n ?_)
       refine WC_seq ?_
       refine WC_reg fun ds => ?_
       refine WL_q rfl (q_move (lk32 rfl <| lk4 rfl <| lk2 rfl <| lk1 rfl <| lk_entry rfl)) ?_
       refine WL_q rfl (q_shl lk_const (lk0) (k := q) rfl (by omega) (show (1 : Int) * 2 ^ q = ((2 ^ q : Nat) : Int) by simp) (Int.le_trans (by decide) (Int.natCast_nonneg _)) (by omega)) ?_
       refine WL_q rfl (q_assign (lk0)) ?_
       refine WL_nil ?_
       refine then_n ?_
       refine WC_seq ?_
       refine WC_reg fun ds => ?_
       refine WL_q rfl (q_move (lk0)) ?_
       refine WL_q rfl (q_assign (lk0)) ?_
       refine WL_nil ?_
       refine then_n ?_
       refine WC_seq ?_
       refine WC_seq ?_
       refine WC_reg fun ds => ?_
       refine WL_q rfl (q_load1 one_29 (lk32 rfl <| lk8 rfl <| lk2 rfl <| lk0) (Cell.own 0 rfl rfl)) ?_
       refine WL_q rfl (q_lenP sl_29 (lk0) hl.plain) ?_
       refine WL_q rfl (q_move lk_const) ?_
       refine WL_nil ?_
       refine then_n ?_
       refine WC_block ?_
       refine WC_loopN [10, 12, 54, 55, 56, 57, 58, 59, 60, 61, 62] (fun m e σ => ∃ k : Nat, m + k = l.length ∧ e 54 = .int .i64 k ∧ e 10 = .int .i64 ((maskL q (l.take k) : Nat) : Int) ∧ σ = ⟨F13, [(b2, bx 29 [v]), (b1, bx 27 [vb, vr, vs, vq])]⟩) (l.length) ?_ ?_
       · exact ⟨0, by omega, (lk0), (lk2 rfl <| lk1 rfl <| lk0), rfl⟩
       ·
        rintro m e _ ⟨k, hm, hs54, hs10, rfl⟩
        by_cases hlt : k < l.length
        ·
         refine WC_seq ?_
         refine WC_reg fun ds => ?_
         refine WL_q rfl (q_lss (lk_in rfl hs54) (lk_off rfl <| lk1 rfl <| lk0)) ?_
         refine WL_nil ?_
         refine then_n ?_
         refine WC_seq ?_
         refine WC_if_true (lk0) (by first | rfl | exact decide_eq_true (by omega)) ?_
         have hlk := hlt2 _ (List.getElem_mem hlt)
         have hk8 : l[k] < 8 := by omega
         have hpk := pow_lt8 hk8
         have hm8 := maskL_lt hq8 (l := l.take k) (fun i hi => by have := hlt2 i (List.mem_of_mem_take hi); omega)
         refine WC_skip ?_
         refine then_n ?_
         refine WC_seq ?_
         refine WC_block ?_
         refine WC_seq ?_
         refine WC_reg fun ds => ?_
         refine WL_q rfl (q_index  sl_29 (lk1 rfl <| lk_off rfl <| lk2 rfl <| lk0) hl.plain (lk1 rfl <| lk_in rfl hs54) rfl hlt) ?_
         refine WL_q rfl (q_load1 one_3 (lk0) (hl.cell1 hlt rfl)) ?_
         refine WL_q rfl (q_assign (lk0)) ?_
         refine WL_nil ?_
         refine then_n ?_
         refine WC_reg fun ds => ?_
         refine WL_q rfl (q_move (lk4 rfl <| lk_in rfl hs10)) ?_
         refine WL_q rfl (q_move (lk1 rfl <| lk0)) ?_
         refine WL_q rfl (q_shl lk_const (lk0) (k := l[k]) rfl (by omega) (show (1 : Int) * 2 ^ l[k] = ((2 ^ l[k] : Nat) : Int) by simp) (Int.le_trans (by decide) (Int.natCast_nonneg _)) (by omega)) ?_
         refine WL_q rfl (q_or (lk2 rfl <| lk0) (lk0) (m := maskL q (l.take k)) (k := 2 ^ l[k]) rfl (by simp) (by omega) (by omega) rfl) ?_
         refine WL_q rfl (q_assign (lk0)) ?_
         refine WL_nil ?_
         refine block_n (then_n ?_)
         refine WC_reg fun ds => ?_
         refine WL_q rfl (q_add (lk8 rfl <| lk1 rfl <| lk_in rfl hs54) lk_const rfl (by omega) (by omega)) ?_
         refine WL_q rfl (q_move (lk0)) ?_
         refine WL_nil ?_
         refine then_n ⟨_, m - 1, Off.eq (ou8 rfl <| ou2 rfl <| ou1 rfl <| off_over), by omega, ?_⟩
         refine ⟨k + 1, by omega, (lk0), ?_, rfl⟩
         rw [maskL_take hlt]; exact (lk2 rfl <| lk0)
        ·
         refine WC_seq ?_
         refine WC_reg fun ds => ?_
         refine WL_q rfl (q_lss (lk_in rfl hs54) (lk_off rfl <| lk1 rfl <| lk0)) ?_
         refine WL_nil ?_
         refine then_n ?_
         refine WC_seq ?_
         refine WC_if_false (lk0) (by first | rfl | exact decide_eq_false (by omega)) ?_
         have htk : l.take k = l := List.take_of_length_le (by omega)
         rw [htk] at hs10
         have hm8 := maskL_lt hq8 (l := l) (fun i hi => by have := hlt2 i hi; omega)
         refine WC_exit ?_
         refine then_x (then_x (exit_here ?_))
         refine then_n ?_
         refine WC_seq ?_
         refine WC_freeze (i := 0) rfl hb2 (.here) fun F18 hF19 hz4 => ?_
         replace hr := hr.mono hF19
         replace hx := hx.mono hF19
         replace hl := hl.mono hF19
         replace hX := hX.mono hF19
         replace hsl11 := hsl11.mono hF19
         replace hsl16 := hsl16.mono hF19
         refine WC_reg fun ds => ?_
         refine WL_q rfl (q_move (lk1 rfl <| lk_off rfl <| lk32 rfl <| lk4 rfl <| lk0)) ?_
         refine WL_q rfl (q_move (lk2 rfl <| lk_in rfl hs10)) ?_
         refine WL_q rfl (q_move (lk2 rfl <| lk1 rfl <| lk_off rfl <| lk4 rfl <| lk1 rfl <| lk0)) ?_
         refine WL_x rfl (x_call bd_71 lk_func (.cons (lk2 rfl <| lk0) (.cons (lk1 rfl <| lk0) (.cons (lk0) (.cons lk_func .nil)))) (sets_ok rfl) fun v20 F21 hr22 hF23 => ?_)
         replace hr := hr.mono hF23
         replace hx := hx.mono hF23
         replace hl := hl.mono hF23
         replace hX := hX.mono hF23
         replace hsl11 := hsl11.mono hF23
         replace hsl16 := hsl16.mono hF23
         replace hz4 := hF23 _ _ hz4
         obtain ⟨d1, d2, d3, d4, rfl, z1, z2, z3, z4⟩ := hr22
         refine WL_q rfl (q_makeFunc (.cons (lk4 rfl <| lk1 rfl <| lk_off rfl <| lk32 rfl <| lk8 rfl <| lk4 rfl <| lk1 rfl <| lk0) .nil)) ?_
         refine WL_x rfl (x_call bd_70 lk_func (.cons (lk1 rfl <| lk0) (.cons (lk0) .nil)) (most_ok bd_93 (sets1_iter hX hv z1 z2 z3 z4 (of := ((maskL q l : Nat) : Int)) (w := 2 ^ q) (by omega) lenN (fun G v l hG hl hlt => ⟨72, [], [], rfl, bd_72, gives1_ok hl⟩)) (fun a b => cmpL (wo l a) (wo l b)) rfl (fun G v u a b hG h1 h2 _ _ => ⟨73, [], [ptr b2], rfl, bd_73, gives2_ok h1 h2 (hG _ _ hz4) (hl.mono hG) (by omega)⟩)) fun v24 F25 hr26 hF27 => ?_)
         replace hr := hr.mono hF27
         replace hx := hx.mono hF27
         replace hl := hl.mono hF27
         replace hX := hX.mono hF27
         replace hsl11 := hsl11.mono hF27
         replace hsl16 := hsl16.mono hF27
         replace hz4 := hF27 _ _ hz4
         obtain ⟨ws2, rfl, hws, hmem⟩ := hr26
         refine WL_q rfl (q_move (lk0)) ?_
         refine WL_q rfl (q_extract (lk0) rfl) ?_
         refine WL_q rfl (q_extract (lk1 rfl <| lk0) rfl) ?_
         refine WL_q rfl (q_assign (lk1 rfl <| lk0)) ?_
         refine WL_q rfl (q_assign (lk1 rfl <| lk0)) ?_
         refine WL_nil ?_
         refine then_n ?_
         refine WC_seq ?_
         refine WC_reg fun ds => ?_
         refine WL_q rfl (q_load1 one_29 (lk8 rfl <| lk4 rfl <| lk_off rfl <| lk32 rfl <| lk8 rfl <| lk4 rfl <| lk1 rfl <| lk0) (CellF.own hz4 rfl).cell) ?_
         refine WL_q rfl (q_move (lk2 rfl <| lk0)) ?_
         refine WL_x rfl (x_call bd_75 lk_func (.cons (lk1 rfl <| lk0) (.cons (lk0) .nil)) (without_ok hl hws (by omega)) fun v28 F29 hr30 hF31 => ?_)
         replace hr := hr.mono hF31
         replace hx := hx.mono hF31
         replace hl := hl.mono hF31
         replace hX := hX.mono hF31
         replace hsl11 := hsl11.mono hF31
         replace hsl16 := hsl16.mono hF31
         replace hws := hws.mono hF31
         replace hz4 := hF31 _ _ hz4
         have hres := hr30
         refine WL_q rfl (q_assign (lk0)) ?_
         refine WL_q rfl (q_assign lk_const) ?_
         refine WL_nil ?_
         refine then_n ?_
         refine WC_ret ?_
         refine post_ret rfl (.tmp (lk1 rfl <| lk0) (.tmp (lk0) .nil)) ?_
         rw [gives_ok h0 hin hqm ⟨hc1, hc2⟩]
         exact ⟨_, rfl, hres⟩
      ·
       refine WC_if_true (lk0) (by rw [show (allR r [q]).isSome = false by simpa [canB] using hc2]; rfl) ?_
       refine WC_seq ?_
       refine WC_reg fun ds => ?_
       refine WL_q rfl (q_assign lk_const) ?_
       refine WL_q rfl (q_assign lk_const) ?_
       refine WL_nil ?_
       refine then_n ?_
       refine WC_ret ?_
       refine block_r (then_r ?_)
       refine post_ret rfl (.tmp (lk1 rfl <| lk0) (.tmp (lk0) .nil)) ?_
       rw [gives_down h0 hin hqm (fun h => hc2 h.2)]
       exact ⟨_, rfl, Sl.nil⟩
     ·
      refine WC_seq ?_
      refine WC_reg fun ds => ?_
      refine WL_q rfl (q_move (lk16 rfl <| lk0)) ?_
      refine WL_q rfl (q_load1 one_29 (lk16 rfl <| lk8 rfl <| lk2 rfl <| lk0) (Cell.own 0 rfl rfl)) ?_
      refine WL_c rfl (q_call bd_60 lk_func (.cons (lk1 rfl <| lk0) (.cons (lk0) .nil)) (can_ok hX hv hl hlt2 hn8) (fun _ _ h => h)) ?_
      refine WL_q rfl (q_not (lk0)) ?_
      refine WL_q rfl (q_move (lk0)) ?_
      refine WL_pass rfl rfl (lk0) (.inl (congrArg Value.bool (by first | (rw [show (allR r l).isSome = false by simpa [canB] using hc1]; done) | (rw [show (allR r l).isSome = false by simpa [canB] using hc1]; rfl)))) rfl ?_
      refine WL_pass rfl rfl (lk1 rfl <| lk0) (.inl (congrArg Value.bool (by first | (rw [show (allR r l).isSome = false by simpa [canB] using hc1]; done) | (rw [show (allR r l).isSome = false by simpa [canB] using hc1]; rfl)))) rfl ?_
      refine WL_pass rfl rfl (lk2 rfl <| lk0) (.inl (congrArg Value.bool (by first | (rw [show (allR r l).isSome = false by simpa [canB] using hc1]; done) | (rw [show (allR r l).isSome = false by simpa [canB] using hc1]; rfl)))) rfl ?_
      refine WL_pass rfl rfl (lk2 rfl <| lk1 rfl <| lk0) (.inl (congrArg Value.bool (by first | (rw [show (allR r l).isSome = false by simpa [canB] using hc1]; done) | (rw [show (allR r l).isSome = false by simpa [canB] using hc1]; rfl)))) rfl ?_
      refine WL_pass rfl rfl (lk4 rfl <| lk0) (.inl (congrArg Value.bool (by first | (rw [show (allR r l).isSome = false by simpa [canB] using hc1]; done) | (rw [show (allR r l).isSome = false by simpa [canB] using hc1]; rfl)))) rfl ?_
      refine WL_q rfl (q_pick_true (lk4 rfl <| lk1 rfl <| lk0) (by first | (rw [show (allR r l).isSome = false by simpa [canB] using hc1]; done) | (rw [show (allR r l).isSome = false by simpa [canB] using hc1]; rfl)) lk_const) ?_
      refine WL_q rfl (q_assign (lk0)) ?_
      refine WL_nil ?_
      refine then_n ?_
      refine WC_if_true (lk0) rfl ?_
      refine WC_seq ?_
      refine WC_reg fun ds => ?_
      refine WL_q rfl (q_assign lk_const) ?_
      refine WL_q rfl (q_assign lk_const) ?_
      refine WL_nil ?_
      refine then_n ?_
      refine WC_ret ?_
      refine block_r (then_r ?_)
      refine post_ret rfl (.tmp (lk1 rfl <| lk0) (.tmp (lk0) .nil)) ?_
      rw [gives_down h0 hin hqm (fun h => hc1 h.1)]
      exact ⟨_, rfl, Sl.nil⟩
   ·
    replace hin : inB 0 (r.reqs.length - 1) x = false := by simpa using hin
    refine WC_seq ?_
    refine WC_reg fun ds => ?_
    refine WL_q rfl (q_fieldAddrB fd_27_3 (lk8 rfl <| lk4 rfl <| lk2 rfl <| lk0)) ?_
    refine WL_q rfl (q_load1 one_25 (lk0) (Cell.own 1 rfl rfl)) ?_
    refine WL_q rfl (q_lenP sl_25 (lk0) hr.reqs.plain) ?_
    refine WL_q rfl (q_sub (lk0) lk_const rfl (by omega) (by omega)) ?_
    refine WL_q rfl (q_move (lk16 rfl <| lk2 rfl <| lk1 rfl <| lk_entry rfl)) ?_
    refine WL_x rfl (x_build sl_29 zr_3 rfl (.cons (lk0) .nil) rfl rfl (by decide) (by simp [Value.oneCell']) fun b32 hb32 nb32 => ?_)
    refine WL_freeze (i := 0) rfl hb32 .here fun F33 hF34 hz35 => ?_
    replace hr := hr.mono hF34
    replace hx := hx.mono hF34
    replace hl := hl.mono hF34
    replace hX := hX.mono hF34
    have hsl36 := ints_box1 hz35
    refine WL_c rfl (q_call bd_51 lk_func (.cons lk_const (.cons (lk2 rfl <| lk0) (.cons (lk0) .nil))) (outside_ok _ _ hsl36) (fun _ _ h => h)) ?_
    refine WL_q rfl (q_assign (lk0)) ?_
    refine WL_nil ?_
    refine then_n ?_
    refine WC_if_true (lk0) (by simp [hin]) ?_
    refine WC_seq ?_
    refine WC_reg fun ds => ?_
    refine WL_q rfl (q_assign lk_const) ?_
    refine WL_q rfl (q_assign lk_const) ?_
    refine WL_nil ?_
    refine then_n ?_
    refine WC_ret ?_
    refine block_r (then_r ?_)
    refine post_ret rfl (.tmp (lk1 rfl <| lk0) (.tmp (lk0) .nil)) ?_
    rw [gives_rng h0 hin]
    exact ⟨_, rfl, Sl.nil⟩
  ·
   refine WC_seq ?_
   refine WC_reg fun ds => ?_
   refine WL_x rfl (x_box (lk_entry rfl) rfl fun b37 hb37 nb37 => ?_)
   refine WL_x rfl (x_box (lk1 rfl <| lk_entry rfl) (cells_one hx.plain.one) fun b38 hb38 nb38 => ?_)
   refine WL_q rfl (q_assign lk_const) ?_
   refine WL_q rfl (q_assign lk_const) ?_
   refine WL_nil ?_
   refine then_n ?_
   refine WC_seq ?_
   refine WC_reg fun ds => ?_
   refine WL_q rfl (q_loadN agg_27 (lk2 rfl <| lk1 rfl <| lk0) rfl rfl (own_whole 1 rfl)) ?_
   refine WL_q rfl (q_load1 one_29 (lk2 rfl <| lk1 rfl <| lk0) (Cell.own 0 rfl rfl)) ?_
   refine WL_c rfl (q_call bd_57 lk_func (.cons (lk1 rfl <| lk0) (.cons (lk0) .nil)) (enter_bad hr hx h0) (fun _ _ h => h)) ?_
   refine WL_q rfl (q_move (lk0)) ?_
   refine WL_q rfl (q_extract (lk0) rfl) ?_
   refine WL_q rfl (q_extract (lk1 rfl <| lk0) rfl) ?_
   refine WL_q rfl (q_assign (lk1 rfl <| lk0)) ?_
   refine WL_q rfl (q_assign (lk1 rfl <| lk0)) ?_
   refine WL_nil ?_
   refine then_n ?_
   refine WC_seq ?_
   refine WC_block ?_
   refine WC_seq ?_
   refine WC_reg fun ds => ?_
   refine WL_q rfl (q_move (lk0)) ?_
   refine WL_q rfl (q_neq (lk0) lk_const) ?_
   refine WL_q rfl (q_assign (lk0)) ?_
   refine WL_nil ?_
   refine then_n ?_
   refine WC_if_true (lk0) (decide_eq_true h0) ?_
   refine WC_seq ?_
   refine WC_reg fun ds => ?_
   refine WL_q rfl (q_move (lk2 rfl <| lk1 rfl <| lk0)) ?_
   refine WL_q rfl (q_assign lk_const) ?_
   refine WL_q rfl (q_assign (lk1 rfl <| lk0)) ?_
   refine WL_nil ?_
   refine then_n ?_
   refine WC_ret ?_
   refine block_r (then_r ?_)
   refine post_ret rfl (.tmp (lk1 rfl <| lk0) (.tmp (lk0) .nil)) ?_
   rw [gives_bad h0]
   exact ⟨_, rfl, Sl.nil⟩
end Go.Proofs.Ytbcjfkcpfjccdaa
namespace Go.Proofs.Ytbcjfkcpfjccdaa
open Go.RowKit
theorem bd_77 : Body Try.prog 77 := body_of (by kernel_rfl)
theorem el_62 : ElemT Try.prog 62 5 48 (.agg #[.string ⟨#[]⟩, .int .i64 0, .int .i64 0, .int .i64 0, .bool false]) := elemT_of (by kernel_rfl) rfl (by decide)
theorem sz_22 : SizeT Try.prog 22 1 := sizeT_of (by kernel_rfl)
theorem sz_27 : SizeT Try.prog 27 4 := sizeT_of (by kernel_rfl)
theorem zr_27 : ZeroT Try.prog 27 (.agg #[.slice none 0 0, .slice none 0 0, .slice none 0 0, .slice none 0 0]) := zeroT_of (by kernel_rfl)
set_option maxRecDepth 100000 in
theorem clone_ok {F : Heap} {v : Value} {xs : List Book} (h : Sl F v 5 Book.enc xs) (hn : xs.length ≤ 1000) : OkN Try.prog 77 [v].toArray F fun u F' Hn => Own 62 5 u xs.length (xs.flatMap Book.enc) Hn := by
  obtain ⟨a0, c0, rfl, g1, g2, g3, g4⟩ := h.plain
  refine OkN.intro Try.func77 rfl Try.ntmps77 rfl fun w0 => ?_
  cases a0
  ·
   refine WC_seq ?_
   refine WC_reg fun ds => ?_
   refine WL_q rfl (q_assign lk_const) ?_
   refine WL_nil ?_
   refine then_n ?_
   refine WC_seq ?_
   refine WC_seq ?_
   refine WC_reg fun ds => ?_
   refine WL_q rfl (q_move (lk1 rfl <| lk_entry rfl)) ?_
   refine WL_q rfl (q_eqlNil Try.underlying22 (lk0) lk_const) ?_
   refine WL_nil ?_
   refine then_n ?_
   refine WC_if_true (lk0) rfl ?_
   refine WC_seq ?_
   refine WC_reg fun ds => ?_
   refine WL_q rfl (q_assign lk_const) ?_
   refine WL_nil ?_
   refine then_n ?_
   refine WC_ret ?_
   refine then_r ?_
   refine post_retN rfl (.tmp (lk0) .nil) (List.nil_sublist _) ?_
   obtain ⟨h0, -⟩ := g2 rfl
   have : xs = [] := List.eq_nil_of_length_eq_zero h0
   subst this
   exact own_nil
  ·
   refine WC_seq ?_
   refine WC_reg fun ds => ?_
   refine WL_q rfl (q_assign lk_const) ?_
   refine WL_nil ?_
   refine then_n ?_
   refine WC_seq ?_
   refine WC_seq ?_
   refine WC_reg fun ds => ?_
   refine WL_q rfl (q_move (lk1 rfl <| lk_entry rfl)) ?_
   refine WL_q rfl (q_eqlNil Try.underlying22 (lk0) lk_const) ?_
   refine WL_nil ?_
   refine then_n ?_
   refine WC_if_false (lk0) rfl ?_
   refine WC_skip ?_
   refine then_n ?_
   refine WC_seq ?_
   refine WC_reg fun ds => ?_
   refine WL_x rfl (x_build0 sl_22 fun b1 hb1 nb1 => ?_)
   refine WL_q rfl (q_move (lk4 rfl <| lk_entry rfl)) ?_
   refine WL_x rfl (x_append sl_22 el_62 (lk1 rfl <| lk0) (own_box rfl) (lk0) (h.src (fun _ => rfl) (fun _ => Book.enc_one)) (by omega) (by omega) (.z) .box fun v2 R3 ho4 => ?_)
   have ho1 : Own 62 5 v2 xs.length (xs.flatMap Book.enc) R3 := by simpa using ho4
   refine WL_q rfl (q_assign (lk0)) ?_
   refine WL_nil ?_
   refine then_n ?_
   refine WC_ret ?_
   refine post_retN rfl (.tmp (lk0) .nil) (List.sublist_append_left _ _) ?_
   exact ho1
set_option maxRecDepth 100000 in
theorem ask_top_ok {F : Heap} {vb vr vs vq : Value} {r : Room} (hr : RoomR F vb vr vs vq r) : Ok Try.prog 34 [.agg #[vb, vr, vs, vq]].toArray F fun u _ => u = trip (askE r) := by
  refine Ok.intro Try.func34 rfl Try.ntmps34 rfl fun w0 => ?_
  have hL1 := hr.books.plain.lt
  by_cases h0 : (check r).2.2 = 0
  ·
   have hv := valid_of h0
   refine WC_seq ?_
   refine WC_reg fun ds => ?_
   refine WL_x rfl (x_box (lk_entry rfl) rfl fun b1 hb1 nb1 => ?_)
   refine WL_q rfl (q_assign lk_const) ?_
   refine WL_q rfl (q_assign lk_const) ?_
   refine WL_q rfl (q_assign lk_const) ?_
   refine WL_nil ?_
   refine then_n ?_
   refine WC_seq ?_
   refine WC_reg fun ds => ?_
   refine WL_q rfl (q_loadN agg_27 (lk2 rfl <| lk1 rfl <| lk0) rfl rfl (own_whole 0 rfl)) ?_
   refine WL_x rfl (x_call bd_57 lk_func (.cons (lk0) (.cons lk_const .nil)) (enter_good hr (Sl.nil : Ints F _ []) (someErr_nil.trans h0)) fun v2 F3 hr4 hF5 => ?_)
   replace hr := hr.mono hF5
   obtain ⟨p, rfl, hlk⟩ := hr4
   obtain ⟨b, c1, c8, c3, wb, wr, ws, wq, wl, rfl, hX⟩ := hlk
   refine WL_q rfl (q_move (lk0)) ?_
   refine WL_q rfl (q_extract (lk0) rfl) ?_
   refine WL_q rfl (q_extract (lk1 rfl <| lk0) rfl) ?_
   refine WL_q rfl (q_assign (lk1 rfl <| lk0)) ?_
   refine WL_q rfl (q_assign (lk1 rfl <| lk0)) ?_
   refine WL_nil ?_
   refine then_n ?_
   refine WC_seq ?_
   refine WC_seq ?_
   refine WC_reg fun ds => ?_
   refine WL_q rfl (q_move (lk0)) ?_
   refine WL_q rfl (q_neq (lk0) lk_const) ?_
   refine WL_nil ?_
   refine then_n ?_
   refine WC_if_false (lk0) (by decide) ?_
   refine WC_skip ?_
   refine then_n ?_
   refine WC_seq ?_
   refine WC_reg fun ds => ?_
   refine WL_q rfl (q_move (lk2 rfl <| lk1 rfl <| lk0)) ?_
   refine WL_x rfl (x_call bd_67 lk_func (.cons (lk0) .nil) (best_ok hX hv) fun v6 F7 hr8 hF9 => ?_)
   replace hr := hr.mono hF9
   replace hX := hX.mono hF9
   obtain ⟨ws0, rfl, hws0, hmem0⟩ := hr8
   refine WL_q rfl (q_move (lk0)) ?_
   refine WL_q rfl (q_extract (lk0) rfl) ?_
   refine WL_q rfl (q_extract (lk1 rfl <| lk0) rfl) ?_
   refine WL_q rfl (q_assign (lk1 rfl <| lk0)) ?_
   refine WL_q rfl (q_assign (lk1 rfl <| lk0)) ?_
   refine WL_nil ?_
   refine then_n ?_
   refine WC_seq ?_
   refine WC_seq ?_
   refine WC_reg fun ds => ?_
   refine WL_q rfl (q_fieldAddrB fd_27_0 (lk16 rfl <| lk2 rfl <| lk1 rfl <| lk0)) ?_
   refine WL_q rfl (q_load1 one_22 (lk0) (Cell.own 0 rfl rfl)) ?_
   refine WL_q rfl (q_lenP sl_22 (lk0) hr.books.plain) ?_
   refine WL_q rfl (q_move lk_const) ?_
   refine WL_nil ?_
   refine then_n ?_
   refine WC_block ?_
   refine WC_loopN [2, 3, 8, 9, 10, 11, 28, 29, 30, 31, 32, 33, 34, 35, 36, 37, 38, 39, 40, 41, 42, 43, 44, 45, 46, 47, 48, 49, 50, 51, 52, 53, 54, 55, 56, 57, 58, 59, 60, 61, 62, 63, 64] (fun m e σ => ∃ G, RoomR G vb vr vs vq r ∧ ∃ k : Nat, m + k = r.books.length ∧ e 28 = .int .i64 k ∧ e 2 = .int .i64 ((askTo (bestP r).2 (fun b => (bestP (measured r b)).2) k).1 : Nat) ∧ e 3 = .int .i64 (askTo (bestP r).2 (fun b => (bestP (measured r b)).2) k).2 ∧ σ = ⟨G, [(b1, bx 27 [vb, vr, vs, vq])]⟩) (r.books.length) ?_ ?_
   · exact ⟨_, hr, 0, by omega, (lk0), (lk16 rfl <| lk4 rfl <| lk2 rfl <| lk0), (lk16 rfl <| lk4 rfl <| lk1 rfl <| lk0), rfl⟩
   ·
    rintro m e _ ⟨G, hr, k, hm1, hs28, hs2, hs3, rfl⟩
    by_cases hlt : k < r.books.length
    ·
     refine WC_seq ?_
     refine WC_reg fun ds => ?_
     refine WL_q rfl (q_lss (lk_in rfl hs28) (lk_off rfl <| lk1 rfl <| lk0)) ?_
     refine WL_nil ?_
     refine then_n ?_
     refine WC_seq ?_
     refine WC_if_true (lk0) (by first | rfl | exact decide_eq_true (by omega)) ?_
     have hnb := hv.nb
     have hvm := valid_measured hv hlt
     have hb1 := bestP_bound hv
     have hb2 := bestP_bound hvm
     refine WC_skip ?_
     refine then_n ?_
     refine WC_seq ?_
     refine WC_block ?_
     refine WC_seq ?_
     refine WC_reg fun ds => ?_
     refine WL_q rfl (q_move (lk1 rfl <| lk_in rfl hs28)) ?_
     refine WL_q rfl (q_assign (lk0)) ?_
     refine WL_nil ?_
     refine then_n ?_
     refine WC_seq ?_
     refine WC_reg fun ds => ?_
     refine WL_q rfl (q_loadN agg_27 (lk2 rfl <| lk1 rfl <| lk_off rfl <| lk16 rfl <| lk4 rfl <| lk2 rfl <| lk1 rfl <| lk0) rfl rfl (own_whole 0 rfl)) ?_
     refine WL_x rfl (x_alloc zr_27 rfl fun b11 hb11 nb11 => ?_)
     refine WL_x0 (x_storeA sz_27 (lk0) (lk1 rfl <| lk0) (i := 0) rfl rfl rfl rfl hr.ones (.here) ?_)
     refine WL_nil ?_
     refine then_n ?_
     refine WC_seq ?_
     refine WC_reg fun ds => ?_
     refine WL_q rfl (q_fieldAddrB fd_27_0 (lk4 rfl <| lk1 rfl <| lk_off rfl <| lk16 rfl <| lk4 rfl <| lk2 rfl <| lk1 rfl <| lk0)) ?_
     refine WL_q rfl (q_load1 one_22 (lk0) (Cell.own 1 rfl rfl)) ?_
     refine WL_x rfl (x_callN bd_77 lk_func (.cons (lk0) .nil) (clone_ok hr.books (by omega)) fun v12 F13 R16 hr14 hF15 => ?_)
     replace hr := hr.mono hF15
     have hoC := hr14
     refine WL_q rfl (q_fieldAddrB fd_27_0 (lk2 rfl <| lk1 rfl <| lk0)) ?_
     refine WL_x0 (x_store1 sz_22 (lk0) (lk1 rfl <| lk0) (i := 0) rfl (.here) hoC.one (.here) ?_)
     refine WL_nil ?_
     refine then_n ?_
     refine WC_seq ?_
     refine WC_drawS (.inl rfl) (fun _ _ h => h) (.cons_cons _ <| .cons_cons _ <| .refl _) [13] (by kernel_rfl) fun ds => ?_
     refine WX_take 0 rfl (by kernel_rfl) (by kernel_rfl) (by kernel_rfl) (by kernel_rfl) rfl rfl (fun _ h => h.drop (.cons_cons _ <| .cons_cons _ <| .refl _)) (fun _ _ _ h => h) (q_fieldAddrB fd_27_0 (lk4 rfl <| lk0)) ?_
     refine WX_take 1 rfl (by kernel_rfl) (by kernel_rfl) (by kernel_rfl) (by kernel_rfl) rfl rfl (fun _ h => h.drop (.cons_cons _ <| .cons_cons _ <| .refl _)) (fun _ _ _ h => h) (q_load1 one_22 (lk0) (Cell.own 0 rfl rfl)) ?_
     refine WX_take 2 rfl (by kernel_rfl) (by kernel_rfl) (by kernel_rfl) (by kernel_rfl) rfl rfl (fun _ h => h.drop (.cons_cons _ <| .cons_cons _ <| .refl _)) (fun _ _ _ h => h) (q_move (lk8 rfl <| lk0)) ?_
     refine WX_take 3 rfl (by kernel_rfl) (by kernel_rfl) (by kernel_rfl) (by kernel_rfl) rfl rfl (fun _ h => h.drop (.cons_cons _ <| .cons_cons _ <| .refl _)) (fun _ _ _ h => h) (q_fieldAddrB fd_27_0 (lk4 rfl <| lk2 rfl <| lk1 rfl <| lk0)) ?_
     refine WX_take 4 rfl (by kernel_rfl) (by kernel_rfl) (by kernel_rfl) (by kernel_rfl) rfl rfl (fun _ h => h.drop (.cons_cons _ <| .cons_cons _ <| .refl _)) (fun _ _ _ h => h) (q_load1 one_22 (lk0) (Cell.own 0 rfl rfl)) ?_
     refine WX_take 5 rfl (by kernel_rfl) (by kernel_rfl) (by kernel_rfl) (by kernel_rfl) rfl rfl (fun _ h => h.drop (.cons_cons _ <| .cons_cons _ <| .refl _)) (fun _ _ _ h => h) (q_move (lk8 rfl <| lk2 rfl <| lk1 rfl <| lk0)) ?_
     refine WX_take 6 rfl (by kernel_rfl) (by kernel_rfl) (by kernel_rfl) (by kernel_rfl) rfl rfl (fun _ h => h.drop (.cons_cons _ <| .cons_cons _ <| .refl _)) (fun _ _ _ h => h) (q_index (k := k) sl_22 (lk1 rfl <| lk0) (hoC.plain (by omega)) (lk0) rfl hlt) ?_
     refine WX_take 7 rfl (by kernel_rfl) (by kernel_rfl) (by kernel_rfl) (by kernel_rfl) rfl rfl (fun _ h => h.drop (.cons_cons _ <| .cons_cons _ <| .refl _)) (fun _ _ _ h => h) (q_fieldAddr fd_62_2 (lk0)) ?_
     refine WX_take 8 rfl (by kernel_rfl) (by kernel_rfl) (by kernel_rfl) (by kernel_rfl) rfl rfl (fun _ h => h.drop (.cons_cons _ <| .cons_cons _ <| .refl _)) (fun _ _ _ h => h) (q_fieldAddr fd_60_1 (lk0)) ?_
     refine WX_take 9 rfl (by kernel_rfl) (by kernel_rfl) (by kernel_rfl) (by kernel_rfl) rfl rfl (fun _ h => h.drop (.cons_cons _ <| .cons_cons _ <| .refl _)) (fun _ _ _ h => h) (q_load1 one_3 (lk0) (show Cell _ _ (.int .i64 (r.bk k).hi) from own_cell hoC (fun p hp => .tail _ (.tail _ hp)) (flat_bk (j := 3) hlt rfl))) ?_
     refine WX_take 10 rfl (by kernel_rfl) (by kernel_rfl) (by kernel_rfl) (by kernel_rfl) rfl rfl (fun _ h => h.drop (.cons_cons _ <| .cons_cons _ <| .refl _)) (fun _ _ _ h => h) (q_index (k := k) sl_22 (lk8 rfl <| lk0) (hoC.plain (by omega)) (lk4 rfl <| lk2 rfl <| lk1 rfl <| lk0) rfl hlt) ?_
     refine WX_take 11 rfl (by kernel_rfl) (by kernel_rfl) (by kernel_rfl) (by kernel_rfl) rfl rfl (fun _ h => h.drop (.cons_cons _ <| .cons_cons _ <| .refl _)) (fun _ _ _ h => h) (q_fieldAddr fd_62_2 (lk0)) ?_
     refine WX_take 12 rfl (by kernel_rfl) (by kernel_rfl) (by kernel_rfl) (by kernel_rfl) rfl rfl (fun _ h => h.drop (.cons_cons _ <| .cons_cons _ <| .refl _)) (fun _ _ _ h => h) (q_fieldAddr fd_60_0 (lk0)) ?_
     refine WX_x0 13 rfl (by kernel_rfl) (x_storeR sz_3 (lk0) (lk2 rfl <| lk1 rfl <| lk0) hoC (by rw [flat_bk_len]; omega) rfl (.s <| .s .z) .last fun R3 ho3 => ⟨(fun h => nomatch h), ?_⟩)
     refine WX_done (by kernel_rfl) ?_ _
     refine then_n ?_
     refine WC_seq ?_
     rw [show k * 5 + 2 + 0 = k * 5 + 2 from rfl, flat_setB hlt, measured_set hlt] at ho3
     have ho9 := ho3.to (measured_len (r := r) (b := k)).symm
     refine WC_freezeR (σ := ⟨_, _⟩) (by rfl) ho9 (.s <| .s <| .z) .last fun F17 hF18 hz19 => ?_
     replace hr := hr.mono hF18
     have hmb := ho9.sl (fun _ => rfl) hz19 (by rw [measured_len]; omega)
     have hrm := (⟨hmb, hr.readers, hr.seats, hr.reqs⟩ : RoomR _ _ vr vs vq (measured r k))
     refine WC_reg fun ds => ?_
     refine WL_q rfl (q_loadN agg_27 (lk16 rfl <| lk1 rfl <| lk0) rfl rfl (own_whole 0 rfl)) ?_
     refine WL_x rfl (x_call bd_78 lk_func (.cons (lk0) .nil) (look_ok hrm hvm) fun v20 F21 hr22 hF23 => ?_)
     replace hr := hr.mono hF23
     replace hmb := hmb.mono hF23
     replace hrm := hrm.mono hF23
     obtain ⟨b2, c12, c82, c32, xb, xr, xs2, xq, xl, rfl, hX2⟩ := hr22
     refine WL_x rfl (x_call bd_67 lk_func (.cons (lk0) .nil) (best_ok hX2 hvm) fun v24 F25 hr26 hF27 => ?_)
     replace hr := hr.mono hF27
     replace hmb := hmb.mono hF27
     replace hrm := hrm.mono hF27
     replace hX2 := hX2.mono hF27
     obtain ⟨ws2, rfl, hws2, hmem2⟩ := hr26
     refine WL_q rfl (q_move (lk0)) ?_
     refine WL_q rfl (q_extract (lk0) rfl) ?_
     refine WL_q rfl (q_extract (lk1 rfl <| lk0) rfl) ?_
     refine WL_q rfl (q_assign (lk1 rfl <| lk0)) ?_
     refine WL_q rfl (q_assign (lk1 rfl <| lk0)) ?_
     refine WL_nil ?_
     refine then_n ?_
     refine WC_seq ?_
     by_cases hw : (askTo (bestP r).2 (fun b => (bestP (measured r b)).2) k).2 < (bestP (measured r k)).2 - (bestP r).2
     ·
      refine WC_reg fun ds => ?_
      refine WL_q rfl (q_move (lk0)) ?_
      refine WL_q rfl (q_move (lk16 rfl <| lk8 rfl <| lk4 rfl <| lk2 rfl <| lk1 rfl <| lk_off rfl <| lk4 rfl <| lk0)) ?_
      refine WL_q rfl (q_sub (lk1 rfl <| lk0) (lk0) rfl (by omega) (by omega)) ?_
      refine WL_q rfl (q_move (lk32 rfl <| lk1 rfl <| lk_in rfl hs3)) ?_
      refine WL_q rfl (q_gtr (lk1 rfl <| lk0) (lk0)) ?_
      refine WL_nil ?_
      refine then_n ?_
      refine WC_if_true (lk0) (decide_eq_true hw) ?_
      refine WC_reg fun ds => ?_
      refine WL_q rfl (q_move (lk32 rfl <| lk0)) ?_
      refine WL_q rfl (q_move (lk4 rfl <| lk2 rfl <| lk0)) ?_
      refine WL_q rfl (q_move (lk32 rfl <| lk4 rfl <| lk1 rfl <| lk_off rfl <| lk4 rfl <| lk0)) ?_
      refine WL_q rfl (q_sub (lk1 rfl <| lk0) (lk0) rfl (by omega) (by omega)) ?_
      refine WL_q rfl (q_assign (lk2 rfl <| lk1 rfl <| lk0)) ?_
      refine WL_q rfl (q_assign (lk1 rfl <| lk0)) ?_
      refine WL_nil ?_
      refine block_n (then_n ?_)
      refine WC_imp (fun _ _ h => h.drop (.cons _ <| .cons_cons _ <| .refl _)) ?_
      refine WC_reg fun ds => ?_
      refine WL_q rfl (q_add (lk32 rfl <| lk8 rfl <| lk1 rfl <| lk_in rfl hs28) lk_const rfl (by omega) (by omega)) ?_
      refine WL_q rfl (q_move (lk0)) ?_
      refine WL_nil ?_
      refine then_n ⟨_, m - 1, Off.eq (ou32 rfl <| ou8 rfl <| ou2 rfl <| ou1 rfl <| off_over), by omega, ?_⟩
      exact ⟨_, hr, k + 1, by omega, (lk0), by rw [askTo_yes hw]; exact (lk2 rfl <| lk1 rfl <| lk0), by rw [askTo_yes hw]; exact (lk2 rfl <| lk0), rfl⟩
     ·
      refine WC_reg fun ds => ?_
      refine WL_q rfl (q_move (lk0)) ?_
      refine WL_q rfl (q_move (lk16 rfl <| lk8 rfl <| lk4 rfl <| lk2 rfl <| lk1 rfl <| lk_off rfl <| lk4 rfl <| lk0)) ?_
      refine WL_q rfl (q_sub (lk1 rfl <| lk0) (lk0) rfl (by omega) (by omega)) ?_
      refine WL_q rfl (q_move (lk32 rfl <| lk1 rfl <| lk_in rfl hs3)) ?_
      refine WL_q rfl (q_gtr (lk1 rfl <| lk0) (lk0)) ?_
      refine WL_nil ?_
      refine then_n ?_
      refine WC_if_false (lk0) (decide_eq_false hw) ?_
      refine WC_skip ?_
      refine block_n (then_n ?_)
      refine WC_imp (fun _ _ h => h.drop (.cons _ <| .cons_cons _ <| .refl _)) ?_
      refine WC_reg fun ds => ?_
      refine WL_q rfl (q_add (lk32 rfl <| lk2 rfl <| lk1 rfl <| lk_in rfl hs28) lk_const rfl (by omega) (by omega)) ?_
      refine WL_q rfl (q_move (lk0)) ?_
      refine WL_nil ?_
      refine then_n ⟨_, m - 1, Off.eq (ou32 rfl <| ou4 rfl <| ou1 rfl <| off_over), by omega, ?_⟩
      exact ⟨_, hr, k + 1, by omega, (lk0), by rw [askTo_no hw]; exact (lk32 rfl <| lk4 rfl <| lk1 rfl <| lk_in rfl hs2), by rw [askTo_no hw]; exact (lk32 rfl <| lk4 rfl <| lk1 rfl <| lk_in rfl hs3), rfl⟩
    ·
     refine WC_seq ?_
     refine WC_reg fun ds => ?_
     refine WL_q rfl (q_lss (lk_in rfl hs28) (lk_off rfl <| lk1 rfl <| lk0)) ?_
     refine WL_nil ?_
     refine then_n ?_
     refine WC_seq ?_
     refine WC_if_false (lk0) (by first | rfl | exact decide_eq_false (by omega)) ?_
     obtain rfl : k = r.books.length := by omega
     by_cases h9 : (askTo (bestP r).2 (fun b => (bestP (measured r b)).2) r.books.length).2 = 0
     ·
      refine WC_exit ?_
      refine then_x (then_x (exit_here ?_))
      refine then_n ?_
      refine WC_seq ?_
      refine WC_seq ?_
      refine WC_reg fun ds => ?_
      refine WL_q rfl (q_move (lk1 rfl <| lk_in rfl hs3)) ?_
      refine WL_q rfl (q_eql (lk0) lk_const) ?_
      refine WL_nil ?_
      refine then_n ?_
      refine WC_if_true (lk0) (decide_eq_true h9) ?_
      refine WC_seq ?_
      refine WC_reg fun ds => ?_
      refine WL_q rfl (q_assign lk_const) ?_
      refine WL_q rfl (q_assign lk_const) ?_
      refine WL_q rfl (q_assign lk_const) ?_
      refine WL_nil ?_
      refine then_n ?_
      refine WC_ret ?_
      refine then_r ?_
      refine post_ret rfl (.tmp (lk2 rfl <| lk0) (.tmp (lk1 rfl <| lk0) (.tmp (lk0) .nil))) ?_
      rw [askE_ok h0]; unfold askV; rw [if_pos h9]; rfl
     ·
      refine WC_exit ?_
      refine then_x (then_x (exit_here ?_))
      refine then_n ?_
      refine WC_seq ?_
      refine WC_seq ?_
      refine WC_reg fun ds => ?_
      refine WL_q rfl (q_move (lk1 rfl <| lk_in rfl hs3)) ?_
      refine WL_q rfl (q_eql (lk0) lk_const) ?_
      refine WL_nil ?_
      refine then_n ?_
      refine WC_if_false (lk0) (decide_eq_false h9) ?_
      refine WC_skip ?_
      refine then_n ?_
      refine WC_seq ?_
      refine WC_reg fun ds => ?_
      refine WL_q rfl (q_move (lk2 rfl <| lk1 rfl <| lk_in rfl hs2)) ?_
      refine WL_q rfl (q_move (lk4 rfl <| lk_in rfl hs3)) ?_
      refine WL_q rfl (q_assign (lk1 rfl <| lk0)) ?_
      refine WL_q rfl (q_assign (lk1 rfl <| lk0)) ?_
      refine WL_q rfl (q_assign lk_const) ?_
      refine WL_nil ?_
      refine then_n ?_
      refine WC_ret ?_
      refine post_ret rfl (.tmp (lk2 rfl <| lk0) (.tmp (lk1 rfl <| lk0) (.tmp (lk0) .nil))) ?_
      rw [askE_ok h0]; unfold askV; rw [if_neg h9]; rfl
  ·
   refine WC_seq ?_
   refine WC_reg fun ds => ?_
   refine WL_x rfl (x_box (lk_entry rfl) rfl fun b28 hb28 nb28 => ?_)
   refine WL_q rfl (q_assign lk_const) ?_
   refine WL_q rfl (q_assign lk_const) ?_
   refine WL_q rfl (q_assign lk_const) ?_
   refine WL_nil ?_
   refine then_n ?_
   refine WC_seq ?_
   refine WC_reg fun ds => ?_
   refine WL_q rfl (q_loadN agg_27 (lk2 rfl <| lk1 rfl <| lk0) rfl rfl (own_whole 0 rfl)) ?_
   refine WL_c rfl (q_call bd_57 lk_func (.cons (lk0) (.cons lk_const .nil)) (enter_bad hr (Sl.nil : Ints F _ []) (fun h => h0 (someErr_nil.symm.trans h))) (fun _ _ h => h)) ?_
   refine WL_q rfl (q_move (lk0)) ?_
   refine WL_q rfl (q_extract (lk0) rfl) ?_
   refine WL_q rfl (q_extract (lk1 rfl <| lk0) rfl) ?_
   refine WL_q rfl (q_assign (lk1 rfl <| lk0)) ?_
   refine WL_q rfl (q_assign (lk1 rfl <| lk0)) ?_
   refine WL_nil ?_
   refine then_n ?_
   refine WC_seq ?_
   refine WC_seq ?_
   refine WC_reg fun ds => ?_
   refine WL_q rfl (q_move (lk0)) ?_
   refine WL_q rfl (q_neq (lk0) lk_const) ?_
   refine WL_nil ?_
   refine then_n ?_
   refine WC_if_true (lk0) (by simpa [someErr_nil] using h0) ?_
   refine WC_seq ?_
   refine WC_reg fun ds => ?_
   refine WL_q rfl (q_move (lk2 rfl <| lk0)) ?_
   refine WL_q rfl (q_assign lk_const) ?_
   refine WL_q rfl (q_assign lk_const) ?_
   refine WL_q rfl (q_assign (lk2 rfl <| lk0)) ?_
   refine WL_nil ?_
   refine then_n ?_
   refine WC_ret ?_
   refine then_r ?_
   refine post_ret rfl (.tmp (lk2 rfl <| lk0) (.tmp (lk1 rfl <| lk0) (.tmp (lk0) .nil))) ?_
   rw [askE_bad h0, ← someErr_nil]; rfl
end Go.Proofs.Ytbcjfkcpfjccdaa
namespace Go.Proofs.Ytbcjfkcpfjccdaa
open Go.RowKit
def dstB (ops : Array Oper) (j : Nat) : Nat := match (ops[j]?).bind (·.dst) with | some d => d | none => 0
def depB (ops : Array Oper) (i j : Nat) : Bool := match ops[i]? with | some o => o.after.any fun x => Region.binds .any x && x.on == j | none => false
/-- All operations ahead of 'k' have places of their own, and wait for earlier ones only; what is behind them is at most one operation, that waits for all. -/
def factB (n : Nat) (ops : Array Oper) (k : Nat) : Bool :=
  (List.range k).all (fun i => match ops[i]? with
    | some o => (match o.dst with | some d => Nat.blt d n | none => false) && o.guard.isNone && o.after.all (fun x => !(Region.binds .any x) || Nat.blt x.on i) && (List.range i).all (fun j => !(Nat.beq (dstB ops j) (dstB ops i)))
    | none => false) &&
  (ops.size == k || (ops.size == k + 1 && (match ops[k]? with
    | some o => o.dst.isNone && o.guard.isNone && o.after.all (fun x => !(Region.binds .any x) || Nat.blt x.on k) && (List.range k).all (depB ops k)
    | none => false)))
def AllTo (H : Nat → Prop) : Nat → Prop
  | 0 => True
  | k + 1 => AllTo H k ∧ H k
theorem AllTo.get {H : Nat → Prop} : ∀ {k : Nat}, AllTo H k → ∀ i, i < k → H i
  | 0, _, i, h => absurd h (by omega)
  | k + 1, h, i, hi => by
    by_cases hk : i = k
    · subst hk; exact h.2
    · exact AllTo.get h.1 i (by omega)
section
variable {P : Program} {n : Nat} {B : Base} {e0 : Env} {σ : St}
/-- What operation 'i' does, told by facts. -/
def Hop (P : Program) (n : Nat) (B : Base) (ops : Array Oper) (k : Nat) (Φ : Nat → Heap → Value → Prop) (e0 : Env) (σ : St) (i : Nat) : Prop :=
  ∀ e F, σ.F.le F → (∀ t, (∀ j, j < k → t ≠ dstB ops j) → e t = e0 t) → (∀ j, depB ops i j = true → j < k → Φ j F (e (dstB ops j))) →
    ∃ d op ty pos af, ops[i]? = some ⟨some d, op, ty, pos, af, none⟩ ∧ OpX P n B ⟨some d, op, ty, pos, af, none⟩ e ⟨F, σ.H⟩ fun v σ' => ∃ F', σ' = ⟨F', σ.H⟩ ∧ F.le F' ∧ Φ i F' v
/-- What the operation behind all others does. -/
def Hend (P : Program) (n : Nat) (B : Base) (ops : Array Oper) (k : Nat) (Φ : Nat → Heap → Value → Prop) (e0 : Env) (σ : St) (Q : Exit → Env → St → Prop) : Prop :=
  ∀ e F, σ.F.le F → (∀ t, (∀ j, j < k → t ≠ dstB ops j) → e t = e0 t) → (∀ j, j < k → Φ j F (e (dstB ops j))) →
    (ops.size = k → Q .normal e ⟨F, σ.H⟩) ∧ (ops.size = k + 1 → ∃ op ty pos af, ops[k]? = some ⟨none, op, ty, pos, af, none⟩ ∧ OpX P n B ⟨none, op, ty, pos, af, none⟩ e ⟨F, σ.H⟩ fun _ σ' => Q .normal e σ')
/-- The same, by whether there is one. -/
def HendT (P : Program) (n : Nat) (B : Base) (ops : Array Oper) (k : Nat) (Φ : Nat → Heap → Value → Prop) (e0 : Env) (σ : St) (Q : Exit → Env → St → Prop) : Bool → Prop
  | false => ∀ e F, σ.F.le F → (∀ t, (∀ j, j < k → t ≠ dstB ops j) → e t = e0 t) → (∀ j, j < k → Φ j F (e (dstB ops j))) → Q .normal e ⟨F, σ.H⟩
  | true => ∀ e F, σ.F.le F → (∀ t, (∀ j, j < k → t ≠ dstB ops j) → e t = e0 t) → (∀ j, j < k → Φ j F (e (dstB ops j))) → ∃ op ty pos af, ops[k]? = some ⟨none, op, ty, pos, af, none⟩ ∧ OpX P n B ⟨none, op, ty, pos, af, none⟩ e ⟨F, σ.H⟩ fun _ σ' => Q .normal e σ'
theorem HendT.to {ops : Array Oper} {k : Nat} {Φ : Nat → Heap → Value → Prop} {Q : Exit → Env → St → Prop} {tail : Bool} (ht : Nat.beq ops.size (k + 1) = tail) (h : HendT P n B ops k Φ e0 σ Q tail) : Hend P n B ops k Φ e0 σ Q := by
  intro e F h1 h2 h3
  cases tail with
  | false => exact ⟨fun _ => h e F h1 h2 h3, fun hs => by rw [hs] at ht; simp at ht⟩
  | true => exact ⟨fun hs => by rw [hs] at ht; simp at ht, fun _ => h e F h1 h2 h3⟩
def freshB (ops : Array Oper) (k t : Nat) : Bool := (List.range k).all fun j => !(Nat.beq t (dstB ops j))
theorem he_of {ops : Array Oper} {k t : Nat} {e : Env} (he : ∀ t, (∀ j, j < k → t ≠ dstB ops j) → e t = e0 t) (h : freshB ops k t = true) : e t = e0 t :=
  he t fun j hj hh => by
    have := List.all_eq_true.1 h j (by simpa using hj)
    rw [← hh] at this
    simp at this
theorem lk_eq {e : Env} {t : Nat} {v : Value} (h : e t = v) : ev e (.tmp t) = v := h
theorem lk_old {e e0 : Env} {t : Nat} {v : Value} (h0 : e t = e0 t) (h : ev e0 (.tmp t) = v) : ev e (.tmp t) = v := h0.trans h
/-- A new block that is written no more. -/
theorem OpX_freeze {o : Oper} {e : Env} {K : Value → St → Prop} (h : OpX P n B o e σ fun v σ' => ∃ b ob, B.w0.heap.size ≤ b ∧ σ' = ⟨σ.F, (b, ob) :: σ.H⟩ ∧ ∀ F', σ.F.le F' → F' b = some ob → K v ⟨F', σ.H⟩) : OpX P n B o e σ K := by
  intro a w ha hw next Qx hnext
  refine h a w ha hw next Qx fun v σ' w' hK hw' => ?_
  obtain ⟨b, ob, hb, rfl, hK⟩ := hK
  have hn := (hw'.own (b, ob) (by simp)).2.1
  have hfz := hw'.freeze (i := 0) rfl hb
  exact hnext v _ w' (hK _ (grown_le hn) grown_here) hfz
theorem sl_box {α : Type} {F : Heap} {b T s m : Nat} {l : List Value} {enc : α → List Value} {xs : List α} (h : F b = some (bx T l)) (hl : l = xs.flatMap enc) (hm : xs.length = m) (hs : ∀ x, (enc x).length = s) (hlt : m < 281474976710656) : Sl F (.slice (some ⟨b, 0, none⟩) m m) s enc xs := by
  subst hl; subst hm
  exact Own.sl (E := T) (R := [(b, bx T (xs.flatMap enc))]) (own_box (flat_len hs xs)) hs (fun p hp => by simp at hp; subst hp; exact h) hlt
theorem depB_of {ops : Array Oper} {i : Nat} {o : Oper} (ho : ops[i]? = some o) {j : Nat} (h : depB ops i j = true) : ∃ x ∈ o.after, Region.binds .any x = true ∧ x.on = j := by
  unfold depB at h
  rw [ho] at h
  obtain ⟨x, hx, hb⟩ := Array.any_eq_true'.1 h
  simp only [Bool.and_eq_true, beq_iff_eq] at hb
  exact ⟨x, hx, hb.1, hb.2⟩
def undone (listed : Array Bool) : Nat := listed.toList.count false
theorem count_set : ∀ {l : List Bool} {i : Nat} (hi : i < l.length), l[i] = false → (l.set i true).count false + 1 = l.count false
  | [], i, hi, _ => by simp at hi
  | a :: l, 0, _, hv => by simp at hv; subst hv; simp
  | a :: l, i + 1, hi, hv => by
    have := count_set (l := l) (i := i) (by simpa using hi) (by simpa using hv)
    simp only [List.set_cons_succ, List.count_cons]
    omega
theorem undone_set {listed : Array Bool} {i : Nat} (h : listed.getD i true = false) : undone (listed.setIfInBounds i true) + 1 = undone listed := by
  have hi : i < listed.size := by
    rcases Nat.lt_or_ge i listed.size with h' | h'
    · exact h'
    · simp [Array.getD, Nat.not_lt.2 h'] at h
  have hv : listed.toList[i]'(by simpa using hi) = false := by simpa [Array.getD, hi] using h
  unfold undone
  rw [Array.toList_setIfInBounds]
  exact count_set (by simpa using hi) hv
theorem factB_op {ops : Array Oper} {k : Nat} (hB : factB n ops k = true) {i : Nat} (hi : i < k) : ∃ o d, ops[i]? = some o ∧ o.dst = some d ∧ d < n ∧ o.guard = none ∧ (∀ x ∈ o.after, Region.binds .any x = true → x.on < i) ∧ ∀ j, j < i → dstB ops j ≠ dstB ops i := by
  unfold factB at hB
  simp only [Bool.and_eq_true] at hB
  have h := List.all_eq_true.1 hB.1 i (by simpa using hi)
  split at h
  · rename_i o ho
    simp only [Bool.and_eq_true] at h
    obtain ⟨⟨⟨h1, h2⟩, h3⟩, h4⟩ := h
    split at h1
    · rename_i d hd
      refine ⟨o, d, ho, hd, by simpa using h1, by simpa using h2, fun x hx hb => ?_, fun j hj he => ?_⟩
      · have := Array.all_eq_true'.1 h3 x hx
        simpa [hb] using this
      · have := List.all_eq_true.1 h4 j (by simpa using hj)
        rw [he] at this
        simp at this
    · cases h1
  · cases h
theorem factB_end {ops : Array Oper} {k : Nat} (hB : factB n ops k = true) : ops.size = k ∨ (ops.size = k + 1 ∧ ∃ o, ops[k]? = some o ∧ o.dst = none ∧ o.guard = none ∧ (∀ x ∈ o.after, Region.binds .any x = true → x.on < k) ∧ ∀ j, j < k → depB ops k j = true) := by
  unfold factB at hB
  simp only [Bool.and_eq_true, Bool.or_eq_true, beq_iff_eq] at hB
  rcases hB.2 with h | ⟨h1, h2⟩
  · exact .inl h
  · refine .inr ⟨h1, ?_⟩
    split at h2
    · rename_i o ho
      simp only [Bool.and_eq_true] at h2
      obtain ⟨⟨⟨q1, q2⟩, q3⟩, q4⟩ := h2
      refine ⟨o, ho, by simpa using q1, by simpa using q2, fun x hx hb => ?_, fun j hj => ?_⟩
      · have := Array.all_eq_true'.1 q3 x hx
        simpa [hb] using this
      · exact List.all_eq_true.1 q4 j (by simpa using hj)
    · cases h2
theorem wpAny_facts {ops : Array Oper} {k : Nat} {Φ : Nat → Heap → Value → Prop} {Q : Exit → Env → St → Prop} (hB : factB n ops k = true) (hm : ∀ i F F' v, F.le F' → Φ i F v → Φ i F' v)
    (hops : AllTo (Hop P n B ops k Φ e0 σ) k) (hend : Hend P n B ops k Φ e0 σ Q) : ∀ (fuel : Nat) (listed : Array Bool) (a : Act) (w : World) (e : Env) (F : Heap), Fits n B a e → Holds B ⟨F, σ.H⟩ w → σ.F.le F →
      (∀ t, (∀ j, j < k → t ≠ dstB ops j) → e t = e0 t) → (∀ j, j < k → listed.getD j false = true → Φ j F (e (dstB ops j))) → listed.size = ops.size → listed.getD k false = false → undone listed = fuel →
      wpAny P .any ops (lift n B Q) fuel listed a w := by
  have hready : ∀ (listed : Array Bool), listed.size = ops.size → undone listed ≠ 0 → ∃ i, i ∈ Region.ready .any ops listed := by
    intro listed hsz hun
    have hex : ∃ i, i < listed.size ∧ listed.getD i false = false := by
      have : false ∈ listed.toList := by
        rw [← List.count_pos_iff]; unfold undone at hun; omega
      obtain ⟨i, hi, he⟩ := List.mem_iff_getElem.1 this
      exact ⟨i, by simpa using hi, by simp at hi; simp [Array.getD, hi]; simpa using he⟩
    obtain ⟨i, ⟨hi, hli⟩, hmin⟩ := least_exists hex
    refine ⟨i, mem_ready.2 ⟨by simp [Array.getD, hi] at hli ⊢; exact hli, ?_⟩⟩
    have hlt : ∀ j, j < i → listed.getD j false = true := fun j hj => by
      cases hc : listed.getD j false with
      | true => rfl
      | false => exact absurd (hmin j ⟨by omega, hc⟩) (by omega)
    by_cases hik : i < k
    · obtain ⟨o, d, h1, -, -, -, h5, -⟩ := factB_op hB hik
      exact ⟨o, h1, fun x hx hb => hlt _ (h5 x hx hb)⟩
    · rcases factB_end hB with h | ⟨h, o, h1, -, -, h4, -⟩
      · omega
      · have : i = k := by omega
        subst this
        exact ⟨o, h1, fun x hx hb => hlt _ (h4 x hx hb)⟩
  intro fuel
  induction fuel with
  | zero =>
    intro listed a w e F hf hw hF he hΦ hsz hk0 hun
    have hall : ∀ j, j < listed.size → listed.getD j false = true := fun j hj => by
      cases hc : listed.getD j false with
      | true => rfl
      | false =>
        have h1 : false ∈ listed.toList := List.mem_iff_getElem.2 ⟨j, by simpa using hj, by simp [Array.getD, hj] at hc; simpa using hc⟩
        rw [← List.count_pos_iff] at h1
        unfold undone at hun; omega
    have hsk : ops.size = k := by
      rcases factB_end hB with h | ⟨h, -⟩
      · exact h
      · have := hall k (by omega); rw [hk0] at this; cases this
    refine ⟨?_, B.ds, e, ⟨F, σ.H⟩, hf, hw, (hend e F hF he fun j hj => hΦ j hj (hall j (by omega))).1 hsk⟩
    cases hr : Region.ready .any ops listed with
    | nil => rfl
    | cons i l =>
      have : i ∈ Region.ready .any ops listed := by rw [hr]; simp
      obtain ⟨h1, o, ho, -⟩ := mem_ready.1 this
      have hi : i < listed.size := by rw [hsz]; exact (Array.getElem?_eq_some_iff.1 ho).1
      have h2 := hall i hi
      simp [Array.getD, hi] at h1 h2
      rw [h1] at h2; cases h2
  | succ fuel ih =>
    intro listed a w e F hf hw hF he hΦ hsz hk0 hun
    obtain ⟨i0, hi0⟩ := hready listed hsz (by omega)
    refine ⟨fun h => (by rw [h] at hi0; cases hi0), fun i hi => ?_⟩
    obtain ⟨h1, o, ho, hdeps⟩ := mem_ready.1 hi
    have hil : i < listed.size := by rw [hsz]; exact (Array.getElem?_eq_some_iff.1 ho).1
    have hun' := undone_set h1
    by_cases hik : i < k
    · obtain ⟨o', d', h2, h3, h4, h5, h6, h7⟩ := factB_op hB hik
      obtain ⟨d, op, ty, pos, af, q1, q2⟩ := hops.get i hik e F hF he fun j hj hjk => by
        obtain ⟨x, hx, hb, rfl⟩ := depB_of ho hj
        exact hΦ _ hjk (hdeps x hx hb)
      rw [q1] at ho
      cases ho
      rw [q1] at h2
      cases h2
      have hdd : dstB ops i = d := by unfold dstB; rw [q1]; rfl
      have hdn : d < n := by
        have : d = d' := by simpa using h3
        subst this; exact h4
      unfold wpOp
      simp only [q1]
      rw [if_pos (by simp [Region.wanted])]
      refine .inl (q2 a w hf hw _ _ fun v σ' w' hK hw' => ?_)
      obtain ⟨F', rfl, hle, hφ⟩ := hK
      refine ih (listed.setIfInBounds i true) _ w' (upd e d v) F' (hf.put hdn v) hw' (Heap.le_trans hF hle) (fun t ht => ?_) (fun j hj hlj => ?_) (by simpa using hsz) ?_ (by omega)
      · unfold upd
        rw [if_neg (fun h => ht i hik (by rw [h, hdd]))]
        exact he t ht
      · by_cases hji : j = i
        · subst hji
          rw [hdd]
          simp only [upd, if_true]
          exact hφ
        · have hne : dstB ops j ≠ d := by
            rw [← hdd]
            rcases Nat.lt_or_ge j i with h | h
            · exact h7 j h
            · obtain ⟨-, -, -, -, -, -, -, h8⟩ := factB_op hB hj
              exact (h8 i (by omega)).symm
          simp only [upd, if_neg hne]
          rw [getD_set_ne false (Ne.symm hji)] at hlj
          exact hm _ _ _ _ hle (hΦ j hj hlj)
      · rw [getD_set_ne false (by omega)]; exact hk0
    · rcases factB_end hB with h | ⟨h, o', q1, q2, q3, q4, q5⟩
      · omega
      · have hie : i = k := by omega
        subst hie
        rw [q1] at ho
        cases ho
        have hfull : ∀ j, j < i → listed.getD j false = true := fun j hj => by
          obtain ⟨x, hx, hb, rfl⟩ := depB_of q1 (q5 j hj)
          exact hdeps x hx hb
        obtain ⟨op, ty, pos, af, p1, p2⟩ := (hend e F hF he fun j hj => hΦ j hj (hfull j hj)).2 h
        rw [q1] at p1
        cases p1
        unfold wpOp
        simp only [q1]
        rw [if_pos (by simp [Region.wanted])]
        refine .inl (p2 a w hf hw _ _ fun v σ' w' hK hw' => ?_)
        have hz : fuel = 0 := by
          have hcnt : undone (listed.setIfInBounds i true) = 0 := by
            have hall : ∀ j, j < (listed.setIfInBounds i true).size → (listed.setIfInBounds i true).getD j false = true := fun j hj => by
              by_cases hji : j = i
              · subst hji; simp [Array.getD, hil]
              · rw [getD_set_ne false (Ne.symm hji)]
                exact hfull j (by simp at hj; omega)
            unfold undone
            rw [List.count_eq_zero]
            intro hmem
            obtain ⟨j, hj, hje⟩ := List.mem_iff_getElem.1 hmem
            have hj' : j < (listed.setIfInBounds i true).size := by simpa using hj
            have h9 := hall j hj'
            simp only [Array.getD, hj', dif_pos] at h9
            rw [Array.getElem_toList] at hje
            have h10 : (listed.setIfInBounds i true)[j]'hj' = true := h9
            rw [h10] at hje; cases hje
          omega
        subst hz
        refine ⟨?_, B.ds, e, σ', hf, hw', hK⟩
        cases hr : Region.ready .any ops (listed.setIfInBounds i true) with
        | nil => rfl
        | cons q l =>
          have hq : q ∈ Region.ready .any ops (listed.setIfInBounds i true) := by rw [hr]; simp
          obtain ⟨h1q, o, hoq, -⟩ := mem_ready.1 hq
          have hqs : q < listed.size := by rw [hsz]; exact (Array.getElem?_eq_some_iff.1 hoq).1
          by_cases hqi : q = i
          · subst hqi; simp [Array.getD, hil] at h1q
          · have h2 := hfull q (by omega)
            rw [getD_set_ne true (Ne.symm hqi)] at h1q
            simp [Array.getD, hqs] at h1q h2
            rw [h1q] at h2; cases h2
def AllMono : List (Heap → Value → Prop) → Prop
  | [] => True
  | p :: l => (∀ F F' v, F.le F' → p F v → p F' v) ∧ AllMono l
def phiOf : List (Heap → Value → Prop) → Nat → Heap → Value → Prop
  | [], _ => fun _ _ => True
  | p :: _, 0 => p
  | _ :: l, i + 1 => phiOf l i
theorem AllMono.phi : ∀ {l : List (Heap → Value → Prop)}, AllMono l → ∀ i F F' v, F.le F' → phiOf l i F v → phiOf l i F' v
  | [], _, _, _, _, _, _, h => h
  | _ :: _, h, 0, _, _, _, hF, hp => h.1 _ _ _ hF hp
  | _ :: _, h, i + 1, _, _, _, hF, hp => h.2.phi i _ _ _ hF hp
theorem WC_drawF {id : Nat} {l : List Oper} {Q : Exit → Env → St → Prop} (k : Nat) (hp : Plainly B.ro l) (hO : ∀ e σ, Q .outgrown e σ → False) (hm : P.follows .mixedOrders = true) (hB : factB n l.toArray k = true) (tail : Bool) (ht : Nat.beq l.toArray.size (k + 1) = tail)
    (φs : List (Heap → Value → Prop)) (hmono : AllMono φs)
    (hops : ∀ ds, AllTo (Hop P n (B.at ds) l.toArray k (phiOf φs) e0 σ) k) (hend : ∀ ds, HendT P n (B.at ds) l.toArray k (phiOf φs) e0 σ Q tail) : WC P n B (.region id l.toArray true) Q e0 σ := by
  intro ds a w ha hw
  refine wpIn_region_any hm (wpAny_in (lift_in hO) (by simpa using hp.mem) _ _ _ _ ?_)
  have := wpAny_facts (P := P) (e0 := e0) (σ := σ) (Q := Q) hB hmono.phi (hops ds) ((hend ds).to ht) l.toArray.size (Array.replicate l.toArray.size false) a _ e0 σ.F ha hw.drew (Heap.le_refl _) (fun _ _ => rfl) (fun j _ h => by simp [Array.getD] at h) (by simp) (by simp [Array.getD]) (by simp [undone, List.count_replicate])
  exact this
end
end Go.Proofs.Ytbcjfkcpfjccdaa
namespace Go.Proofs.Ytbcjfkcpfjccdaa
open Go.RowKit
theorem bd_46 : Body Try.prog 46 := body_of (by kernel_rfl)
theorem bd_79 : Body Try.prog 79 := body_of (by kernel_rfl)
theorem bt_27 : BuildT Try.prog 27 [.slice none 0 0, .slice none 0 0, .slice none 0 0, .slice none 0 0] [(0, 1), (1, 1), (2, 1), (3, 1)] := buildT_of zr_27 (by kernel_rfl) (by decide)
theorem bt_58 : BuildT Try.prog 58 [.int .i64 0, .int .i64 0, .int .i64 0, .int .i64 0] [(0, 1), (1, 1), (2, 1), (3, 1)] := buildT_of zr_58 (by kernel_rfl) (by decide)
theorem bt_62 : BuildT Try.prog 62 [.string ⟨#[]⟩, .int .i64 0, .int .i64 0, .int .i64 0, .bool false] [(0, 1), (1, 1), (2, 2), (4, 1)] := buildT_of zr_62 (by kernel_rfl) (by decide)
theorem bt_64 : BuildT Try.prog 64 [.string ⟨#[]⟩, .int .i64 0] [(0, 1), (1, 1)] := buildT_of zr_64 (by kernel_rfl) (by decide)
theorem bt_66 : BuildT Try.prog 66 [.int .i64 0, .bool false] [(0, 1), (1, 1)] := buildT_of zr_66 (by kernel_rfl) (by decide)
set_option maxRecDepth 100000 in
theorem span_ok {F : Heap} (a b : Int) : Ok Try.prog 46 [.int .i64 a, .int .i64 b].toArray F fun r _ => r = .agg #[.int .i64 a, .int .i64 b] := by
  refine Ok.intro Try.func46 rfl Try.ntmps46 rfl fun w0 => ?_
  refine WC_seq ?_
  refine WC_reg fun ds => ?_
  refine WL_x rfl (x_alloc zr_60 rfl fun b1 hb1 nb1 => ?_)
  refine WL_nil ?_
  refine then_n ?_
  refine WC_seq ?_
  refine WC_reg fun ds => ?_
  refine WL_q rfl (q_move (lk1 rfl <| lk_entry rfl)) ?_
  refine WL_q rfl (q_move (lk2 rfl <| lk_entry rfl)) ?_
  refine WL_q rfl (q_build bt_60 (.cons (lk1 rfl <| lk0) rfl (.cons (lk0) rfl .nil)) (.cons rfl rfl (Nat.le_of_ble_eq_true rfl) (.cons (.here) .nil) (.cons rfl rfl (Nat.le_of_ble_eq_true rfl) (.cons (.next <| .here) .nil) .nil))) ?_
  refine WL_x0 (x_storeA sz_60 (lk2 rfl <| lk1 rfl <| lk0) (lk0) (i := 0) rfl rfl rfl rfl (by simp [Value.oneCell']) (.here) ?_)
  refine WL_nil ?_
  refine then_n ?_
  refine WC_ret ?_
  refine post_ret rfl (.agg agg_60 (lk2 rfl <| lk1 rfl <| lk0) rfl rfl (own_whole 0 rfl) .nil) ?_
  rfl
set_option maxRecDepth 100000 in
theorem request_ok {F : Heap} (a b c d : Int) : Ok Try.prog 79 [.int .i64 a, .int .i64 b, .int .i64 c, .int .i64 d].toArray F fun r _ => r = .agg #[.int .i64 a, .int .i64 b, .int .i64 c, .int .i64 d] := by
  refine Ok.intro Try.func79 rfl Try.ntmps79 rfl fun w0 => ?_
  refine WC_seq ?_
  refine WC_reg fun ds => ?_
  refine WL_x rfl (x_alloc zr_58 rfl fun b1 hb1 nb1 => ?_)
  refine WL_nil ?_
  refine then_n ?_
  refine WC_seq ?_
  refine WC_reg fun ds => ?_
  refine WL_q rfl (q_move (lk1 rfl <| lk_entry rfl)) ?_
  refine WL_q rfl (q_move (lk2 rfl <| lk_entry rfl)) ?_
  refine WL_q rfl (q_move (lk2 rfl <| lk1 rfl <| lk_entry rfl)) ?_
  refine WL_q rfl (q_move (lk4 rfl <| lk_entry rfl)) ?_
  refine WL_q rfl (q_build bt_58 (.cons (lk2 rfl <| lk1 rfl <| lk0) rfl (.cons (lk2 rfl <| lk0) rfl (.cons (lk1 rfl <| lk0) rfl (.cons (lk0) rfl .nil)))) (.cons rfl rfl (Nat.le_of_ble_eq_true rfl) (.cons (.here) .nil) (.cons rfl rfl (Nat.le_of_ble_eq_true rfl) (.cons (.next <| .here) .nil) (.cons rfl rfl (Nat.le_of_ble_eq_true rfl) (.cons (.next <| .next <| .here) .nil) (.cons rfl rfl (Nat.le_of_ble_eq_true rfl) (.cons (.next <| .next <| .next <| .here) .nil) .nil))))) ?_
  refine WL_x0 (x_storeA sz_58 (lk4 rfl <| lk1 rfl <| lk0) (lk0) (i := 0) rfl rfl rfl rfl (by simp [Value.oneCell']) (.here) ?_)
  refine WL_nil ?_
  refine then_n ?_
  refine WC_ret ?_
  refine post_ret rfl (.agg agg_58 (lk4 rfl <| lk1 rfl <| lk0) rfl rfl (own_whole 0 rfl) .nil) ?_
  rfl
set_option maxRecDepth 100000 in
theorem room_ok {F : Heap} {n : Nat} (hn : n ≤ seats3.length) : Ok Try.prog 36 [.int .i64 (n : Int)].toArray F fun u F' => ∃ vb vr vs vq, u = .agg #[vb, vr, vs, vq] ∧ RoomR F' vb vr vs vq (roomX n) := by
  refine Ok.intro Try.func36 rfl Try.ntmps36 rfl fun w0 => ?_
  refine WC_seq ?_
  refine WC_reg fun ds => ?_
  refine WL_x rfl (x_alloc zr_27 rfl fun b1 hb1 nb1 => ?_)
  refine WL_nil ?_
  refine then_n ?_
  refine WC_seq ?_
  refine WC_drawF 23 (.inl rfl) (fun _ _ h => h) (by kernel_rfl) (by kernel_rfl) true rfl ([fun F v => v = .agg #[.int .i64 40, .int .i64 60], fun F v => v = .agg (Book.enc bkA).toArray, fun F v => v = .agg #[.int .i64 10, .int .i64 10], fun F v => v = .agg (Book.enc bkP).toArray, fun F v => v = .agg #[.int .i64 200, .int .i64 200], fun F v => v = .agg (Book.enc bkN).toArray, fun F v => Sl F v 5 Book.enc [bkA, bkP, bkN], fun F v => v = .agg (Rdr.enc rdA).toArray, fun F v => v = .agg (Rdr.enc rdB).toArray, fun F v => Sl F v 2 Rdr.enc [rdA, rdB], fun F v => v = .agg (Seat.enc ⟨10, false⟩).toArray, fun F v => v = .agg (Seat.enc ⟨4, true⟩).toArray, fun F v => v = .agg (Seat.enc ⟨5, false⟩).toArray, fun F v => Sl F v 2 Seat.enc seats3, fun F v => v = .int .i64 (n : Int), fun F v => Sl F v 2 Seat.enc (seats3.take n), fun F v => v = .agg #[.int .i64 0, .int .i64 0, .int .i64 6, .int .i64 20], fun F v => v = .agg #[.int .i64 1, .int .i64 1, .int .i64 2, .int .i64 30], fun F v => v = .agg #[.int .i64 0, .int .i64 2, .int .i64 8, .int .i64 10], fun F v => v = .agg #[.int .i64 0, .int .i64 1, .int .i64 1, .int .i64 50], fun F v => v = .agg #[.int .i64 1, .int .i64 0, .int .i64 4, .int .i64 15], fun F v => Sl F v 4 Req.enc reqs5, fun F v => ∃ vb vr vs vq, v = .agg #[vb, vr, vs, vq] ∧ RoomR F vb vr vs vq (roomX n)]) (⟨fun F F2 v hF h => h, fun F F2 v hF h => h, fun F F2 v hF h => h, fun F F2 v hF h => h, fun F F2 v hF h => h, fun F F2 v hF h => h, fun F F2 v hF h => h.mono hF, fun F F2 v hF h => h, fun F F2 v hF h => h, fun F F2 v hF h => h.mono hF, fun F F2 v hF h => h, fun F F2 v hF h => h, fun F F2 v hF h => h, fun F F2 v hF h => h.mono hF, fun F F2 v hF h => h, fun F F2 v hF h => h.mono hF, fun F F2 v hF h => h, fun F F2 v hF h => h, fun F F2 v hF h => h, fun F F2 v hF h => h, fun F F2 v hF h => h, fun F F2 v hF h => h.mono hF, fun F F2 v hF h => h.imp fun vb h => h.imp fun vr h => h.imp fun vs h => h.imp fun vq h => ⟨h.1, h.2.mono hF⟩, trivial⟩) (fun ds => ?_) (fun ds => ?_)
  ·
   refine ⟨⟨⟨⟨⟨⟨⟨⟨⟨⟨⟨⟨⟨⟨⟨⟨⟨⟨⟨⟨⟨⟨⟨trivial, ?_⟩, ?_⟩, ?_⟩, ?_⟩, ?_⟩, ?_⟩, ?_⟩, ?_⟩, ?_⟩, ?_⟩, ?_⟩, ?_⟩, ?_⟩, ?_⟩, ?_⟩, ?_⟩, ?_⟩, ?_⟩, ?_⟩, ?_⟩, ?_⟩, ?_⟩, ?_⟩
   ·
    intro e1 F1 hF1 he hj
    refine ⟨_, _, _, _, _, rfl, ?_⟩
    refine x_quiet (q_call bd_46 lk_func (.cons lk_const (.cons lk_const .nil)) (span_ok _ _) (fun _ _ h => h)) ⟨_, rfl, Heap.le_refl _, rfl⟩
   ·
    intro e1 F1 hF1 he hj
    have g3 : (e1 3) = .agg #[.int .i64 40, .int .i64 60] := hj 0 (by kernel_rfl) (by decide)
    refine ⟨_, _, _, _, _, rfl, ?_⟩
    refine x_quiet (q_build bt_62 (.cons lk_const rfl (.cons lk_const rfl (.cons (lk_eq g3) rfl (.cons lk_const rfl .nil)))) (.cons rfl rfl (Nat.le_of_ble_eq_true rfl) (.cons (.here) .nil) (.cons rfl rfl (Nat.le_of_ble_eq_true rfl) (.cons (.next <| .here) .nil) (.cons rfl rfl (Nat.le_of_ble_eq_true rfl) (.cons (.next <| .next <| .here) (.cons (.next <| .next <| .next <| .here) .nil)) (.cons rfl rfl (Nat.le_of_ble_eq_true rfl) (.cons (.next <| .next <| .next <| .next <| .here) .nil) .nil))))).quiet ⟨_, rfl, Heap.le_refl _, rfl⟩
   ·
    intro e1 F1 hF1 he hj
    have g3 : (e1 3) = .agg #[.int .i64 40, .int .i64 60] := hj 0 (by kernel_rfl) (by decide)
    refine ⟨_, _, _, _, _, rfl, ?_⟩
    refine x_quiet (q_call bd_46 lk_func (.cons lk_const (.cons lk_const .nil)) (span_ok _ _) (fun _ _ h => h)) ⟨_, rfl, Heap.le_refl _, rfl⟩
   ·
    intro e1 F1 hF1 he hj
    have g5 : (e1 5) = .agg #[.int .i64 10, .int .i64 10] := hj 2 (by kernel_rfl) (by decide)
    refine ⟨_, _, _, _, _, rfl, ?_⟩
    refine x_quiet (q_build bt_62 (.cons lk_const rfl (.cons lk_const rfl (.cons (lk_eq g5) rfl .nil))) (.cons rfl rfl (Nat.le_of_ble_eq_true rfl) (.cons (.here) .nil) (.cons rfl rfl (Nat.le_of_ble_eq_true rfl) (.cons (.next <| .here) .nil) (.cons rfl rfl (Nat.le_of_ble_eq_true rfl) (.cons (.next <| .next <| .here) (.cons (.next <| .next <| .next <| .here) .nil)) .nil)))).quiet ⟨_, rfl, Heap.le_refl _, rfl⟩
   ·
    intro e1 F1 hF1 he hj
    have g5 : (e1 5) = .agg #[.int .i64 10, .int .i64 10] := hj 2 (by kernel_rfl) (by decide)
    refine ⟨_, _, _, _, _, rfl, ?_⟩
    refine x_quiet (q_call bd_46 lk_func (.cons lk_const (.cons lk_const .nil)) (span_ok _ _) (fun _ _ h => h)) ⟨_, rfl, Heap.le_refl _, rfl⟩
   ·
    intro e1 F1 hF1 he hj
    have g7 : (e1 7) = .agg #[.int .i64 200, .int .i64 200] := hj 4 (by kernel_rfl) (by decide)
    refine ⟨_, _, _, _, _, rfl, ?_⟩
    refine x_quiet (q_build bt_62 (.cons lk_const rfl (.cons lk_const rfl (.cons (lk_eq g7) rfl .nil))) (.cons rfl rfl (Nat.le_of_ble_eq_true rfl) (.cons (.here) .nil) (.cons rfl rfl (Nat.le_of_ble_eq_true rfl) (.cons (.next <| .here) .nil) (.cons rfl rfl (Nat.le_of_ble_eq_true rfl) (.cons (.next <| .next <| .here) (.cons (.next <| .next <| .next <| .here) .nil)) .nil)))).quiet ⟨_, rfl, Heap.le_refl _, rfl⟩
   ·
    intro e1 F1 hF1 he hj
    have g4 : (e1 4) = .agg (Book.enc bkA).toArray := hj 1 (by kernel_rfl) (by decide)
    have g6 : (e1 6) = .agg (Book.enc bkP).toArray := hj 3 (by kernel_rfl) (by decide)
    have g8 : (e1 8) = .agg (Book.enc bkN).toArray := hj 5 (by kernel_rfl) (by decide)
    refine ⟨_, _, _, _, _, rfl, ?_⟩
    refine OpX_freeze (x_buildN (offs := [(0, 5), (5, 5), (10, 5)]) (zl := [.string ⟨#[]⟩, .int .i64 0, .int .i64 0, .int .i64 0, .bool false, .string ⟨#[]⟩, .int .i64 0, .int .i64 0, .int .i64 0, .bool false, .string ⟨#[]⟩, .int .i64 0, .int .i64 0, .int .i64 0, .bool false]) sl_22 zr_62 rfl (.cons (lk_eq g4) rfl (.cons (lk_eq g6) rfl (.cons (lk_eq g8) rfl .nil))) (by intro i p h; rcases i with _ | _ | _ | i <;> simp at h <;> subst h <;> rfl) (.cons rfl rfl (Nat.le_of_ble_eq_true rfl) (.cons (.here) (.cons (.next <| .here) (.cons (.next <| .next <| .here) (.cons (.next <| .next <| .next <| .here) (.cons (.next <| .next <| .next <| .next <| .here) .nil))))) (.cons rfl rfl (Nat.le_of_ble_eq_true rfl) (.cons (.next <| .next <| .next <| .next <| .next <| .here) (.cons (.next <| .next <| .next <| .next <| .next <| .next <| .here) (.cons (.next <| .next <| .next <| .next <| .next <| .next <| .next <| .here) (.cons (.next <| .next <| .next <| .next <| .next <| .next <| .next <| .next <| .here) (.cons (.next <| .next <| .next <| .next <| .next <| .next <| .next <| .next <| .next <| .here) .nil))))) (.cons rfl rfl (Nat.le_of_ble_eq_true rfl) (.cons (.next <| .next <| .next <| .next <| .next <| .next <| .next <| .next <| .next <| .next <| .here) (.cons (.next <| .next <| .next <| .next <| .next <| .next <| .next <| .next <| .next <| .next <| .next <| .here) (.cons (.next <| .next <| .next <| .next <| .next <| .next <| .next <| .next <| .next <| .next <| .next <| .next <| .here) (.cons (.next <| .next <| .next <| .next <| .next <| .next <| .next <| .next <| .next <| .next <| .next <| .next <| .next <| .here) (.cons (.next <| .next <| .next <| .next <| .next <| .next <| .next <| .next <| .next <| .next <| .next <| .next <| .next <| .next <| .here) .nil))))) .nil))) (by decide) (by decide) fun b hb nb => ⟨b, _, hb, rfl, fun F2 hF2 hz => ⟨F2, rfl, hF2, (sl_box (xs := [bkA, bkP, bkN]) hz rfl rfl (fun _ => rfl) (by decide))⟩⟩)
   ·
    intro e1 F1 hF1 he hj
    refine ⟨_, _, _, _, _, rfl, ?_⟩
    refine x_quiet (q_build bt_64 (.cons lk_const rfl (.cons lk_const rfl .nil)) (.cons rfl rfl (Nat.le_of_ble_eq_true rfl) (.cons (.here) .nil) (.cons rfl rfl (Nat.le_of_ble_eq_true rfl) (.cons (.next <| .here) .nil) .nil))).quiet ⟨_, rfl, Heap.le_refl _, rfl⟩
   ·
    intro e1 F1 hF1 he hj
    refine ⟨_, _, _, _, _, rfl, ?_⟩
    refine x_quiet (q_build bt_64 (.cons lk_const rfl (.cons lk_const rfl .nil)) (.cons rfl rfl (Nat.le_of_ble_eq_true rfl) (.cons (.here) .nil) (.cons rfl rfl (Nat.le_of_ble_eq_true rfl) (.cons (.next <| .here) .nil) .nil))).quiet ⟨_, rfl, Heap.le_refl _, rfl⟩
   ·
    intro e1 F1 hF1 he hj
    have g10 : (e1 10) = .agg (Rdr.enc rdA).toArray := hj 7 (by kernel_rfl) (by decide)
    have g11 : (e1 11) = .agg (Rdr.enc rdB).toArray := hj 8 (by kernel_rfl) (by decide)
    refine ⟨_, _, _, _, _, rfl, ?_⟩
    refine OpX_freeze (x_buildN (offs := [(0, 2), (2, 2)]) (zl := [.string ⟨#[]⟩, .int .i64 0, .string ⟨#[]⟩, .int .i64 0]) sl_23 zr_64 rfl (.cons (lk_eq g10) rfl (.cons (lk_eq g11) rfl .nil)) (by intro i p h; rcases i with _ | _ | i <;> simp at h <;> subst h <;> rfl) (.cons rfl rfl (Nat.le_of_ble_eq_true rfl) (.cons (.here) (.cons (.next <| .here) .nil)) (.cons rfl rfl (Nat.le_of_ble_eq_true rfl) (.cons (.next <| .next <| .here) (.cons (.next <| .next <| .next <| .here) .nil)) .nil)) (by decide) (by decide) fun b hb nb => ⟨b, _, hb, rfl, fun F2 hF2 hz => ⟨F2, rfl, hF2, (sl_box (xs := [rdA, rdB]) hz rfl rfl (fun _ => rfl) (by decide))⟩⟩)
   ·
    intro e1 F1 hF1 he hj
    refine ⟨_, _, _, _, _, rfl, ?_⟩
    refine x_quiet (q_build bt_66 (.cons lk_const rfl .nil) (.cons rfl rfl (Nat.le_of_ble_eq_true rfl) (.cons (.here) .nil) .nil)).quiet ⟨_, rfl, Heap.le_refl _, rfl⟩
   ·
    intro e1 F1 hF1 he hj
    refine ⟨_, _, _, _, _, rfl, ?_⟩
    refine x_quiet (q_build bt_66 (.cons lk_const rfl (.cons lk_const rfl .nil)) (.cons rfl rfl (Nat.le_of_ble_eq_true rfl) (.cons (.here) .nil) (.cons rfl rfl (Nat.le_of_ble_eq_true rfl) (.cons (.next <| .here) .nil) .nil))).quiet ⟨_, rfl, Heap.le_refl _, rfl⟩
   ·
    intro e1 F1 hF1 he hj
    refine ⟨_, _, _, _, _, rfl, ?_⟩
    refine x_quiet (q_build bt_66 (.cons lk_const rfl .nil) (.cons rfl rfl (Nat.le_of_ble_eq_true rfl) (.cons (.here) .nil) .nil)).quiet ⟨_, rfl, Heap.le_refl _, rfl⟩
   ·
    intro e1 F1 hF1 he hj
    have g13 : (e1 13) = .agg (Seat.enc ⟨10, false⟩).toArray := hj 10 (by kernel_rfl) (by decide)
    have g14 : (e1 14) = .agg (Seat.enc ⟨4, true⟩).toArray := hj 11 (by kernel_rfl) (by decide)
    have g15 : (e1 15) = .agg (Seat.enc ⟨5, false⟩).toArray := hj 12 (by kernel_rfl) (by decide)
    refine ⟨_, _, _, _, _, rfl, ?_⟩
    refine OpX_freeze (x_buildN (offs := [(0, 2), (2, 2), (4, 2)]) (zl := [.int .i64 0, .bool false, .int .i64 0, .bool false, .int .i64 0, .bool false]) sl_24 zr_66 rfl (.cons (lk_eq g13) rfl (.cons (lk_eq g14) rfl (.cons (lk_eq g15) rfl .nil))) (by intro i p h; rcases i with _ | _ | _ | i <;> simp at h <;> subst h <;> rfl) (.cons rfl rfl (Nat.le_of_ble_eq_true rfl) (.cons (.here) (.cons (.next <| .here) .nil)) (.cons rfl rfl (Nat.le_of_ble_eq_true rfl) (.cons (.next <| .next <| .here) (.cons (.next <| .next <| .next <| .here) .nil)) (.cons rfl rfl (Nat.le_of_ble_eq_true rfl) (.cons (.next <| .next <| .next <| .next <| .here) (.cons (.next <| .next <| .next <| .next <| .next <| .here) .nil)) .nil))) (by decide) (by decide) fun b hb nb => ⟨b, _, hb, rfl, fun F2 hF2 hz => ⟨F2, rfl, hF2, (sl_box (xs := seats3) hz rfl rfl (fun _ => rfl) (by decide))⟩⟩)
   ·
    intro e1 F1 hF1 he hj
    refine ⟨_, _, _, _, _, rfl, ?_⟩
    refine x_quiet (q_move (lk_old (he_of he (by kernel_rfl)) <| lk1 rfl <| lk_entry rfl)).quiet ⟨_, rfl, Heap.le_refl _, rfl⟩
   ·
    intro e1 F1 hF1 he hj
    have g16 : Sl F1 (e1 16) 2 Seat.enc seats3 := hj 13 (by kernel_rfl) (by decide)
    have g17 : (e1 17) = .int .i64 (n : Int) := hj 14 (by kernel_rfl) (by decide)
    refine ⟨_, _, _, _, _, rfl, ?_⟩
    refine x_quiet (q_sliceTo sl_24 (lk_eq rfl) g16.plain (lk_eq g17) (k := n) rfl hn).quiet ⟨_, rfl, Heap.le_refl _, (g16.to (k := n) hn)⟩
   ·
    intro e1 F1 hF1 he hj
    have g7 : (e1 7) = .agg #[.int .i64 200, .int .i64 200] := hj 4 (by kernel_rfl) (by decide)
    refine ⟨_, _, _, _, _, rfl, ?_⟩
    refine x_quiet (q_call bd_79 lk_func (.cons lk_const (.cons lk_const (.cons lk_const (.cons lk_const .nil)))) (request_ok _ _ _ _) (fun _ _ h => h)) ⟨_, rfl, Heap.le_refl _, rfl⟩
   ·
    intro e1 F1 hF1 he hj
    have g19 : (e1 19) = .agg #[.int .i64 0, .int .i64 0, .int .i64 6, .int .i64 20] := hj 16 (by kernel_rfl) (by decide)
    refine ⟨_, _, _, _, _, rfl, ?_⟩
    refine x_quiet (q_call bd_79 lk_func (.cons lk_const (.cons lk_const (.cons lk_const (.cons lk_const .nil)))) (request_ok _ _ _ _) (fun _ _ h => h)) ⟨_, rfl, Heap.le_refl _, rfl⟩
   ·
    intro e1 F1 hF1 he hj
    have g20 : (e1 20) = .agg #[.int .i64 1, .int .i64 1, .int .i64 2, .int .i64 30] := hj 17 (by kernel_rfl) (by decide)
    refine ⟨_, _, _, _, _, rfl, ?_⟩
    refine x_quiet (q_call bd_79 lk_func (.cons lk_const (.cons lk_const (.cons lk_const (.cons lk_const .nil)))) (request_ok _ _ _ _) (fun _ _ h => h)) ⟨_, rfl, Heap.le_refl _, rfl⟩
   ·
    intro e1 F1 hF1 he hj
    have g21 : (e1 21) = .agg #[.int .i64 0, .int .i64 2, .int .i64 8, .int .i64 10] := hj 18 (by kernel_rfl) (by decide)
    refine ⟨_, _, _, _, _, rfl, ?_⟩
    refine x_quiet (q_call bd_79 lk_func (.cons lk_const (.cons lk_const (.cons lk_const (.cons lk_const .nil)))) (request_ok _ _ _ _) (fun _ _ h => h)) ⟨_, rfl, Heap.le_refl _, rfl⟩
   ·
    intro e1 F1 hF1 he hj
    have g22 : (e1 22) = .agg #[.int .i64 0, .int .i64 1, .int .i64 1, .int .i64 50] := hj 19 (by kernel_rfl) (by decide)
    refine ⟨_, _, _, _, _, rfl, ?_⟩
    refine x_quiet (q_call bd_79 lk_func (.cons lk_const (.cons lk_const (.cons lk_const (.cons lk_const .nil)))) (request_ok _ _ _ _) (fun _ _ h => h)) ⟨_, rfl, Heap.le_refl _, rfl⟩
   ·
    intro e1 F1 hF1 he hj
    have g19 : (e1 19) = .agg #[.int .i64 0, .int .i64 0, .int .i64 6, .int .i64 20] := hj 16 (by kernel_rfl) (by decide)
    have g20 : (e1 20) = .agg #[.int .i64 1, .int .i64 1, .int .i64 2, .int .i64 30] := hj 17 (by kernel_rfl) (by decide)
    have g21 : (e1 21) = .agg #[.int .i64 0, .int .i64 2, .int .i64 8, .int .i64 10] := hj 18 (by kernel_rfl) (by decide)
    have g22 : (e1 22) = .agg #[.int .i64 0, .int .i64 1, .int .i64 1, .int .i64 50] := hj 19 (by kernel_rfl) (by decide)
    have g23 : (e1 23) = .agg #[.int .i64 1, .int .i64 0, .int .i64 4, .int .i64 15] := hj 20 (by kernel_rfl) (by decide)
    refine ⟨_, _, _, _, _, rfl, ?_⟩
    refine OpX_freeze (x_buildN (offs := [(0, 4), (4, 4), (8, 4), (12, 4), (16, 4)]) (zl := [.int .i64 0, .int .i64 0, .int .i64 0, .int .i64 0, .int .i64 0, .int .i64 0, .int .i64 0, .int .i64 0, .int .i64 0, .int .i64 0, .int .i64 0, .int .i64 0, .int .i64 0, .int .i64 0, .int .i64 0, .int .i64 0, .int .i64 0, .int .i64 0, .int .i64 0, .int .i64 0]) sl_25 zr_58 rfl (.cons (lk_eq g19) rfl (.cons (lk_eq g20) rfl (.cons (lk_eq g21) rfl (.cons (lk_eq g22) rfl (.cons (lk_eq g23) rfl .nil))))) (by intro i p h; rcases i with _ | _ | _ | _ | _ | i <;> simp at h <;> subst h <;> rfl) (.cons rfl rfl (Nat.le_of_ble_eq_true rfl) (.cons (.here) (.cons (.next <| .here) (.cons (.next <| .next <| .here) (.cons (.next <| .next <| .next <| .here) .nil)))) (.cons rfl rfl (Nat.le_of_ble_eq_true rfl) (.cons (.next <| .next <| .next <| .next <| .here) (.cons (.next <| .next <| .next <| .next <| .next <| .here) (.cons (.next <| .next <| .next <| .next <| .next <| .next <| .here) (.cons (.next <| .next <| .next <| .next <| .next <| .next <| .next <| .here) .nil)))) (.cons rfl rfl (Nat.le_of_ble_eq_true rfl) (.cons (.next <| .next <| .next <| .next <| .next <| .next <| .next <| .next <| .here) (.cons (.next <| .next <| .next <| .next <| .next <| .next <| .next <| .next <| .next <| .here) (.cons (.next <| .next <| .next <| .next <| .next <| .next <| .next <| .next <| .next <| .next <| .here) (.cons (.next <| .next <| .next <| .next <| .next <| .next <| .next <| .next <| .next <| .next <| .next <| .here) .nil)))) (.cons rfl rfl (Nat.le_of_ble_eq_true rfl) (.cons (.next <| .next <| .next <| .next <| .next <| .next <| .next <| .next <| .next <| .next <| .next <| .next <| .here) (.cons (.next <| .next <| .next <| .next <| .next <| .next <| .next <| .next <| .next <| .next <| .next <| .next <| .next <| .here) (.cons (.next <| .next <| .next <| .next <| .next <| .next <| .next <| .next <| .next <| .next <| .next <| .next <| .next <| .next <| .here) (.cons (.next <| .next <| .next <| .next <| .next <| .next <| .next <| .next <| .next <| .next <| .next <| .next <| .next <| .next <| .next <| .here) .nil)))) (.cons rfl rfl (Nat.le_of_ble_eq_true rfl) (.cons (.next <| .next <| .next <| .next <| .next <| .next <| .next <| .next <| .next <| .next <| .next <| .next <| .next <| .next <| .next <| .next <| .here) (.cons (.next <| .next <| .next <| .next <| .next <| .next <| .next <| .next <| .next <| .next <| .next <| .next <| .next <| .next <| .next <| .next <| .next <| .here) (.cons (.next <| .next <| .next <| .next <| .next <| .next <| .next <| .next <| .next <| .next <| .next <| .next <| .next <| .next <| .next <| .next <| .next <| .next <| .here) (.cons (.next <| .next <| .next <| .next <| .next <| .next <| .next <| .next <| .next <| .next <| .next <| .next <| .next <| .next <| .next <| .next <| .next <| .next <| .next <| .here) .nil)))) .nil))))) (by decide) (by decide) fun b hb nb => ⟨b, _, hb, rfl, fun F2 hF2 hz => ⟨F2, rfl, hF2, (sl_box (xs := reqs5) hz rfl rfl (fun _ => rfl) (by decide))⟩⟩)
   ·
    intro e1 F1 hF1 he hj
    have g9 : Sl F1 (e1 9) 5 Book.enc [bkA, bkP, bkN] := hj 6 (by kernel_rfl) (by decide)
    have g12 : Sl F1 (e1 12) 2 Rdr.enc [rdA, rdB] := hj 9 (by kernel_rfl) (by decide)
    have g18 : Sl F1 (e1 18) 2 Seat.enc (seats3.take n) := hj 15 (by kernel_rfl) (by decide)
    have g24 : Sl F1 (e1 24) 4 Req.enc reqs5 := hj 21 (by kernel_rfl) (by decide)
    refine ⟨_, _, _, _, _, rfl, ?_⟩
    refine x_quiet (q_build bt_27 (.cons (lk_eq rfl) (cells_one g9.plain.one) (.cons (lk_eq rfl) (cells_one g12.plain.one) (.cons (lk_eq rfl) (cells_one g18.plain.one) (.cons (lk_eq rfl) (cells_one g24.plain.one) .nil)))) (.cons rfl rfl (Nat.le_of_ble_eq_true rfl) (.cons (.here) .nil) (.cons rfl rfl (Nat.le_of_ble_eq_true rfl) (.cons (.next <| .here) .nil) (.cons rfl rfl (Nat.le_of_ble_eq_true rfl) (.cons (.next <| .next <| .here) .nil) (.cons rfl rfl (Nat.le_of_ble_eq_true rfl) (.cons (.next <| .next <| .next <| .here) .nil) .nil))))).quiet ⟨_, rfl, Heap.le_refl _, ⟨_, _, _, _, rfl, ⟨g9, g12, g18, g24⟩⟩⟩
  intro e5 F2 hF3 he4 hj
  have g3 : (e5 3) = .agg #[.int .i64 40, .int .i64 60] := hj 0 (by decide)
  have g4 : (e5 4) = .agg (Book.enc bkA).toArray := hj 1 (by decide)
  have g5 : (e5 5) = .agg #[.int .i64 10, .int .i64 10] := hj 2 (by decide)
  have g6 : (e5 6) = .agg (Book.enc bkP).toArray := hj 3 (by decide)
  have g7 : (e5 7) = .agg #[.int .i64 200, .int .i64 200] := hj 4 (by decide)
  have g8 : (e5 8) = .agg (Book.enc bkN).toArray := hj 5 (by decide)
  have g9 : Sl F2 (e5 9) 5 Book.enc [bkA, bkP, bkN] := hj 6 (by decide)
  have g10 : (e5 10) = .agg (Rdr.enc rdA).toArray := hj 7 (by decide)
  have g11 : (e5 11) = .agg (Rdr.enc rdB).toArray := hj 8 (by decide)
  have g12 : Sl F2 (e5 12) 2 Rdr.enc [rdA, rdB] := hj 9 (by decide)
  have g13 : (e5 13) = .agg (Seat.enc ⟨10, false⟩).toArray := hj 10 (by decide)
  have g14 : (e5 14) = .agg (Seat.enc ⟨4, true⟩).toArray := hj 11 (by decide)
  have g15 : (e5 15) = .agg (Seat.enc ⟨5, false⟩).toArray := hj 12 (by decide)
  have g16 : Sl F2 (e5 16) 2 Seat.enc seats3 := hj 13 (by decide)
  have g17 : (e5 17) = .int .i64 (n : Int) := hj 14 (by decide)
  have g18 : Sl F2 (e5 18) 2 Seat.enc (seats3.take n) := hj 15 (by decide)
  have g19 : (e5 19) = .agg #[.int .i64 0, .int .i64 0, .int .i64 6, .int .i64 20] := hj 16 (by decide)
  have g20 : (e5 20) = .agg #[.int .i64 1, .int .i64 1, .int .i64 2, .int .i64 30] := hj 17 (by decide)
  have g21 : (e5 21) = .agg #[.int .i64 0, .int .i64 2, .int .i64 8, .int .i64 10] := hj 18 (by decide)
  have g22 : (e5 22) = .agg #[.int .i64 0, .int .i64 1, .int .i64 1, .int .i64 50] := hj 19 (by decide)
  have g23 : (e5 23) = .agg #[.int .i64 1, .int .i64 0, .int .i64 4, .int .i64 15] := hj 20 (by decide)
  have g24 : Sl F2 (e5 24) 4 Req.enc reqs5 := hj 21 (by decide)
  have g25 : ∃ vb vr vs vq, (e5 25) = .agg #[vb, vr, vs, vq] ∧ RoomR F2 vb vr vs vq (roomX n) := hj 22 (by decide)
  obtain ⟨vb, vr, vs, vq, g25, hrm⟩ := g25
  refine ⟨_, _, _, _, rfl, ?_⟩
  refine x_storeA sz_27 (lk_old (he_of he4 (by kernel_rfl)) <| lk0) (lk_eq g25) (i := 0) rfl rfl rfl rfl hrm.ones (.here) ?_
  refine then_n ?_
  refine WC_ret ?_
  refine post_ret rfl (.agg agg_27 (lk_old (he_of he4 (by kernel_rfl)) <| lk0) rfl rfl (own_whole 0 rfl) .nil) ?_
  exact ⟨_, _, _, _, rfl, hrm⟩
end Go.Proofs.Ytbcjfkcpfjccdaa
namespace Go.Proofs.Ytbcjfkcpfjccdaa
open Go.RowKit
theorem ev_w1 : whyE (roomX 3) 0 0 = (3, 0) := by kernel_rfl
theorem ev_w2 : whyE (roomX 3) 3 1 = (1, 0) := by kernel_rfl
theorem ev_c1 : canV (roomX 3) [0, 1] = .tuple #[.bool true, .int .i64 0] := by kernel_rfl
theorem ev_c2 : canV (roomX 3) [0, 4] = .tuple #[.bool false, .int .i64 0] := by kernel_rfl
theorem ev_s1 : seatsE (roomX 3) [1, 2] = ([2, 1], 42, 0) := by kernel_rfl
theorem ev_l1 : leftE (roomX 3) [0, 1] [2, 1] = ([(10, 30), (2, 2), (200, 200)], 0) := by kernel_rfl
theorem ev_t1 : turnE (roomX 3) = ([0, 1], 0) := by kernel_rfl
theorem ev_b1 : bestE (roomX 3) = ([0, 1], 50, 0) := by kernel_rfl
theorem ev_g1 : givesE (roomX 3) [0, 1] 4 = ([0, 1], 0) := by kernel_rfl
theorem ev_g2 : givesE (roomX 3) [0, 1] 3 = ([], 9) := by kernel_rfl
theorem ev_a1 : askE (roomX 1) = (0, 5, 0) := by kernel_rfl
end Go.Proofs.Ytbcjfkcpfjccdaa
namespace Go.Proofs.Ytbcjfkcpfjccdaa
open Go.RowKit
theorem bd_17 : Body Try.prog 17 := body_of (by kernel_rfl)
theorem bd_19 : Body Try.prog 19 := body_of (by kernel_rfl)
theorem bd_22 : Body Try.prog 22 := body_of (by kernel_rfl)
theorem bd_24 : Body Try.prog 24 := body_of (by kernel_rfl)
theorem bd_25 : Body Try.prog 25 := body_of (by kernel_rfl)
theorem bd_27 : Body Try.prog 27 := body_of (by kernel_rfl)
theorem bd_28 : Body Try.prog 28 := body_of (by kernel_rfl)
theorem bd_30 : Body Try.prog 30 := body_of (by kernel_rfl)
theorem bd_32 : Body Try.prog 32 := body_of (by kernel_rfl)
theorem bd_34 : Body Try.prog 34 := body_of (by kernel_rfl)
theorem bd_36 : Body Try.prog 36 := body_of (by kernel_rfl)
theorem spans_box3 {F : Heap} {b T : Nat} {a1 a2 b1 b2 c1 c2 : Int} (h : F b = some (bx T [.int .i64 a1, .int .i64 a2, .int .i64 b1, .int .i64 b2, .int .i64 c1, .int .i64 c2])) : Sl F (.slice (some ⟨b, 0, none⟩) 3 3) 2 spanE [(a1, a2), (b1, b2), (c1, c2)] :=
  sl_box (xs := [(a1, a2), (b1, b2), (c1, c2)]) h rfl rfl (fun _ => rfl) (by decide)
set_option maxRecDepth 100000 in
theorem awake_ok {F : Heap} : Ok Try.prog 21 [].toArray F fun u _ => u = .bool true := by
  refine Ok.intro Try.func21 rfl Try.ntmps21 rfl fun w0 => ?_
  refine WC_seq ?_
  refine WC_reg fun ds => ?_
  refine WL_q rfl (q_assign lk_const) ?_
  refine WL_nil ?_
  refine then_n ?_
  refine WC_seq ?_
  refine WC_reg fun ds => ?_
  refine WL_x rfl (x_call bd_36 lk_func (.cons lk_const .nil) (room_ok (n := 3) (by decide)) fun v1 F2 hr3 hF4 => ?_)
  obtain ⟨vb, vr, vs, vq, rfl, hrm⟩ := hr3
  refine WL_x rfl (x_alloc zr_27 rfl fun b5 hb5 nb5 => ?_)
  refine WL_x0 (x_storeA sz_27 (lk0) (lk1 rfl <| lk0) (i := 0) rfl rfl rfl rfl hrm.ones (.here) ?_)
  refine WL_nil ?_
  refine then_n ?_
  refine WC_seq ?_
  refine WC_reg fun ds => ?_
  refine WL_q rfl (q_loadN agg_27 (lk0) rfl rfl (own_whole 0 rfl)) ?_
  refine WL_c rfl (q_call bd_17 lk_func (.cons (lk0) (.cons lk_const (.cons lk_const .nil))) (why_top_ok hrm 0 0) (fun _ _ h => h.trans (show pairV (whyE (roomX 3) 0 0) = .tuple #[.int .i64 3, .int .i64 0] by rw [ev_w1]; rfl))) ?_
  refine WL_q rfl (q_move (lk0)) ?_
  refine WL_q rfl (q_extract (lk0) rfl) ?_
  refine WL_q rfl (q_extract (lk1 rfl <| lk0) rfl) ?_
  refine WL_q rfl (q_assign (lk1 rfl <| lk0)) ?_
  refine WL_q rfl (q_assign (lk1 rfl <| lk0)) ?_
  refine WL_nil ?_
  refine then_n ?_
  refine WC_seq ?_
  refine WC_reg fun ds => ?_
  refine WL_q rfl (q_loadN agg_27 (lk4 rfl <| lk2 rfl <| lk1 rfl <| lk0) rfl rfl (own_whole 0 rfl)) ?_
  refine WL_c rfl (q_call bd_17 lk_func (.cons (lk0) (.cons lk_const (.cons lk_const .nil))) (why_top_ok hrm 3 1) (fun _ _ h => h.trans (show pairV (whyE (roomX 3) 3 1) = .tuple #[.int .i64 1, .int .i64 0] by rw [ev_w2]; rfl))) ?_
  refine WL_q rfl (q_move (lk0)) ?_
  refine WL_q rfl (q_extract (lk0) rfl) ?_
  refine WL_q rfl (q_extract (lk1 rfl <| lk0) rfl) ?_
  refine WL_q rfl (q_assign (lk1 rfl <| lk0)) ?_
  refine WL_q rfl (q_assign (lk1 rfl <| lk0)) ?_
  refine WL_nil ?_
  refine then_n ?_
  refine WC_seq ?_
  refine WC_reg fun ds => ?_
  refine WL_q rfl (q_loadN agg_27 (lk8 rfl <| lk4 rfl <| lk2 rfl <| lk0) rfl rfl (own_whole 0 rfl)) ?_
  refine WL_x rfl (x_build sl_29 zr_3 rfl (.cons lk_const (.cons lk_const .nil)) rfl rfl (by decide) (by simp [Value.oneCell']) fun b6 hb6 nb6 => ?_)
  refine WL_freeze (i := 0) rfl hb6 .here fun F7 hF8 hz9 => ?_
  replace hrm := hrm.mono hF8
  have hsl10 := ints_box2 hz9
  refine WL_c rfl (q_call bd_19 lk_func (.cons (lk1 rfl <| lk0) (.cons (lk0) .nil)) (can_top_ok hrm hsl10) (fun _ _ h => h.trans (show canV (roomX 3) [0, 1] = .tuple #[.bool true, .int .i64 0] from ev_c1))) ?_
  refine WL_q rfl (q_move (lk0)) ?_
  refine WL_q rfl (q_extract (lk0) rfl) ?_
  refine WL_q rfl (q_extract (lk1 rfl <| lk0) rfl) ?_
  refine WL_q rfl (q_assign (lk1 rfl <| lk0)) ?_
  refine WL_q rfl (q_assign (lk1 rfl <| lk0)) ?_
  refine WL_nil ?_
  refine then_n ?_
  refine WC_seq ?_
  refine WC_reg fun ds => ?_
  refine WL_q rfl (q_loadN agg_27 (lk16 rfl <| lk4 rfl <| lk2 rfl <| lk0) rfl rfl (own_whole 0 rfl)) ?_
  refine WL_x rfl (x_build sl_29 zr_3 rfl (.cons lk_const (.cons lk_const .nil)) rfl rfl (by decide) (by simp [Value.oneCell']) fun b11 hb11 nb11 => ?_)
  refine WL_freeze (i := 0) rfl hb11 .here fun F12 hF13 hz14 => ?_
  replace hrm := hrm.mono hF13
  replace hsl10 := hsl10.mono hF13
  have hsl15 := ints_box2 hz14
  refine WL_c rfl (q_call bd_19 lk_func (.cons (lk1 rfl <| lk0) (.cons (lk0) .nil)) (can_top_ok hrm hsl15) (fun _ _ h => h.trans (show canV (roomX 3) [0, 4] = .tuple #[.bool false, .int .i64 0] from ev_c2))) ?_
  refine WL_q rfl (q_move (lk0)) ?_
  refine WL_q rfl (q_extract (lk0) rfl) ?_
  refine WL_q rfl (q_extract (lk1 rfl <| lk0) rfl) ?_
  refine WL_q rfl (q_assign (lk1 rfl <| lk0)) ?_
  refine WL_q rfl (q_assign (lk1 rfl <| lk0)) ?_
  refine WL_nil ?_
  refine then_n ?_
  refine WC_seq ?_
  refine WC_reg fun ds => ?_
  refine WL_q rfl (q_loadN agg_27 (lk16 rfl <| lk8 rfl <| lk4 rfl <| lk2 rfl <| lk0) rfl rfl (own_whole 0 rfl)) ?_
  refine WL_x rfl (x_build sl_29 zr_3 rfl (.cons lk_const (.cons lk_const .nil)) rfl rfl (by decide) (by simp [Value.oneCell']) fun b16 hb16 nb16 => ?_)
  refine WL_freeze (i := 0) rfl hb16 .here fun F17 hF18 hz19 => ?_
  replace hrm := hrm.mono hF18
  replace hsl10 := hsl10.mono hF18
  replace hsl15 := hsl15.mono hF18
  have hsl20 := ints_box2 hz19
  refine WL_x rfl (x_call bd_22 lk_func (.cons (lk1 rfl <| lk0) (.cons (lk0) .nil)) ((seats_top_ok hrm hsl20).mono fun u F2 _ h => (by rw [ev_s1] at h; exact h : ∃ ws, u = .tuple #[ws, .int .i64 42, .int .i64 0] ∧ Nats F2 ws [2, 1])) fun v21 F22 hr23 hF24 => ?_)
  replace hrm := hrm.mono hF24
  replace hsl10 := hsl10.mono hF24
  replace hsl15 := hsl15.mono hF24
  replace hsl20 := hsl20.mono hF24
  obtain ⟨hq1_, rfl, hq1⟩ := hr23
  refine WL_q rfl (q_move (lk0)) ?_
  refine WL_q rfl (q_extract (lk0) rfl) ?_
  refine WL_q rfl (q_extract (lk1 rfl <| lk0) rfl) ?_
  refine WL_q rfl (q_extract (lk2 rfl <| lk0) rfl) ?_
  refine WL_q rfl (q_assign (lk2 rfl <| lk0)) ?_
  refine WL_q rfl (q_assign (lk2 rfl <| lk0)) ?_
  refine WL_q rfl (q_assign (lk2 rfl <| lk0)) ?_
  refine WL_nil ?_
  refine then_n ?_
  refine WC_seq ?_
  refine WC_reg fun ds => ?_
  refine WL_q rfl (q_loadN agg_27 (lk32 rfl <| lk8 rfl <| lk0) rfl rfl (own_whole 0 rfl)) ?_
  refine WL_x rfl (x_build sl_29 zr_3 rfl (.cons lk_const (.cons lk_const .nil)) rfl rfl (by decide) (by simp [Value.oneCell']) fun b25 hb25 nb25 => ?_)
  refine WL_freeze (i := 0) rfl hb25 .here fun F26 hF27 hz28 => ?_
  replace hrm := hrm.mono hF27
  replace hsl10 := hsl10.mono hF27
  replace hsl15 := hsl15.mono hF27
  replace hsl20 := hsl20.mono hF27
  replace hq1 := hq1.mono hF27
  have hsl29 := ints_box2 hz28
  refine WL_x rfl (x_build sl_29 zr_3 rfl (.cons lk_const (.cons lk_const .nil)) rfl rfl (by decide) (by simp [Value.oneCell']) fun b30 hb30 nb30 => ?_)
  refine WL_freeze (i := 0) rfl hb30 .here fun F31 hF32 hz33 => ?_
  replace hrm := hrm.mono hF32
  replace hsl10 := hsl10.mono hF32
  replace hsl15 := hsl15.mono hF32
  replace hsl20 := hsl20.mono hF32
  replace hq1 := hq1.mono hF32
  replace hsl29 := hsl29.mono hF32
  have hsl34 := ints_box2 hz33
  refine WL_x rfl (x_call bd_25 lk_func (.cons (lk2 rfl <| lk0) (.cons (lk1 rfl <| lk0) (.cons (lk0) .nil))) ((left_top_ok hrm hsl29 hsl34).mono fun u F2 _ h => (by rw [ev_l1] at h; exact h : ∃ ws, u = .tuple #[ws, .int .i64 0] ∧ Sl F2 ws 2 spanE [(10, 30), (2, 2), (200, 200)])) fun v35 F36 hr37 hF38 => ?_)
  replace hrm := hrm.mono hF38
  replace hsl10 := hsl10.mono hF38
  replace hsl15 := hsl15.mono hF38
  replace hsl20 := hsl20.mono hF38
  replace hq1 := hq1.mono hF38
  replace hsl29 := hsl29.mono hF38
  replace hsl34 := hsl34.mono hF38
  obtain ⟨hq2_, rfl, hq2⟩ := hr37
  refine WL_q rfl (q_move (lk0)) ?_
  refine WL_q rfl (q_extract (lk0) rfl) ?_
  refine WL_q rfl (q_extract (lk1 rfl <| lk0) rfl) ?_
  refine WL_q rfl (q_assign (lk1 rfl <| lk0)) ?_
  refine WL_q rfl (q_assign (lk1 rfl <| lk0)) ?_
  refine WL_nil ?_
  refine then_n ?_
  refine WC_seq ?_
  refine WC_reg fun ds => ?_
  refine WL_q rfl (q_loadN agg_27 (lk32 rfl <| lk16 rfl <| lk1 rfl <| lk0) rfl rfl (own_whole 0 rfl)) ?_
  refine WL_x rfl (x_call bd_28 lk_func (.cons (lk0) .nil) ((turn_top_ok hrm).mono fun u F2 _ h => (by rw [ev_t1] at h; exact h : ∃ ws, u = .tuple #[ws, .int .i64 0] ∧ Nats F2 ws [0, 1])) fun v39 F40 hr41 hF42 => ?_)
  replace hrm := hrm.mono hF42
  replace hsl10 := hsl10.mono hF42
  replace hsl15 := hsl15.mono hF42
  replace hsl20 := hsl20.mono hF42
  replace hq1 := hq1.mono hF42
  replace hsl29 := hsl29.mono hF42
  replace hsl34 := hsl34.mono hF42
  replace hq2 := hq2.mono hF42
  obtain ⟨hq3_, rfl, hq3⟩ := hr41
  refine WL_q rfl (q_move (lk0)) ?_
  refine WL_q rfl (q_extract (lk0) rfl) ?_
  refine WL_q rfl (q_extract (lk1 rfl <| lk0) rfl) ?_
  refine WL_q rfl (q_assign (lk1 rfl <| lk0)) ?_
  refine WL_q rfl (q_assign (lk1 rfl <| lk0)) ?_
  refine WL_nil ?_
  refine then_n ?_
  refine WC_seq ?_
  refine WC_reg fun ds => ?_
  refine WL_q rfl (q_loadN agg_27 (lk32 rfl <| lk16 rfl <| lk8 rfl <| lk0) rfl rfl (own_whole 0 rfl)) ?_
  refine WL_x rfl (x_call bd_30 lk_func (.cons (lk0) .nil) ((best_top_ok hrm).mono fun u F2 _ h => (by rw [ev_b1] at h; exact h : ∃ ws, u = .tuple #[ws, .int .i64 50, .int .i64 0] ∧ Nats F2 ws [0, 1])) fun v43 F44 hr45 hF46 => ?_)
  replace hrm := hrm.mono hF46
  replace hsl10 := hsl10.mono hF46
  replace hsl15 := hsl15.mono hF46
  replace hsl20 := hsl20.mono hF46
  replace hq1 := hq1.mono hF46
  replace hsl29 := hsl29.mono hF46
  replace hsl34 := hsl34.mono hF46
  replace hq2 := hq2.mono hF46
  replace hq3 := hq3.mono hF46
  obtain ⟨hq4_, rfl, hq4⟩ := hr45
  refine WL_q rfl (q_move (lk0)) ?_
  refine WL_q rfl (q_extract (lk0) rfl) ?_
  refine WL_q rfl (q_extract (lk1 rfl <| lk0) rfl) ?_
  refine WL_q rfl (q_extract (lk2 rfl <| lk0) rfl) ?_
  refine WL_q rfl (q_assign (lk2 rfl <| lk0)) ?_
  refine WL_q rfl (q_assign (lk2 rfl <| lk0)) ?_
  refine WL_q rfl (q_assign (lk2 rfl <| lk0)) ?_
  refine WL_nil ?_
  refine then_n ?_
  refine WC_seq ?_
  refine WC_reg fun ds => ?_
  refine WL_q rfl (q_loadN agg_27 (lk32 rfl <| lk32 rfl <| lk1 rfl <| lk0) rfl rfl (own_whole 0 rfl)) ?_
  refine WL_x rfl (x_build sl_29 zr_3 rfl (.cons lk_const (.cons lk_const .nil)) rfl rfl (by decide) (by simp [Value.oneCell']) fun b47 hb47 nb47 => ?_)
  refine WL_freeze (i := 0) rfl hb47 .here fun F48 hF49 hz50 => ?_
  replace hrm := hrm.mono hF49
  replace hsl10 := hsl10.mono hF49
  replace hsl15 := hsl15.mono hF49
  replace hsl20 := hsl20.mono hF49
  replace hq1 := hq1.mono hF49
  replace hsl29 := hsl29.mono hF49
  replace hsl34 := hsl34.mono hF49
  replace hq2 := hq2.mono hF49
  replace hq3 := hq3.mono hF49
  replace hq4 := hq4.mono hF49
  have hsl51 := ints_box2 hz50
  refine WL_x rfl (x_call bd_32 lk_func (.cons (lk1 rfl <| lk0) (.cons (lk0) (.cons lk_const .nil))) ((gives_top_ok hrm hsl51 4).mono fun u F2 _ h => (by rw [ev_g1] at h; exact h : ∃ ws, u = .tuple #[ws, .int .i64 0] ∧ Nats F2 ws [0, 1])) fun v52 F53 hr54 hF55 => ?_)
  replace hrm := hrm.mono hF55
  replace hsl10 := hsl10.mono hF55
  replace hsl15 := hsl15.mono hF55
  replace hsl20 := hsl20.mono hF55
  replace hq1 := hq1.mono hF55
  replace hsl29 := hsl29.mono hF55
  replace hsl34 := hsl34.mono hF55
  replace hq2 := hq2.mono hF55
  replace hq3 := hq3.mono hF55
  replace hq4 := hq4.mono hF55
  replace hsl51 := hsl51.mono hF55
  obtain ⟨hq5_, rfl, hq5⟩ := hr54
  refine WL_q rfl (q_move (lk0)) ?_
  refine WL_q rfl (q_extract (lk0) rfl) ?_
  refine WL_q rfl (q_extract (lk1 rfl <| lk0) rfl) ?_
  refine WL_q rfl (q_assign (lk1 rfl <| lk0)) ?_
  refine WL_q rfl (q_assign (lk1 rfl <| lk0)) ?_
  refine WL_nil ?_
  refine then_n ?_
  refine WC_seq ?_
  refine WC_reg fun ds => ?_
  refine WL_q rfl (q_loadN agg_27 (lk32 rfl <| lk32 rfl <| lk8 rfl <| lk1 rfl <| lk0) rfl rfl (own_whole 0 rfl)) ?_
  refine WL_x rfl (x_build sl_29 zr_3 rfl (.cons lk_const (.cons lk_const .nil)) rfl rfl (by decide) (by simp [Value.oneCell']) fun b56 hb56 nb56 => ?_)
  refine WL_freeze (i := 0) rfl hb56 .here fun F57 hF58 hz59 => ?_
  replace hrm := hrm.mono hF58
  replace hsl10 := hsl10.mono hF58
  replace hsl15 := hsl15.mono hF58
  replace hsl20 := hsl20.mono hF58
  replace hq1 := hq1.mono hF58
  replace hsl29 := hsl29.mono hF58
  replace hsl34 := hsl34.mono hF58
  replace hq2 := hq2.mono hF58
  replace hq3 := hq3.mono hF58
  replace hq4 := hq4.mono hF58
  replace hsl51 := hsl51.mono hF58
  replace hq5 := hq5.mono hF58
  have hsl60 := ints_box2 hz59
  refine WL_x rfl (x_call bd_32 lk_func (.cons (lk1 rfl <| lk0) (.cons (lk0) (.cons lk_const .nil))) ((gives_top_ok hrm hsl60 3).mono fun u F2 _ h => (by rw [ev_g2] at h; exact h : ∃ ws, u = .tuple #[ws, .int .i64 9] ∧ Nats F2 ws [])) fun v61 F62 hr63 hF64 => ?_)
  replace hrm := hrm.mono hF64
  replace hsl10 := hsl10.mono hF64
  replace hsl15 := hsl15.mono hF64
  replace hsl20 := hsl20.mono hF64
  replace hq1 := hq1.mono hF64
  replace hsl29 := hsl29.mono hF64
  replace hsl34 := hsl34.mono hF64
  replace hq2 := hq2.mono hF64
  replace hq3 := hq3.mono hF64
  replace hq4 := hq4.mono hF64
  replace hsl51 := hsl51.mono hF64
  replace hq5 := hq5.mono hF64
  replace hsl60 := hsl60.mono hF64
  obtain ⟨hq6_, rfl, hq6⟩ := hr63
  refine WL_q rfl (q_move (lk0)) ?_
  refine WL_q rfl (q_extract (lk0) rfl) ?_
  refine WL_q rfl (q_extract (lk1 rfl <| lk0) rfl) ?_
  refine WL_q rfl (q_assign (lk1 rfl <| lk0)) ?_
  refine WL_q rfl (q_assign (lk1 rfl <| lk0)) ?_
  refine WL_nil ?_
  refine then_n ?_
  refine WC_seq ?_
  refine WC_reg fun ds => ?_
  refine WL_x rfl (x_call bd_36 lk_func (.cons lk_const .nil) (room_ok (n := 1) (by decide)) fun v65 F66 hr67 hF68 => ?_)
  replace hrm := hrm.mono hF68
  replace hsl10 := hsl10.mono hF68
  replace hsl15 := hsl15.mono hF68
  replace hsl20 := hsl20.mono hF68
  replace hq1 := hq1.mono hF68
  replace hsl29 := hsl29.mono hF68
  replace hsl34 := hsl34.mono hF68
  replace hq2 := hq2.mono hF68
  replace hq3 := hq3.mono hF68
  replace hq4 := hq4.mono hF68
  replace hsl51 := hsl51.mono hF68
  replace hq5 := hq5.mono hF68
  replace hsl60 := hsl60.mono hF68
  replace hq6 := hq6.mono hF68
  obtain ⟨wb, wr, ws, wq, rfl, hrm1⟩ := hr67
  refine WL_c rfl (q_call bd_34 lk_func (.cons (lk0) .nil) (ask_top_ok hrm1) (fun _ _ h => h.trans (show trip (askE (roomX 1)) = .tuple #[.int .i64 0, .int .i64 5, .int .i64 0] by rw [ev_a1]; rfl))) ?_
  refine WL_q rfl (q_move (lk0)) ?_
  refine WL_q rfl (q_extract (lk0) rfl) ?_
  refine WL_q rfl (q_extract (lk1 rfl <| lk0) rfl) ?_
  refine WL_q rfl (q_extract (lk2 rfl <| lk0) rfl) ?_
  refine WL_q rfl (q_assign (lk2 rfl <| lk0)) ?_
  refine WL_q rfl (q_assign (lk2 rfl <| lk0)) ?_
  refine WL_q rfl (q_assign (lk2 rfl <| lk0)) ?_
  refine WL_nil ?_
  refine then_n ?_
  refine WC_seq ?_
  refine WC_reg fun ds => ?_
  refine WL_q rfl (q_move (lk32 rfl <| lk32 rfl <| lk16 rfl <| lk2 rfl <| lk1 rfl <| lk0)) ?_
  refine WL_q rfl (q_eql (lk0) lk_const) ?_
  refine WL_q rfl (q_move (lk0)) ?_
  refine WL_want rfl rfl (lk0) (by first | rfl | decide) ?_
  refine WL_q rfl (q_move (lk32 rfl <| lk32 rfl <| lk8 rfl <| lk4 rfl <| lk2 rfl <| lk1 rfl <| lk0)) ?_
  refine WL_want rfl rfl (lk1 rfl <| lk0) (by first | rfl | decide) ?_
  refine WL_q rfl (q_eql (lk0) lk_const) ?_
  refine WL_q rfl (q_pick_true (lk2 rfl <| lk0) (by first | rfl | decide) (lk0)) ?_
  refine WL_q rfl (q_move (lk0)) ?_
  refine WL_want rfl rfl (lk0) (by first | rfl | decide) ?_
  refine WL_q rfl (q_move (lk32 rfl <| lk32 rfl <| lk8 rfl <| lk2 rfl <| lk1 rfl <| lk0)) ?_
  refine WL_want rfl rfl (lk1 rfl <| lk0) (by first | rfl | decide) ?_
  refine WL_q rfl (q_eql (lk0) lk_const) ?_
  refine WL_q rfl (q_pick_true (lk2 rfl <| lk0) (by first | rfl | decide) (lk0)) ?_
  refine WL_q rfl (q_move (lk0)) ?_
  refine WL_want rfl rfl (lk0) (by first | rfl | decide) ?_
  refine WL_q rfl (q_move (lk32 rfl <| lk32 rfl <| lk4 rfl <| lk2 rfl <| lk1 rfl <| lk0)) ?_
  refine WL_want rfl rfl (lk1 rfl <| lk0) (by first | rfl | decide) ?_
  refine WL_q rfl (q_eql (lk0) lk_const) ?_
  refine WL_q rfl (q_pick_true (lk2 rfl <| lk0) (by first | rfl | decide) (lk0)) ?_
  refine WL_q rfl (q_move (lk0)) ?_
  refine WL_want rfl rfl (lk0) (by first | rfl | decide) ?_
  refine WL_q rfl (q_move (lk32 rfl <| lk32 rfl <| lk1 rfl <| lk0)) ?_
  refine WL_want rfl rfl (lk1 rfl <| lk0) (by first | rfl | decide) ?_
  refine WL_q rfl (q_eql (lk0) lk_const) ?_
  refine WL_q rfl (q_pick_true (lk2 rfl <| lk0) (by first | rfl | decide) (lk0)) ?_
  refine WL_q rfl (q_move (lk0)) ?_
  refine WL_want rfl rfl (lk0) (by first | rfl | decide) ?_
  refine WL_q rfl (q_move (lk32 rfl <| lk16 rfl <| lk8 rfl <| lk4 rfl <| lk0)) ?_
  refine WL_want rfl rfl (lk1 rfl <| lk0) (by first | rfl | decide) ?_
  refine WL_q rfl (q_eql (lk0) lk_const) ?_
  refine WL_q rfl (q_pick_true (lk2 rfl <| lk0) (by first | rfl | decide) (lk0)) ?_
  refine WL_q rfl (q_move (lk0)) ?_
  refine WL_want rfl rfl (lk0) (by first | rfl | decide) ?_
  refine WL_q rfl (q_move (lk32 rfl <| lk16 rfl <| lk8 rfl <| lk1 rfl <| lk0)) ?_
  refine WL_want rfl rfl (lk1 rfl <| lk0) (by first | rfl | decide) ?_
  refine WL_q rfl (q_eql (lk0) lk_const) ?_
  refine WL_q rfl (q_pick_true (lk2 rfl <| lk0) (by first | rfl | decide) (lk0)) ?_
  refine WL_q rfl (q_move (lk0)) ?_
  refine WL_want rfl rfl (lk0) (by first | rfl | decide) ?_
  refine WL_q rfl (q_move (lk32 rfl <| lk16 rfl <| lk4 rfl <| lk0)) ?_
  refine WL_want rfl rfl (lk1 rfl <| lk0) (by first | rfl | decide) ?_
  refine WL_q rfl (q_eql (lk0) lk_const) ?_
  refine WL_q rfl (q_pick_true (lk2 rfl <| lk0) (by first | rfl | decide) (lk0)) ?_
  refine WL_q rfl (q_move (lk0)) ?_
  refine WL_want rfl rfl (lk0) (by first | rfl | decide) ?_
  refine WL_q rfl (q_move (lk32 rfl <| lk16 rfl <| lk0)) ?_
  refine WL_want rfl rfl (lk1 rfl <| lk0) (by first | rfl | decide) ?_
  refine WL_q rfl (q_eql (lk0) lk_const) ?_
  refine WL_q rfl (q_pick_true (lk2 rfl <| lk0) (by first | rfl | decide) (lk0)) ?_
  refine WL_q rfl (q_move (lk0)) ?_
  refine WL_want rfl rfl (lk0) (by first | rfl | decide) ?_
  refine WL_q rfl (q_move (lk32 rfl <| lk2 rfl <| lk1 rfl <| lk0)) ?_
  refine WL_want rfl rfl (lk1 rfl <| lk0) (by first | rfl | decide) ?_
  refine WL_q rfl (q_eql (lk0) lk_const) ?_
  refine WL_q rfl (q_pick_true (lk2 rfl <| lk0) (by first | rfl | decide) (lk0)) ?_
  refine WL_q rfl (q_move (lk0)) ?_
  refine WL_want rfl rfl (lk0) (by first | rfl | decide) ?_
  refine WL_q rfl (q_move (lk32 rfl <| lk16 rfl <| lk0)) ?_
  refine WL_want rfl rfl (lk1 rfl <| lk0) (by first | rfl | decide) ?_
  refine WL_q rfl (q_eql (lk0) lk_const) ?_
  refine WL_q rfl (q_pick_true (lk2 rfl <| lk0) (by first | rfl | decide) (lk0)) ?_
  refine WL_q rfl (q_move (lk0)) ?_
  refine WL_want rfl rfl (lk0) (by first | rfl | decide) ?_
  refine WL_q rfl (q_move (lk32 rfl <| lk32 rfl <| lk32 rfl <| lk16 rfl <| lk8 rfl <| lk4 rfl <| lk2 rfl <| lk1 rfl <| lk0)) ?_
  refine WL_want rfl rfl (lk1 rfl <| lk0) (by first | rfl | decide) ?_
  refine WL_q rfl (q_eql (lk0) lk_const) ?_
  refine WL_q rfl (q_pick_true (lk2 rfl <| lk0) (by first | rfl | decide) (lk0)) ?_
  refine WL_q rfl (q_move (lk0)) ?_
  refine WL_want rfl rfl (lk0) (by first | rfl | decide) ?_
  refine WL_q rfl (q_move (lk32 rfl <| lk32 rfl <| lk32 rfl <| lk16 rfl <| lk8 rfl <| lk4 rfl <| lk0)) ?_
  refine WL_want rfl rfl (lk1 rfl <| lk0) (by first | rfl | decide) ?_
  refine WL_q rfl (q_eql (lk0) lk_const) ?_
  refine WL_q rfl (q_pick_true (lk2 rfl <| lk0) (by first | rfl | decide) (lk0)) ?_
  refine WL_q rfl (q_move (lk0)) ?_
  refine WL_want rfl rfl (lk0) (by first | rfl | decide) ?_
  refine WL_q rfl (q_move (lk32 rfl <| lk32 rfl <| lk32 rfl <| lk16 rfl <| lk8 rfl <| lk0)) ?_
  refine WL_q rfl (q_pick_true (lk1 rfl <| lk0) (by first | rfl | decide) (lk0)) ?_
  refine WL_q rfl (q_move (lk0)) ?_
  refine WL_want rfl rfl (lk0) (by first | rfl | decide) ?_
  refine WL_q rfl (q_move (lk32 rfl <| lk32 rfl <| lk32 rfl <| lk16 rfl <| lk2 rfl <| lk1 rfl <| lk0)) ?_
  refine WL_want rfl rfl (lk1 rfl <| lk0) (by first | rfl | decide) ?_
  refine WL_q rfl (q_not (lk0)) ?_
  refine WL_q rfl (q_pick_true (lk2 rfl <| lk0) (by first | rfl | decide) (lk0)) ?_
  refine WL_q rfl (q_move (lk0)) ?_
  refine WL_want rfl rfl (lk0) (by first | rfl | decide) ?_
  refine WL_q rfl (q_move (lk32 rfl <| lk32 rfl <| lk32 rfl <| lk8 rfl <| lk4 rfl <| lk2 rfl <| lk0)) ?_
  refine WL_want rfl rfl (lk1 rfl <| lk0) (by first | rfl | decide) ?_
  refine WL_x rfl (x_build sl_29 zr_3 rfl (.cons lk_const (.cons lk_const .nil)) rfl rfl (by decide) (by simp [Value.oneCell']) fun b69 hb69 nb69 => ?_)
  refine WL_freeze (i := 0) rfl hb69 .here fun F70 hF71 hz72 => ?_
  replace hrm := hrm.mono hF71
  replace hsl10 := hsl10.mono hF71
  replace hsl15 := hsl15.mono hF71
  replace hsl20 := hsl20.mono hF71
  replace hq1 := hq1.mono hF71
  replace hsl29 := hsl29.mono hF71
  replace hsl34 := hsl34.mono hF71
  replace hq2 := hq2.mono hF71
  replace hq3 := hq3.mono hF71
  replace hq4 := hq4.mono hF71
  replace hsl51 := hsl51.mono hF71
  replace hq5 := hq5.mono hF71
  replace hsl60 := hsl60.mono hF71
  replace hq6 := hq6.mono hF71
  replace hrm1 := hrm1.mono hF71
  have hsl73 := ints_box2 hz72
  refine WL_want rfl rfl (lk2 rfl <| lk0) (by first | rfl | decide) ?_
  refine WL_c rfl (q_call bd_24 lk_func (.cons (lk1 rfl <| lk0) (.cons (lk0) .nil)) (refInts_ok (Nats.ints hq1) hsl73) (fun _ _ h => h)) ?_
  refine WL_q rfl (q_pick_true (lk2 rfl <| lk1 rfl <| lk0) (by first | rfl | decide) (lk0)) ?_
  refine WL_q rfl (q_move (lk0)) ?_
  refine WL_want rfl rfl (lk0) (by first | rfl | decide) ?_
  refine WL_q rfl (q_move (lk32 rfl <| lk32 rfl <| lk32 rfl <| lk16 rfl <| lk2 rfl <| lk0)) ?_
  refine WL_want rfl rfl (lk1 rfl <| lk0) (by first | rfl | decide) ?_
  refine WL_q rfl (q_eql (lk0) lk_const) ?_
  refine WL_q rfl (q_pick_true (lk2 rfl <| lk0) (by first | rfl | decide) (lk0)) ?_
  refine WL_q rfl (q_move (lk0)) ?_
  refine WL_want rfl rfl (lk0) (by first | rfl | decide) ?_
  refine WL_q rfl (q_move (lk32 rfl <| lk32 rfl <| lk32 rfl <| lk8 rfl <| lk4 rfl <| lk1 rfl <| lk0)) ?_
  refine WL_want rfl rfl (lk1 rfl <| lk0) (by first | rfl | decide) ?_
  refine WL_c rfl (q_call bd_46 lk_func (.cons lk_const (.cons lk_const .nil)) (span_ok _ _) (fun _ _ h => h)) ?_
  refine WL_want rfl rfl (lk2 rfl <| lk0) (by first | rfl | decide) ?_
  refine WL_c rfl (q_call bd_46 lk_func (.cons lk_const (.cons lk_const .nil)) (span_ok _ _) (fun _ _ h => h)) ?_
  refine WL_want rfl rfl (lk2 rfl <| lk1 rfl <| lk0) (by first | rfl | decide) ?_
  refine WL_c rfl (q_call bd_46 lk_func (.cons lk_const (.cons lk_const .nil)) (span_ok _ _) (fun _ _ h => h)) ?_
  refine WL_want rfl rfl (lk4 rfl <| lk0) (by first | rfl | decide) ?_
  refine WL_x rfl (x_buildN (offs := [(0, 2), (2, 2), (4, 2)]) (zl := [.int .i64 0, .int .i64 0, .int .i64 0, .int .i64 0, .int .i64 0, .int .i64 0]) sl_42 zr_60 rfl (.cons (lk2 rfl <| lk0) rfl (.cons (lk1 rfl <| lk0) rfl (.cons (lk0) rfl .nil))) (by intro i p h; rcases i with _ | _ | _ | i <;> simp at h <;> subst h <;> rfl) (.cons rfl rfl (Nat.le_of_ble_eq_true rfl) (.cons (.here) (.cons (.next <| .here) .nil)) (.cons rfl rfl (Nat.le_of_ble_eq_true rfl) (.cons (.next <| .next <| .here) (.cons (.next <| .next <| .next <| .here) .nil)) (.cons rfl rfl (Nat.le_of_ble_eq_true rfl) (.cons (.next <| .next <| .next <| .next <| .here) (.cons (.next <| .next <| .next <| .next <| .next <| .here) .nil)) .nil))) (by decide) (by decide) fun b74 hb74 nb74 => ?_)
  refine WL_freeze (i := 0) rfl hb74 .here fun F75 hF76 hz77 => ?_
  replace hrm := hrm.mono hF76
  replace hsl10 := hsl10.mono hF76
  replace hsl15 := hsl15.mono hF76
  replace hsl20 := hsl20.mono hF76
  replace hq1 := hq1.mono hF76
  replace hsl29 := hsl29.mono hF76
  replace hsl34 := hsl34.mono hF76
  replace hq2 := hq2.mono hF76
  replace hq3 := hq3.mono hF76
  replace hq4 := hq4.mono hF76
  replace hsl51 := hsl51.mono hF76
  replace hq5 := hq5.mono hF76
  replace hsl60 := hsl60.mono hF76
  replace hq6 := hq6.mono hF76
  replace hrm1 := hrm1.mono hF76
  replace hsl73 := hsl73.mono hF76
  have hsl78 := spans_box3 hz77
  refine WL_want rfl rfl (lk4 rfl <| lk1 rfl <| lk0) (by first | rfl | decide) ?_
  refine WL_c rfl (q_call bd_27 lk_func (.cons (lk4 rfl <| lk0) (.cons (lk0) .nil)) (refSpans_ok hq2 hsl78) (fun _ _ h => h)) ?_
  refine WL_q rfl (q_pick_true (lk4 rfl <| lk2 rfl <| lk0) (by first | rfl | decide) (lk0)) ?_
  refine WL_q rfl (q_move (lk0)) ?_
  refine WL_want rfl rfl (lk0) (by first | rfl | decide) ?_
  refine WL_q rfl (q_move (lk32 rfl <| lk32 rfl <| lk32 rfl <| lk8 rfl <| lk4 rfl <| lk2 rfl <| lk0)) ?_
  refine WL_want rfl rfl (lk1 rfl <| lk0) (by first | rfl | decide) ?_
  refine WL_x rfl (x_build sl_29 zr_3 rfl (.cons lk_const (.cons lk_const .nil)) rfl rfl (by decide) (by simp [Value.oneCell']) fun b79 hb79 nb79 => ?_)
  refine WL_freeze (i := 0) rfl hb79 .here fun F80 hF81 hz82 => ?_
  replace hrm := hrm.mono hF81
  replace hsl10 := hsl10.mono hF81
  replace hsl15 := hsl15.mono hF81
  replace hsl20 := hsl20.mono hF81
  replace hq1 := hq1.mono hF81
  replace hsl29 := hsl29.mono hF81
  replace hsl34 := hsl34.mono hF81
  replace hq2 := hq2.mono hF81
  replace hq3 := hq3.mono hF81
  replace hq4 := hq4.mono hF81
  replace hsl51 := hsl51.mono hF81
  replace hq5 := hq5.mono hF81
  replace hsl60 := hsl60.mono hF81
  replace hq6 := hq6.mono hF81
  replace hrm1 := hrm1.mono hF81
  replace hsl73 := hsl73.mono hF81
  replace hsl78 := hsl78.mono hF81
  have hsl83 := ints_box2 hz82
  refine WL_want rfl rfl (lk2 rfl <| lk0) (by first | rfl | decide) ?_
  refine WL_c rfl (q_call bd_24 lk_func (.cons (lk1 rfl <| lk0) (.cons (lk0) .nil)) (refInts_ok (Nats.ints hq3) hsl83) (fun _ _ h => h)) ?_
  refine WL_q rfl (q_pick_true (lk2 rfl <| lk1 rfl <| lk0) (by first | rfl | decide) (lk0)) ?_
  refine WL_q rfl (q_move (lk0)) ?_
  refine WL_want rfl rfl (lk0) (by first | rfl | decide) ?_
  refine WL_q rfl (q_move (lk32 rfl <| lk32 rfl <| lk32 rfl <| lk8 rfl <| lk2 rfl <| lk1 rfl <| lk0)) ?_
  refine WL_want rfl rfl (lk1 rfl <| lk0) (by first | rfl | decide) ?_
  refine WL_x rfl (x_build sl_29 zr_3 rfl (.cons lk_const (.cons lk_const .nil)) rfl rfl (by decide) (by simp [Value.oneCell']) fun b84 hb84 nb84 => ?_)
  refine WL_freeze (i := 0) rfl hb84 .here fun F85 hF86 hz87 => ?_
  replace hrm := hrm.mono hF86
  replace hsl10 := hsl10.mono hF86
  replace hsl15 := hsl15.mono hF86
  replace hsl20 := hsl20.mono hF86
  replace hq1 := hq1.mono hF86
  replace hsl29 := hsl29.mono hF86
  replace hsl34 := hsl34.mono hF86
  replace hq2 := hq2.mono hF86
  replace hq3 := hq3.mono hF86
  replace hq4 := hq4.mono hF86
  replace hsl51 := hsl51.mono hF86
  replace hq5 := hq5.mono hF86
  replace hsl60 := hsl60.mono hF86
  replace hq6 := hq6.mono hF86
  replace hrm1 := hrm1.mono hF86
  replace hsl73 := hsl73.mono hF86
  replace hsl78 := hsl78.mono hF86
  replace hsl83 := hsl83.mono hF86
  have hsl88 := ints_box2 hz87
  refine WL_want rfl rfl (lk2 rfl <| lk0) (by first | rfl | decide) ?_
  refine WL_c rfl (q_call bd_24 lk_func (.cons (lk1 rfl <| lk0) (.cons (lk0) .nil)) (refInts_ok (Nats.ints hq4) hsl88) (fun _ _ h => h)) ?_
  refine WL_q rfl (q_pick_true (lk2 rfl <| lk1 rfl <| lk0) (by first | rfl | decide) (lk0)) ?_
  refine WL_q rfl (q_move (lk0)) ?_
  refine WL_want rfl rfl (lk0) (by first | rfl | decide) ?_
  refine WL_q rfl (q_move (lk32 rfl <| lk32 rfl <| lk32 rfl <| lk8 rfl <| lk4 rfl <| lk2 rfl <| lk1 rfl <| lk0)) ?_
  refine WL_want rfl rfl (lk1 rfl <| lk0) (by first | rfl | decide) ?_
  refine WL_q rfl (q_eql (lk0) lk_const) ?_
  refine WL_q rfl (q_pick_true (lk2 rfl <| lk0) (by first | rfl | decide) (lk0)) ?_
  refine WL_q rfl (q_move (lk0)) ?_
  refine WL_want rfl rfl (lk0) (by first | rfl | decide) ?_
  refine WL_q rfl (q_move (lk32 rfl <| lk32 rfl <| lk32 rfl <| lk8 rfl <| lk2 rfl <| lk1 rfl <| lk0)) ?_
  refine WL_want rfl rfl (lk1 rfl <| lk0) (by first | rfl | decide) ?_
  refine WL_x rfl (x_build sl_29 zr_3 rfl (.cons lk_const (.cons lk_const .nil)) rfl rfl (by decide) (by simp [Value.oneCell']) fun b89 hb89 nb89 => ?_)
  refine WL_freeze (i := 0) rfl hb89 .here fun F90 hF91 hz92 => ?_
  replace hrm := hrm.mono hF91
  replace hsl10 := hsl10.mono hF91
  replace hsl15 := hsl15.mono hF91
  replace hsl20 := hsl20.mono hF91
  replace hq1 := hq1.mono hF91
  replace hsl29 := hsl29.mono hF91
  replace hsl34 := hsl34.mono hF91
  replace hq2 := hq2.mono hF91
  replace hq3 := hq3.mono hF91
  replace hq4 := hq4.mono hF91
  replace hsl51 := hsl51.mono hF91
  replace hq5 := hq5.mono hF91
  replace hsl60 := hsl60.mono hF91
  replace hq6 := hq6.mono hF91
  replace hrm1 := hrm1.mono hF91
  replace hsl73 := hsl73.mono hF91
  replace hsl78 := hsl78.mono hF91
  replace hsl83 := hsl83.mono hF91
  replace hsl88 := hsl88.mono hF91
  have hsl93 := ints_box2 hz92
  refine WL_want rfl rfl (lk2 rfl <| lk0) (by first | rfl | decide) ?_
  refine WL_c rfl (q_call bd_24 lk_func (.cons (lk1 rfl <| lk0) (.cons (lk0) .nil)) (refInts_ok (Nats.ints hq5) hsl93) (fun _ _ h => h)) ?_
  refine WL_q rfl (q_pick_true (lk2 rfl <| lk1 rfl <| lk0) (by first | rfl | decide) (lk0)) ?_
  refine WL_q rfl (q_move (lk0)) ?_
  refine WL_want rfl rfl (lk0) (by first | rfl | decide) ?_
  refine WL_q rfl (q_move (lk32 rfl <| lk32 rfl <| lk32 rfl <| lk0)) ?_
  refine WL_want rfl rfl (lk1 rfl <| lk0) (by first | rfl | decide) ?_
  refine WL_q rfl (q_eql (lk0) lk_const) ?_
  refine WL_q rfl (q_pick_true (lk2 rfl <| lk0) (by first | rfl | decide) (lk0)) ?_
  refine WL_q rfl (q_move (lk0)) ?_
  refine WL_want rfl rfl (lk0) (by first | rfl | decide) ?_
  refine WL_q rfl (q_move (lk32 rfl <| lk32 rfl <| lk32 rfl <| lk2 rfl <| lk1 rfl <| lk0)) ?_
  refine WL_want rfl rfl (lk1 rfl <| lk0) (by first | rfl | decide) ?_
  refine WL_q rfl (q_eql (lk0) lk_const) ?_
  refine WL_q rfl (q_pick_true (lk2 rfl <| lk0) (by first | rfl | decide) (lk0)) ?_
  refine WL_q rfl (q_assign (lk0)) ?_
  refine WL_nil ?_
  refine then_n ?_
  refine WC_ret ?_
  refine post_ret rfl (.tmp (lk0) .nil) ?_
  show _ = _
  first | rfl | decide
end Go.Proofs.Ytbcjfkcpfjccdaa
namespace Go.Proofs.Ytbcjfkcpfjccdaa
open Go.RowKit
theorem bd_21 : Body Try.prog 21 := body_of (by kernel_rfl)
end Go.Proofs.Ytbcjfkcpfjccdaa
namespace Go.Proofs.Ytbcjfkcpfjccdaa
open Go.RowKit
theorem bit8_eq {m k : Nat} : decide ((((m / 2 ^ k : Nat) : Int) % 2) = 1) = m.testBit k := by
  rw [Nat.testBit_eq_decide_div_mod_eq]
  by_cases h : m / 2 ^ k % 2 = 1
  · rw [decide_eq_true h]; exact decide_eq_true (by omega)
  · rw [decide_eq_false h]; exact decide_eq_false (by omega)
set_option maxRecDepth 100000 in
theorem valid_ok {F : Heap} {vb vr vs vq : Value} {r : Room} (hr : RoomR F vb vr vs vq r) : Ok Try.prog 37 [.agg #[vb, vr, vs, vq]].toArray F fun u _ => u = .bool (decide ((check r).2.2 = 0)) := by
  refine Ok.intro Try.func37 rfl Try.ntmps37 rfl fun w0 => ?_
  refine WC_seq ?_
  refine WC_reg fun ds => ?_
  refine WL_x rfl (x_box (lk_entry rfl) rfl fun b1 hb1 nb1 => ?_)
  refine WL_q rfl (q_assign lk_const) ?_
  refine WL_nil ?_
  refine then_n ?_
  refine WC_seq ?_
  refine WC_reg fun ds => ?_
  refine WL_q rfl (q_loadN agg_27 (lk1 rfl <| lk0) rfl rfl (own_whole 0 rfl)) ?_
  refine WL_c rfl (q_call bd_16 lk_func (.cons (lk0) .nil) (refCheck_ok hr) (fun _ _ h => h.trans (show checkV r = .tuple #[.int .i64 (check r).1, .int .i64 (check r).2.1, .int .i64 (check r).2.2] from rfl))) ?_
  refine WL_q rfl (q_move (lk0)) ?_
  refine WL_q rfl (q_extract (lk0) rfl) ?_
  refine WL_q rfl (q_extract (lk1 rfl <| lk0) rfl) ?_
  refine WL_q rfl (q_extract (lk2 rfl <| lk0) rfl) ?_
  refine WL_q rfl (q_assign (lk2 rfl <| lk0)) ?_
  refine WL_q rfl (q_assign (lk2 rfl <| lk0)) ?_
  refine WL_q rfl (q_assign (lk2 rfl <| lk0)) ?_
  refine WL_nil ?_
  refine then_n ?_
  refine WC_seq ?_
  refine WC_reg fun ds => ?_
  refine WL_q rfl (q_move (lk0)) ?_
  refine WL_q rfl (q_eql (lk0) lk_const) ?_
  refine WL_q rfl (q_assign (lk0)) ?_
  refine WL_nil ?_
  refine then_n ?_
  refine WC_ret ?_
  refine post_ret rfl (.tmp (lk0) .nil) ?_
  rfl
set_option maxRecDepth 100000 in
theorem chosen_ok {F : Heap} {vb vr vs vq : Value} {r : Room} (hr : RoomR F vb vr vs vq r) {bits : Nat} : Ok Try.prog 38 [.agg #[vb, vr, vs, vq], .int .u8 (bits : Int)].toArray F fun u F' => Nats F' u (chosenL r bits) := by
  refine Ok.intro Try.func38 rfl Try.ntmps38 rfl fun w0 => ?_
  have hL1 := hr.reqs.plain.lt
  refine WC_seq ?_
  refine WC_reg fun ds => ?_
  refine WL_x rfl (x_box (lk_entry rfl) rfl fun b1 hb1 nb1 => ?_)
  refine WL_q rfl (q_assign lk_const) ?_
  refine WL_nil ?_
  refine then_n ?_
  refine WC_seq ?_
  refine WC_reg fun ds => ?_
  refine WL_q rfl (q_assign lk_const) ?_
  refine WL_nil ?_
  refine then_n ?_
  refine WC_seq ?_
  refine WC_seq ?_
  refine WC_reg fun ds => ?_
  refine WL_q rfl (q_assign lk_const) ?_
  refine WL_nil ?_
  refine then_n ?_
  refine WC_block ?_
  refine WC_loopN [5, 6, 7, 8, 9, 10, 11, 12, 13, 14, 15, 16, 17, 18, 19, 20, 21, 22, 23, 24, 25, 26] (fun m e σ => ∃ k : Nat, m + k = min r.reqs.length 8 ∧ e 6 = .int .i64 k ∧ ∃ v R, e 5 = v ∧ Own 3 1 v (bitsTo bits k).length ((bitsTo bits k).flatMap natE) R ∧ σ = ⟨F, (b1, bx 27 [vb, vr, vs, vq]) :: R⟩) (min r.reqs.length 8) ?_ ?_
  · exact ⟨0, by omega, (lk0), _, _, (lk1 rfl <| lk0), Own.nil, rfl⟩
  ·
   rintro m e _ ⟨k, hm, hs6, v5, R2, hs5, ho, rfl⟩; have hbl := bitsTo_length (set := bits) (k := k)
   by_cases hlt : k < r.reqs.length
   ·
    refine WC_seq ?_
    refine WC_seq ?_
    refine WC_reg fun ds => ?_
    refine WL_q rfl (q_move (lk_in rfl hs6)) ?_
    refine WL_q rfl (q_fieldAddrB fd_27_3 (lk1 rfl <| lk_off rfl <| lk2 rfl <| lk1 rfl <| lk0)) ?_
    refine WL_q rfl (q_load1 one_25 (lk0) (Cell.own 0 rfl rfl)) ?_
    refine WL_q rfl (q_lenP sl_25 (lk0) hr.reqs.plain) ?_
    refine WL_q rfl (q_lss (lk2 rfl <| lk1 rfl <| lk0) (lk0)) ?_
    refine WL_q rfl (q_move (lk0)) ?_
    refine WL_want rfl rfl (lk0) (by first | rfl | exact decide_eq_true (by omega)) ?_
    refine WL_q rfl (q_move (lk4 rfl <| lk2 rfl <| lk_in rfl hs6)) ?_
    refine WL_want rfl rfl (lk1 rfl <| lk0) (by first | rfl | exact decide_eq_true (by omega)) ?_
    refine WL_q rfl (q_lss (lk0) lk_const) ?_
    refine WL_q rfl (q_pick_true (lk2 rfl <| lk0) (by first | rfl | exact decide_eq_true (by omega)) (lk0)) ?_
    refine WL_nil ?_
    refine then_n ?_
    by_cases h8 : k < 8
    ·
     refine WC_if_true (lk0) (by first | rfl | exact decide_eq_true (by omega)) ?_
     by_cases hb : bits.testBit k = true
     ·
      refine WC_skip ?_
      refine then_n ?_
      refine WC_seq ?_
      refine WC_block ?_
      refine WC_seq ?_
      refine WC_reg fun ds => ?_
      refine WL_q rfl (q_move (lk8 rfl <| lk1 rfl <| lk_off rfl <| lk4 rfl <| lk_entry rfl)) ?_
      refine WL_q rfl (q_move (lk8 rfl <| lk2 rfl <| lk_in rfl hs6)) ?_
      refine WL_q rfl (q_shr (lk1 rfl <| lk0) (lk0) (k := k) rfl (by show k < 8; omega) shr_nat) ?_
      refine WL_q rfl (q_rem (lk0) lk_const (Int.natCast_nonneg _) (by decide)) ?_
      refine WL_q rfl (q_eql (lk0) lk_const) ?_
      refine WL_nil ?_
      refine then_n ?_
      refine WC_if_true (lk0) (by rw [bit8_eq]; exact hb) ?_
      refine WC_reg fun ds => ?_
      refine WL_q rfl (q_move (lk8 rfl <| lk4 rfl <| lk2 rfl <| lk_in rfl hs5)) ?_
      refine WL_q rfl (q_move (lk8 rfl <| lk4 rfl <| lk2 rfl <| lk1 rfl <| lk_in rfl hs6)) ?_
      refine WL_x rfl (x_build sl_29 zr_3 rfl (.cons (lk0) .nil) rfl rfl (by decide) (by simp [Value.oneCell']) fun b3 hb3 nb3 => ?_)
      refine WL_x rfl (x_append sl_29 el_3 (lk2 rfl <| lk0) ho (lk0) (src_box (s := 1) 0 rfl rfl (by simp [Value.oneCell'])) (by omega) (by omega) (.s <| .s <| .z) .last fun v4 R5 ho6 => ?_)
      have ho2 := ho6.snoc (x := k) rfl rfl
      refine WL_q rfl (q_assign (lk0)) ?_
      refine WL_nil ?_
      refine block_n (then_n ?_)
      refine WC_imp (fun _ _ h => h.drop (.cons _ <| .cons_cons _ <| .refl _)) ?_
      refine WC_reg fun ds => ?_
      refine WL_q rfl (q_move (lk16 rfl <| lk2 rfl <| lk1 rfl <| lk_in rfl hs6)) ?_
      refine WL_q rfl (q_add (lk0) lk_const rfl (by omega) (by omega)) ?_
      refine WL_q rfl (q_assign (lk0)) ?_
      refine WL_nil ?_
      refine then_n ⟨_, m - 1, Off.eq (ou16 rfl <| ou4 rfl <| ou2 rfl <| off_over), by omega, ?_⟩
      refine ⟨k + 1, by omega, (lk0), _, _, (lk2 rfl <| lk1 rfl <| lk0), by rw [bitsTo_succ, if_pos hb]; exact ho2, rfl⟩
     ·
      refine WC_skip ?_
      refine then_n ?_
      refine WC_seq ?_
      refine WC_block ?_
      refine WC_seq ?_
      refine WC_reg fun ds => ?_
      refine WL_q rfl (q_move (lk8 rfl <| lk1 rfl <| lk_off rfl <| lk4 rfl <| lk_entry rfl)) ?_
      refine WL_q rfl (q_move (lk8 rfl <| lk2 rfl <| lk_in rfl hs6)) ?_
      refine WL_q rfl (q_shr (lk1 rfl <| lk0) (lk0) (k := k) rfl (by show k < 8; omega) shr_nat) ?_
      refine WL_q rfl (q_rem (lk0) lk_const (Int.natCast_nonneg _) (by decide)) ?_
      refine WL_q rfl (q_eql (lk0) lk_const) ?_
      refine WL_nil ?_
      refine then_n ?_
      refine WC_if_false (lk0) (by rw [bit8_eq]; simpa using hb) ?_
      refine WC_skip ?_
      refine block_n (then_n ?_)
      refine WC_reg fun ds => ?_
      refine WL_q rfl (q_move (lk8 rfl <| lk4 rfl <| lk2 rfl <| lk_in rfl hs6)) ?_
      refine WL_q rfl (q_add (lk0) lk_const rfl (by omega) (by omega)) ?_
      refine WL_q rfl (q_assign (lk0)) ?_
      refine WL_nil ?_
      refine then_n ⟨_, m - 1, Off.eq (ou16 rfl <| ou1 rfl <| off_over), by omega, ?_⟩
      exact ⟨k + 1, by omega, (lk0), _, _, (lk16 rfl <| lk1 rfl <| lk_in rfl hs5), by rw [bitsTo_succ, if_neg hb]; exact ho, rfl⟩
    ·
     refine WC_if_false (lk0) (by first | rfl | exact decide_eq_false (by omega)) ?_
     obtain rfl : k = min r.reqs.length 8 := by omega
     refine WC_freezeR (σ := ⟨_, _⟩) (by rfl) ho (.s <| .z) .last fun F7 hF8 hz9 => ?_
     replace hr := hr.mono hF8
     have hn2 := ho.sl (fun _ => rfl) hz9 (by omega)
     refine WC_exit ?_
     refine then_x (then_x (exit_here ?_))
     refine then_n ?_
     refine WC_seq ?_
     refine WC_reg fun ds => ?_
     refine WL_q rfl (q_move (lk8 rfl <| lk1 rfl <| lk_in rfl hs5)) ?_
     refine WL_q rfl (q_assign (lk0)) ?_
     refine WL_nil ?_
     refine then_n ?_
     refine WC_ret ?_
     refine post_ret rfl (.tmp (lk0) .nil) ?_
     exact hn2
   ·
    refine WC_seq ?_
    refine WC_seq ?_
    refine WC_reg fun ds => ?_
    refine WL_q rfl (q_move (lk_in rfl hs6)) ?_
    refine WL_q rfl (q_fieldAddrB fd_27_3 (lk1 rfl <| lk_off rfl <| lk2 rfl <| lk1 rfl <| lk0)) ?_
    refine WL_q rfl (q_load1 one_25 (lk0) (Cell.own 0 rfl rfl)) ?_
    refine WL_q rfl (q_lenP sl_25 (lk0) hr.reqs.plain) ?_
    refine WL_q rfl (q_lss (lk2 rfl <| lk1 rfl <| lk0) (lk0)) ?_
    refine WL_q rfl (q_move (lk0)) ?_
    refine WL_pass rfl rfl (lk0) (.inl (congrArg Value.bool (by first | rfl | exact decide_eq_false (by omega)))) rfl ?_
    refine WL_pass rfl rfl (lk1 rfl <| lk0) (.inl (congrArg Value.bool (by first | rfl | exact decide_eq_false (by omega)))) rfl ?_
    refine WL_q rfl (q_pick_false (lk2 rfl <| lk0) (by first | rfl | exact decide_eq_false (by omega)) lk_const) ?_
    refine WL_nil ?_
    refine then_n ?_
    refine WC_if_false (lk0) rfl ?_
    obtain rfl : k = min r.reqs.length 8 := by omega
    refine WC_freezeR (σ := ⟨_, _⟩) (by rfl) ho (.s <| .z) .last fun F10 hF11 hz12 => ?_
    replace hr := hr.mono hF11
    have hn2 := ho.sl (fun _ => rfl) hz12 (by omega)
    refine WC_exit ?_
    refine then_x (then_x (exit_here ?_))
    refine then_n ?_
    refine WC_seq ?_
    refine WC_reg fun ds => ?_
    refine WL_q rfl (q_move (lk8 rfl <| lk1 rfl <| lk_in rfl hs5)) ?_
    refine WL_q rfl (q_assign (lk0)) ?_
    refine WL_nil ?_
    refine then_n ?_
    refine WC_ret ?_
    refine post_ret rfl (.tmp (lk0) .nil) ?_
    exact hn2
end Go.Proofs.Ytbcjfkcpfjccdaa
namespace Go.Proofs.Ytbcjfkcpfjccdaa
open Go.RowKit
theorem bd_37 : Body Try.prog 37 := body_of (by kernel_rfl)
theorem bd_38 : Body Try.prog 38 := body_of (by kernel_rfl)
theorem bestV_ok {F : Heap} {vb vr vs vq : Value} {r : Room} (hr : RoomR F vb vr vs vq r) (h0 : (check r).2.2 = 0) : Ok Try.prog 30 [.agg #[vb, vr, vs, vq]].toArray F fun u F' => ∃ ws, u = .tuple #[ws, .int .i64 (bestP r).2, .int .i64 0] ∧ Nats F' ws (bestP r).1 :=
  (best_top_ok hr).mono fun u F2 _ h => by rw [bestE_ok h0] at h; exact h
end Go.Proofs.Ytbcjfkcpfjccdaa
namespace Go.Proofs.Ytbcjfkcpfjccdaa
open Go.RowKit
section
variable {P : Program} {B : Base} {e : Env} {σ : St} {d : Option Nat} {ty : TypeId} {pos : String} {af : Array Edge} {gd : Option (Nat × Bool)}
theorem q_remN {x y : Operand} {a b : Nat} {k : IntKind} {t u : TypeId} (hx : ev e x = .int k (a : Int)) (hy : ev e y = .int k (b : Int)) (hb : 0 < b) :
    OpR P B ⟨d, .binOp .rem t x y u, ty, pos, af, gd⟩ e σ (.int k ((a % b : Nat) : Int)) := by
  have := q_rem (P := P) (B := B) (σ := σ) (d := d) (ty := ty) (pos := pos) (af := af) (gd := gd) (t := t) (u := u) hx hy (Int.natCast_nonneg a) (by omega)
  rwa [← Int.natCast_emod] at this
end
end Go.Proofs.Ytbcjfkcpfjccdaa
namespace Go.Proofs.Ytbcjfkcpfjccdaa
open Go.RowKit
theorem one_5 : OneT Try.prog 5 := oneT_of (by kernel_rfl)
end Go.Proofs.Ytbcjfkcpfjccdaa
namespace Go.Proofs.Ytbcjfkcpfjccdaa
open Go.RowKit
theorem none_le {F F' : Heap} (hF : F.le F') {b : Nat} (h : F' b = none) : F b = none := by
  cases hb : F b with
  | none => rfl
  | some o => have := hF _ _ hb; rw [h] at this; cases this
theorem ext_le {F0 F F' : Heap} (h0 : F0.le F) (hF : F.le F') {b : Nat} (h : F' b = F0 b) : F b = F0 b := by
  cases h2 : F b with
  | some o => rw [← h]; exact (hF _ _ h2).symm
  | none => exact (none_le h0 h2).symm
theorem Holds.weak {B : Base} {F F' : Heap} {H : List (Nat × Obj)} {w : World} (h : Holds B ⟨F', H⟩ w) (hF : F.le F') (h0 : B.F0.le F) : Holds B ⟨F, H⟩ w :=
  ⟨h.os, h.tape, h.output, h.size, h.old, fun b o hb => h.sub b o (hF b o hb), fun p hp => let ⟨h1, h2, h3⟩ := h.own p hp; ⟨h1, none_le hF h2, h3⟩, h.nodup, fun b hb => ext_le h0 hF (h.ext b hb), h0,
    fun D hD => let ⟨h1, h2, h3, h4⟩ := h.marks D hD; ⟨h1, none_le hF h2, h3, h4⟩, h.dnodup⟩
end Go.Proofs.Ytbcjfkcpfjccdaa
namespace Go.Proofs.Ytbcjfkcpfjccdaa
open Go.RowKit
theorem ar_77 : ArrT Try.prog 77 2 5 1 := arrT_of (by kernel_rfl)
end Go.Proofs.Ytbcjfkcpfjccdaa
namespace Go.Proofs.Ytbcjfkcpfjccdaa
open Go.RowKit
theorem el_58 : ElemT Try.prog 58 4 32 (.agg #[.int .i64 0, .int .i64 0, .int .i64 0, .int .i64 0]) := elemT_of (by kernel_rfl) rfl (by decide)
theorem el_66 : ElemT Try.prog 66 2 16 (.agg #[.int .i64 0, .bool false]) := elemT_of (by kernel_rfl) rfl (by decide)
theorem sz_24 : SizeT Try.prog 24 1 := sizeT_of (by kernel_rfl)
theorem sz_25 : SizeT Try.prog 25 1 := sizeT_of (by kernel_rfl)
end Go.Proofs.Ytbcjfkcpfjccdaa
namespace Go.Proofs.Ytbcjfkcpfjccdaa
def easyB (r : Room) (w b : Nat) : List Book := r.books.set (w % r.books.length) { r.bk (w % r.books.length) with lo := min 1000 ((r.bk (w % r.books.length)).lo + b), hi := min 1000 ((r.bk (w % r.books.length)).hi + b) }
def easyR (r : Room) (w b : Nat) : List Rdr := r.readers.set (w % r.readers.length) { r.rd (w % r.readers.length) with permit := min 5 ((r.rd (w % r.readers.length)).permit + ((b % 3 : Nat) : Int)) }
def easyQ (r : Room) (w b : Nat) : List Req := r.reqs.set (w % r.reqs.length) { r.req (w % r.reqs.length) with hours := max 1 ((r.req (w % r.reqs.length)).hours - ((b % 4 : Nat) : Int)) }
def easyS (r : Room) (x : Seat) : List Seat := if r.seats.length < 6 then r.seats ++ [x] else r.seats
def easyRoom (r : Room) (x : Seat) (w0 w1 w2 b0 b1 b2 : Nat) : Room := ⟨easyB r w1 b1, easyR r w0 b0, easyS r x, easyQ r w2 b2⟩
variable {r : Room} {x : Seat} {w0 w1 w2 b0 b1 b2 : Nat}
theorem easy_bk (hv : Valid r) {i : Nat} (hi : i < r.books.length) : ((easyRoom r x w0 w1 w2 b0 b1 b2).bk i).cls = (r.bk i).cls ∧ ((easyRoom r x w0 w1 w2 b0 b1 b2).bk i).large = (r.bk i).large ∧ (r.bk i).lo ≤ ((easyRoom r x w0 w1 w2 b0 b1 b2).bk i).lo := by
  have hb := hv.bo i hi
  unfold Room.bk easyRoom easyB at *
  simp only [List.getElem?_set]
  by_cases h : w1 % r.books.length = i
  · subst h
    simp only [hi, if_true, Option.getD_some]
    refine ⟨rfl, rfl, ?_⟩
    unfold Room.bk at *
    omega
  · rw [if_neg h]; exact ⟨rfl, rfl, Int.le_refl _⟩
theorem easy_rd (hv : Valid r) {i : Nat} (hi : i < r.readers.length) : (r.rd i).permit ≤ ((easyRoom r x w0 w1 w2 b0 b1 b2).rd i).permit := by
  have hb := hv.rd i hi
  unfold Room.rd easyRoom easyR at *
  simp only [List.getElem?_set]
  by_cases h : w0 % r.readers.length = i
  · subst h
    simp only [hi, if_true, Option.getD_some]
    unfold Room.rd at *
    omega
  · rw [if_neg h]; exact Int.le_refl _
theorem easy_req (i : Nat) : ((easyRoom r x w0 w1 w2 b0 b1 b2).req i).reader = (r.req i).reader ∧ ((easyRoom r x w0 w1 w2 b0 b1 b2).req i).book = (r.req i).book ∧ ((easyRoom r x w0 w1 w2 b0 b1 b2).req i).worth = (r.req i).worth ∧ (1 ≤ (r.req i).hours → ((easyRoom r x w0 w1 w2 b0 b1 b2).req i).hours ≤ (r.req i).hours) := by
  unfold Room.req easyRoom easyQ
  simp only [List.getElem?_set]
  by_cases h : w2 % r.reqs.length = i
  · subst h
    by_cases hi : w2 % r.reqs.length < r.reqs.length
    · simp only [hi, if_true, Option.getD_some]
      refine ⟨rfl, rfl, rfl, fun h1 => ?_⟩
      unfold Room.req at *
      omega
    · simp only [if_true, if_neg hi]
      rw [List.getElem?_eq_none (by omega)]
      exact ⟨rfl, rfl, rfl, fun _ => Int.le_refl _⟩
  · rw [if_neg h]; exact ⟨rfl, rfl, rfl, fun _ => Int.le_refl _⟩
theorem easy_seat {s : Nat} (hs : s < r.seats.length) : (easyRoom r x w0 w1 w2 b0 b1 b2).seat s = r.seat s := by
  unfold Room.seat easyRoom easyS
  simp only
  split
  · rw [List.getElem?_append_left hs]
  · rfl
theorem easy_easier (hv : Valid r) : Easier r (easyRoom r x w0 w1 w2 b0 b1 b2) := by
  have hid : ∀ i, (easyRoom r x w0 w1 w2 b0 b1 b2).reader i = r.reader i ∧ (easyRoom r x w0 w1 w2 b0 b1 b2).book i = r.book i ∧ ((easyRoom r x w0 w1 w2 b0 b1 b2).req i).worth = (r.req i).worth := fun i => by
    obtain ⟨h1, h2, h3, -⟩ := easy_req (r := r) (x := x) (w0 := w0) (w1 := w1) (w2 := w2) (b0 := b0) (b1 := b1) (b2 := b2) i
    unfold Room.reader Room.book
    rw [h1, h2]; exact ⟨rfl, rfl, h3⟩
  refine ⟨by simp [easyRoom, easyQ], ?_, hid, fun i s hi hs h => ?_⟩
  · unfold easyRoom easyS; simp only; split <;> simp
  · obtain ⟨h1, h2, h3⟩ := reason_zero.1 h
    obtain ⟨e1, e2, -⟩ := hid i
    have hq := hv.rq i hi
    have hb : r.book i < r.books.length := by unfold Room.book; omega
    have hr : r.reader i < r.readers.length := by unfold Room.reader; omega
    obtain ⟨k1, k2, k3⟩ := easy_bk (x := x) (w0 := w0) (w1 := w1) (w2 := w2) (b0 := b0) (b1 := b1) (b2 := b2) hv hb
    have k4 := easy_rd (x := x) (w0 := w0) (w1 := w1) (w2 := w2) (b0 := b0) (b1 := b1) (b2 := b2) hv hr
    have k5 := easy_seat (x := x) (w0 := w0) (w1 := w1) (w2 := w2) (b0 := b0) (b1 := b1) (b2 := b2) hs
    have k6 := (easy_req (r := r) (x := x) (w0 := w0) (w1 := w1) (w2 := w2) (b0 := b0) (b1 := b1) (b2 := b2) i).2.2.2 (by omega)
    have hst := hv.st s hs
    refine reason_zero.2 ⟨by rw [e1, e2, k1]; omega, by rw [e2, k2, k5]; exact h2, ?_⟩
    rw [e2]
    have : light (easyRoom r x w0 w1 w2 b0 b1 b2) i s ≤ light r i s := by
      unfold light
      rw [k5]
      exact Int.mul_le_mul_of_nonneg_right k6 hst.1
    omega
theorem flat_setR {z : Int} {xs : List Rdr} {b : Nat} (h : b < xs.length) : (xs.flatMap Rdr.enc).set (b * 2 + 1) (.int .i64 z) = (xs.set b { xs[b] with permit := z }).flatMap Rdr.enc := by
  induction xs generalizing b with
  | nil => simp at h
  | cons x xs ih =>
    cases b with
    | zero => simp [Rdr.enc]
    | succ b =>
      have := ih (b := b) (by simpa using h)
      simp only [List.flatMap_cons, List.set_cons_succ, List.getElem_cons_succ]
      rw [← this, show (b + 1) * 2 + 1 = (b * 2 + 1) + 1 + 1 by omega]
      simp [Rdr.enc]
theorem flat_setQ {z : Int} {xs : List Req} {b : Nat} (h : b < xs.length) : (xs.flatMap Req.enc).set (b * 4 + 2) (.int .i64 z) = (xs.set b { xs[b] with hours := z }).flatMap Req.enc := by
  induction xs generalizing b with
  | nil => simp at h
  | cons x xs ih =>
    cases b with
    | zero => simp [Req.enc]
    | succ b =>
      have := ih (b := b) (by simpa using h)
      simp only [List.flatMap_cons, List.set_cons_succ, List.getElem_cons_succ]
      rw [← this, show (b + 1) * 4 + 2 = (b * 4 + 2) + 1 + 1 + 1 + 1 by omega]
      simp [Req.enc]
theorem flat_setL {y z : Int} {xs : List Book} {b : Nat} (h : b < xs.length) : ((xs.flatMap Book.enc).set (b * 5 + 2) (.int .i64 y)).set (b * 5 + 3) (.int .i64 z) = (xs.set b { xs[b] with lo := y, hi := z }).flatMap Book.enc := by
  induction xs generalizing b with
  | nil => simp at h
  | cons x xs ih =>
    cases b with
    | zero => simp [Book.enc]
    | succ b =>
      have := ih (b := b) (by simpa using h)
      simp only [List.flatMap_cons, List.set_cons_succ, List.getElem_cons_succ]
      rw [← this, show (b + 1) * 5 + 2 = (b * 5 + 2) + 1 + 1 + 1 + 1 + 1 by omega, show (b + 1) * 5 + 3 = (b * 5 + 3) + 1 + 1 + 1 + 1 + 1 by omega]
      simp [Book.enc]
end Go.Proofs.Ytbcjfkcpfjccdaa
namespace Go.Proofs.Ytbcjfkcpfjccdaa
open Go.RowKit
section
variable {P : Program} {n : Nat} {B : Base} {e : Env} {σ : St} {d : Option Nat} {ty : TypeId} {pos : String} {af : Array Edge} {gd : Option (Nat × Bool)}
inductive OutE {α : Type} (p : α) : List α → List α → Prop
  | here {us : List α} : OutE p (p :: us) us
  | next {u : α} {us us' : List α} : OutE p us us' → OutE p (u :: us) (u :: us')
  | skip {S us us' : List α} : OutE p us us' → OutE p (S ++ us) (S ++ us')
  | lastS {S : List α} : OutE p (S ++ [p]) S
inductive OutB {α : Type} (R : List α) : List α → List α → Prop
  | here {us : List α} : OutB R (R ++ us) us
  | last : OutB R R []
  | next {u : α} {us us' : List α} : OutB R us us' → OutB R (u :: us) (u :: us')
  | skip {S us us' : List α} : OutB R us us' → OutB R (S ++ us) (S ++ us')
  | lastS {S : List α} : OutB R (S ++ R) S
theorem OutE.perm {α : Type} {p : α} {H H1 : List α} (h : OutE p H H1) : H.Perm (p :: H1) := by
  induction h with
  | here => exact .refl _
  | next _ ih => exact (ih.cons _).trans (.swap _ _ _)
  | skip _ ih => exact (ih.append_left _).trans List.perm_middle
  | lastS => exact List.perm_append_comm
theorem OutB.perm {α : Type} {R H H1 : List α} (h : OutB R H H1) : H.Perm (R ++ H1) := by
  induction h with
  | here => exact .refl _
  | last => rw [List.append_nil]
  | next _ ih => exact (ih.cons _).trans List.perm_middle.symm
  | skip _ ih =>
    refine (ih.append_left _).trans ?_
    rw [← List.append_assoc, ← List.append_assoc]
    exact List.perm_append_comm.append_right _
  | lastS => exact List.perm_append_comm
inductive PickB {α : Type} : List α → List α → Prop
  | nil {H : List α} : PickB H []
  | all {H : List α} : PickB H H
  | one {p : α} {H H1 H' : List α} : OutE p H H1 → PickB H1 H' → PickB H (p :: H')
  | blk {R H H1 H' : List α} : OutB R H H1 → PickB H1 H' → PickB H (R ++ H')
  | lastb {R H H1 : List α} : OutB R H H1 → PickB H R
theorem PickB.sub {α : Type} {H H' : List α} (h : PickB H H') : ∃ D, H.Perm (H' ++ D) := by
  induction h with
  | @nil H => exact ⟨H, by simp⟩
  | all => exact ⟨[], by simp⟩
  | one ho _ ih => obtain ⟨D, hD⟩ := ih; exact ⟨D, ho.perm.trans (hD.cons _)⟩
  | blk ho _ ih => obtain ⟨D, hD⟩ := ih; exact ⟨D, by rw [List.append_assoc]; exact ho.perm.trans (hD.append_left _)⟩
  | lastb ho => exact ⟨_, ho.perm⟩
theorem Holds.pickB {w : World} (h : Holds B σ w) {H' : List (Nat × Obj)} (hp : PickB σ.H H') : Holds B ⟨σ.F, H'⟩ w := by
  obtain ⟨D, hD⟩ := hp.sub
  refine h.perm (fun p hm => hD.symm.mem_iff.1 (List.mem_append_left _ hm)) fun hn => ?_
  have := (hD.map (·.1)).nodup_iff.1 hn
  rw [List.map_append, List.nodup_append] at this
  exact this.1
theorem WC_pickB {c : Code} {Q : Exit → Env → St → Prop} {H' : List (Nat × Obj)} (hp : PickB σ.H H') (h : WC P n B c Q e ⟨σ.F, H'⟩) : WC P n B c Q e σ := WC_imp (fun _ _ hw => hw.pickB hp) h
theorem WX_orderB {ops : Array Oper} {Q : Exit → Env → St → Prop} {σS : St} {ts : List Nat} {fuel : Nat} {listed : Array Bool} {H' : List (Nat × Obj)} (hp : PickB σ.H H') (h : WX P n B ops Q σS ts fuel listed e ⟨σ.F, H'⟩) : WX P n B ops Q σS ts fuel listed e σ := WX_imp (fun _ hw => hw.pickB hp) h
theorem setAt_two {l : List Value} {j : Nat} {a b : Value} : setAt l.toArray j [a, b] = ((l.set j a).set (j + 1) b).toArray := by
  simp [setAt]
theorem x_storeR2 {T E s k j : Nat} {x y : Operand} {v u a b : Value} {cs : List Value} {R TT : List (Nat × Obj)} {f g : List (Nat × Obj) → List (Nat × Obj)} {K : Value → St → Prop} (hT : SizeT P T 2) (hx : ev e x = .pointer (some (addc (base v) j))) (hy : ev e y = u) (hu : u.cells = #[a, b])
    (hown : Own E s v k cs R) (hj : j + 1 < cs.length) (h1 : ∀ z ∈ [a, b], z.oneCell' = true) (hH : Hole σ.H TT f) (hR : Tail TT R g) (hn : ∀ R', Own E s v k ((cs.set j a).set (j + 1) b) R' → K undef ⟨σ.F, f (g R')⟩) : OpX P n B ⟨d, .store T x y, ty, pos, af, gd⟩ e σ K := .run fun w hw => by
  obtain ⟨A, q1, q2⟩ := hH.eq
  obtain ⟨C, r1, r2⟩ := hR.eq
  match R, hown with
  | [], h => obtain ⟨-, -, rfl⟩ := h; simp at hj
  | [(bb, o)], h =>
    obtain ⟨cap, spare, rfl, rfl, h3, h4, h5⟩ := h
    have hH' : σ.H = A ++ ([(bb, bx E (cs ++ spare))] ++ C) := by rw [q1, r1]
    have hb := (hw.own (bb, bx E (cs ++ spare)) (by rw [hH']; simp)).1
    obtain ⟨w', e1, e2, e3, e4, e5, e6, e7⟩ := run_storeCells (P := P) [a, b] j 0 (cs ++ spare).toArray w hb (by simp; omega) h1
    rw [Nat.add_zero, setAt_two] at e6
    have hset : ((cs ++ spare).set j a).set (j + 1) b = (cs.set j a).set (j + 1) b ++ spare := by
      rw [List.set_append_left _ _ (by omega), List.set_append_left _ _ (by simp; omega)]
    rw [hset] at e6
    have had : addc (base (.slice (some ⟨bb, 0, none⟩) k cap)) j = ⟨bb, j, none⟩ := by simp [addc, base]
    rw [had] at hx
    have hrun : (execOp (ev e) ⟨d, .store T x y, ty, pos, af, gd⟩).run P w = .ok .skip w' := by
      simp [execOp, hx, hy, Instr.storeAt, Instr.sureAddr, storeVar, hu, run_size hT, e1]
    have hnew := hn [(bb, bx E ((cs.set j a).set (j + 1) b ++ spare))] ⟨cap, spare, rfl, rfl, by simpa using h3, by simpa using h4, h5⟩
    rw [r2, q2] at hnew
    exact ⟨_, _, _, .inr ⟨hrun, rfl⟩, hw.rewrite hH' e2 e3 e4 e5 e6 e7, hnew⟩
theorem q_and8 {x y : Operand} {m k : Nat} {t u : TypeId} (hx : ev e x = .int .u8 (m : Int)) (hy : ev e y = .int .u8 (k : Int)) (h1 : m < 256) (h2 : k < 256) :
    OpR P B ⟨d, .binOp .and t x y u, ty, pos, af, gd⟩ e σ (.int .u8 ((m &&& k : Nat) : Int)) := fun w _ => by
  have hle : m &&& k ≤ m := Nat.and_le_left
  have e1 : (BitVec.ofInt 8 (m : Int) &&& BitVec.ofInt 8 (k : Int)).toNat = m &&& k := by
    rw [BitVec.ofInt_natCast, BitVec.ofInt_natCast, BitVec.toNat_and, BitVec.toNat_ofNat, BitVec.toNat_ofNat, Nat.mod_eq_of_lt (by omega), Nat.mod_eq_of_lt (by omega)]
  have e2 : IntKind.u8.wrap ((m &&& k : Nat) : Int) = ((m &&& k : Nat) : Int) := IntWalk.u8_in _ ⟨by omega, by omega⟩
  have e3 : Op.intBits .and .u8 (m : Int) (k : Int) = pure (.int .u8 (IntKind.u8.wrap ((BitVec.ofInt 8 (m : Int) &&& BitVec.ofInt 8 (k : Int)).toNat : Int))) := rfl
  rw [e1, e2] at e3
  simp only [execOp, hx, hy, eqGuard, binOp, e3]
  simp
end
end Go.Proofs.Ytbcjfkcpfjccdaa
