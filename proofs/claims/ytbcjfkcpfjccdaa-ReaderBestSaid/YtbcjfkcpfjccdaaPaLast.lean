/-
  ReaderBest returns true of any room, granted requests and request, and leaves what it is handed as it was. No conditions.
-/
import Derived.Test.YtbcjfkcpfjccdaaPaf
import Derived.KernelRfl
namespace Go.Proofs.Ytbcjfkcpfjccdaa
open Go.RowKit
theorem bd_31 : Body Try.prog 31 := body_of (by kernel_rfl)
theorem bd_47 : Body Try.prog 47 := body_of (by kernel_rfl)
theorem bd_77 : Body Try.prog 77 := body_of (by kernel_rfl)
theorem el_62 : ElemT Try.prog 62 5 48 (.agg #[.string ⟨#[]⟩, .int .i64 0, .int .i64 0, .int .i64 0, .bool false]) := elemT_of (by kernel_rfl) rfl (by decide)
theorem sz_22 : SizeT Try.prog 22 1 := sizeT_of (by kernel_rfl)
theorem sz_27 : SizeT Try.prog 27 4 := sizeT_of (by kernel_rfl)
theorem zr_27 : ZeroT Try.prog 27 (.agg #[.slice none 0 0, .slice none 0 0, .slice none 0 0, .slice none 0 0]) := zeroT_of (by kernel_rfl)
set_option maxRecDepth 100000 in
theorem clone_ok {F : Heap} {v : Value} {xs : List Book} (h : Sl F v 5 Book.enc xs) (hn : xs.length ≤ 1000) : OkN Try.prog 77 [v].toArray F fun u F' Hn => Own 62 5 u xs.length (xs.flatMap Book.enc) Hn := by
  obtain ⟨a0, c0, rfl, g1, g2, g3, g4⟩ := h.plain
  refine OkN.intro Try.func77 rfl Try.ntmps77 rfl fun w0 => ?_
  cases a0
  ·
   refine WC_seq ?_
   refine WC_reg fun ds => ?_
   refine WL_q rfl (q_assign lk_const) ?_
   refine WL_nil ?_
   refine then_n ?_
   refine WC_seq ?_
   refine WC_seq ?_
   refine WC_reg fun ds => ?_
   refine WL_q rfl (q_move (lk1 rfl <| lk_entry rfl)) ?_
   refine WL_q rfl (q_eqlNil Try.underlying22 (lk0) lk_const) ?_
   refine WL_nil ?_
   refine then_n ?_
   refine WC_if_true (lk0) rfl ?_
   refine WC_seq ?_
   refine WC_reg fun ds => ?_
   refine WL_q rfl (q_assign lk_const) ?_
   refine WL_nil ?_
   refine then_n ?_
   refine WC_ret ?_
   refine then_r ?_
   refine post_retN rfl (.tmp (lk0) .nil) (List.nil_sublist _) ?_
   obtain ⟨h0, -⟩ := g2 rfl
   have : xs = [] := List.eq_nil_of_length_eq_zero h0
   subst this
   exact own_nil
  ·
   refine WC_seq ?_
   refine WC_reg fun ds => ?_
   refine WL_q rfl (q_assign lk_const) ?_
   refine WL_nil ?_
   refine then_n ?_
   refine WC_seq ?_
   refine WC_seq ?_
   refine WC_reg fun ds => ?_
   refine WL_q rfl (q_move (lk1 rfl <| lk_entry rfl)) ?_
   refine WL_q rfl (q_eqlNil Try.underlying22 (lk0) lk_const) ?_
   refine WL_nil ?_
   refine then_n ?_
   refine WC_if_false (lk0) rfl ?_
   refine WC_skip ?_
   refine then_n ?_
   refine WC_seq ?_
   refine WC_reg fun ds => ?_
   refine WL_x rfl (x_build0 sl_22 fun b1 hb1 nb1 => ?_)
   refine WL_q rfl (q_move (lk4 rfl <| lk_entry rfl)) ?_
   refine WL_x rfl (x_append sl_22 el_62 (lk1 rfl <| lk0) (own_box rfl) (lk0) (h.src (fun _ => rfl) (fun _ => Book.enc_one)) (by omega) (by omega) (.z) .box fun v2 R3 ho4 => ?_)
   have ho1 : Own 62 5 v2 xs.length (xs.flatMap Book.enc) R3 := by simpa using ho4
   refine WL_q rfl (q_assign (lk0)) ?_
   refine WL_nil ?_
   refine then_n ?_
   refine WC_ret ?_
   refine post_retN rfl (.tmp (lk0) .nil) (List.sublist_append_left _ _) ?_
   exact ho1
set_option maxRecDepth 100000 in
theorem refMeasured_ok {F : Heap} {vb vr vs vq : Value} {r : Room} (hr : RoomR F vb vr vs vq r) {k : Nat} (hlt : k < r.books.length) (hn : r.books.length ≤ 1000) : Ok Try.prog 47 [.agg #[vb, vr, vs, vq], .int .i64 (k : Int)].toArray F fun u F' => ∃ wb, u = .agg #[wb, vr, vs, vq] ∧ RoomR F' wb vr vs vq (measured r k) := by
  refine Ok.intro Try.func47 rfl Try.ntmps47 rfl fun w0 => ?_
  refine WC_seq ?_
  refine WC_reg fun ds => ?_
  refine WL_x rfl (x_box (lk_entry rfl) rfl fun b1 hb1 nb1 => ?_)
  refine WL_x rfl (x_alloc zr_27 rfl fun b2 hb2 nb2 => ?_)
  refine WL_nil ?_
  refine then_n ?_
  refine WC_seq ?_
  refine WC_reg fun ds => ?_
  refine WL_x rfl (x_build0 sl_22 fun b3 hb3 nb3 => ?_)
  refine WL_q rfl (q_fieldAddrB fd_27_0 (lk2 rfl <| lk0)) ?_
  refine WL_q rfl (q_load1 one_22 (lk0) (Cell.own 2 rfl rfl)) ?_
  refine WL_x rfl (x_append sl_22 el_62 (lk2 rfl <| lk0) (own_box rfl) (lk0) (hr.books.src (fun _ => rfl) (fun _ => Book.enc_one)) (by omega) (by omega) (.z) .box fun v4 R5 ho6 => ?_)
  have ho1 : Own 62 5 v4 r.books.length (r.books.flatMap Book.enc) R5 := by simpa using ho6
  refine WL_rot rfl ?_
  refine WL_q rfl (q_fieldAddrB fd_27_0 (lk4 rfl <| lk1 rfl <| lk0)) ?_
  refine WL_x0 (x_store1 sz_22 (lk0) (lk1 rfl <| lk0) (i := 1) rfl (.here) ho1.one (.next <| .here) ?_)
  refine WL_nil ?_
  refine then_n ?_
  refine WC_seq ?_
  refine WC_drawS (.inl rfl) (fun _ _ h => h) (.cons_cons _ <| .cons_cons _ <| .refl _) [13] (by kernel_rfl) fun ds => ?_
  refine WX_take 0 rfl (by kernel_rfl) (by kernel_rfl) (by kernel_rfl) (by kernel_rfl) rfl rfl (fun _ h => h.drop (.cons_cons _ <| .cons_cons _ <| .refl _)) (fun _ _ _ h => h) (q_fieldAddrB fd_27_0 (lk4 rfl <| lk2 rfl <| lk0)) ?_
  refine WX_take 1 rfl (by kernel_rfl) (by kernel_rfl) (by kernel_rfl) (by kernel_rfl) rfl rfl (fun _ h => h.drop (.cons_cons _ <| .cons_cons _ <| .refl _)) (fun _ _ _ h => h) (q_load1 one_22 (lk0) (Cell.own 1 rfl rfl)) ?_
  refine WX_take 2 rfl (by kernel_rfl) (by kernel_rfl) (by kernel_rfl) (by kernel_rfl) rfl rfl (fun _ h => h.drop (.cons_cons _ <| .cons_cons _ <| .refl _)) (fun _ _ _ h => h) (q_move (lk8 rfl <| lk1 rfl <| lk_entry rfl)) ?_
  refine WX_take 3 rfl (by kernel_rfl) (by kernel_rfl) (by kernel_rfl) (by kernel_rfl) rfl rfl (fun _ h => h.drop (.cons_cons _ <| .cons_cons _ <| .refl _)) (fun _ _ _ h => h) (q_fieldAddrB fd_27_0 (lk8 rfl <| lk1 rfl <| lk0)) ?_
  refine WX_take 4 rfl (by kernel_rfl) (by kernel_rfl) (by kernel_rfl) (by kernel_rfl) rfl rfl (fun _ h => h.drop (.cons_cons _ <| .cons_cons _ <| .refl _)) (fun _ _ _ h => h) (q_load1 one_22 (lk0) (Cell.own 1 rfl rfl)) ?_
  refine WX_take 5 rfl (by kernel_rfl) (by kernel_rfl) (by kernel_rfl) (by kernel_rfl) rfl rfl (fun _ h => h.drop (.cons_cons _ <| .cons_cons _ <| .refl _)) (fun _ _ _ h => h) (q_move (lk8 rfl <| lk4 rfl <| lk_entry rfl)) ?_
  refine WX_take 6 rfl (by kernel_rfl) (by kernel_rfl) (by kernel_rfl) (by kernel_rfl) rfl rfl (fun _ h => h.drop (.cons_cons _ <| .cons_cons _ <| .refl _)) (fun _ _ _ h => h) (q_index (k := k) sl_22 (lk1 rfl <| lk0) (ho1.plain (by omega)) (lk0) rfl hlt) ?_
  refine WX_take 7 rfl (by kernel_rfl) (by kernel_rfl) (by kernel_rfl) (by kernel_rfl) rfl rfl (fun _ h => h.drop (.cons_cons _ <| .cons_cons _ <| .refl _)) (fun _ _ _ h => h) (q_fieldAddr fd_62_2 (lk0)) ?_
  refine WX_take 8 rfl (by kernel_rfl) (by kernel_rfl) (by kernel_rfl) (by kernel_rfl) rfl rfl (fun _ h => h.drop (.cons_cons _ <| .cons_cons _ <| .refl _)) (fun _ _ _ h => h) (q_fieldAddr fd_60_1 (lk0)) ?_
  refine WX_take 9 rfl (by kernel_rfl) (by kernel_rfl) (by kernel_rfl) (by kernel_rfl) rfl rfl (fun _ h => h.drop (.cons_cons _ <| .cons_cons _ <| .refl _)) (fun _ _ _ h => h) (q_load1 one_3 (lk0) (show Cell _ _ (.int .i64 (r.bk k).hi) from own_cell ho1 (fun p hp => .tail _ (.tail _ hp)) (flat_bk (j := 3) hlt rfl))) ?_
  refine WX_take 10 rfl (by kernel_rfl) (by kernel_rfl) (by kernel_rfl) (by kernel_rfl) rfl rfl (fun _ h => h.drop (.cons_cons _ <| .cons_cons _ <| .refl _)) (fun _ _ _ h => h) (q_index (k := k) sl_22 (lk8 rfl <| lk0) (ho1.plain (by omega)) (lk4 rfl <| lk2 rfl <| lk1 rfl <| lk0) rfl hlt) ?_
  refine WX_take 11 rfl (by kernel_rfl) (by kernel_rfl) (by kernel_rfl) (by kernel_rfl) rfl rfl (fun _ h => h.drop (.cons_cons _ <| .cons_cons _ <| .refl _)) (fun _ _ _ h => h) (q_fieldAddr fd_62_2 (lk0)) ?_
  refine WX_take 12 rfl (by kernel_rfl) (by kernel_rfl) (by kernel_rfl) (by kernel_rfl) rfl rfl (fun _ h => h.drop (.cons_cons _ <| .cons_cons _ <| .refl _)) (fun _ _ _ h => h) (q_fieldAddr fd_60_0 (lk0)) ?_
  refine WX_x0 13 rfl (by kernel_rfl) (x_storeR sz_3 (lk0) (lk2 rfl <| lk1 rfl <| lk0) ho1 (by rw [flat_bk_len]; omega) rfl (.s <| .s .z) .last fun R3 ho3 => ⟨(fun h => nomatch h), ?_⟩)
  refine WX_done (by kernel_rfl) ?_ _
  refine then_n ?_
  refine WC_seq ?_
  rw [show k * 5 + 2 + 0 = k * 5 + 2 from rfl, flat_setB hlt, measured_set hlt] at ho3
  have ho9 := ho3.to (measured_len (r := r) (b := k)).symm
  refine WC_freezeR (σ := ⟨_, _⟩) (by rfl) ho9 (.s <| .s <| .z) .last fun F7 hF8 hz9 => ?_
  replace hr := hr.mono hF8
  have hmb := ho9.sl (fun _ => rfl) hz9 (by rw [measured_len]; omega)
  have hrm := (⟨hmb, hr.readers, hr.seats, hr.reqs⟩ : RoomR _ _ vr vs vq (measured r k))
  refine WC_reg fun ds => ?_
  refine WL_q rfl (q_loadN agg_27 (lk16 rfl <| lk2 rfl <| lk1 rfl <| lk0) rfl rfl (own_whole 1 rfl)) ?_
  refine WL_x0 (x_storeA sz_27 (lk16 rfl <| lk2 rfl <| lk1 rfl <| lk0) (lk0) (i := 0) rfl rfl rfl rfl hrm.ones (.here) ?_)
  refine WL_nil ?_
  refine then_n ?_
  refine WC_ret ?_
  refine post_ret rfl (.agg agg_27 (lk16 rfl <| lk2 rfl <| lk1 rfl <| lk0) rfl rfl (own_whole 0 rfl) .nil) ?_
  exact ⟨_, rfl, hrm⟩
set_option maxRecDepth 100000 in
theorem ask_top_ok {F : Heap} {vb vr vs vq : Value} {r : Room} (hr : RoomR F vb vr vs vq r) : Ok Try.prog 34 [.agg #[vb, vr, vs, vq]].toArray F fun u _ => u = trip (askE r) := by
  refine Ok.intro Try.func34 rfl Try.ntmps34 rfl fun w0 => ?_
  have hL1 := hr.books.plain.lt
  by_cases h0 : (check r).2.2 = 0
  ·
   have hv := valid_of h0
   refine WC_seq ?_
   refine WC_reg fun ds => ?_
   refine WL_x rfl (x_box (lk_entry rfl) rfl fun b1 hb1 nb1 => ?_)
   refine WL_q rfl (q_assign lk_const) ?_
   refine WL_q rfl (q_assign lk_const) ?_
   refine WL_q rfl (q_assign lk_const) ?_
   refine WL_nil ?_
   refine then_n ?_
   refine WC_seq ?_
   refine WC_reg fun ds => ?_
   refine WL_q rfl (q_loadN agg_27 (lk2 rfl <| lk1 rfl <| lk0) rfl rfl (own_whole 0 rfl)) ?_
   refine WL_x rfl (x_call bd_57 lk_func (.cons (lk0) (.cons lk_const .nil)) (enter_good hr (Sl.nil : Ints F _ []) (someErr_nil.trans h0)) fun v2 F3 hr4 hF5 => ?_)
   replace hr := hr.mono hF5
   obtain ⟨p, rfl, hlk⟩ := hr4
   obtain ⟨b, c1, c8, c3, wb, wr, ws, wq, wl, rfl, hX⟩ := hlk
   refine WL_q rfl (q_move (lk0)) ?_
   refine WL_q rfl (q_extract (lk0) rfl) ?_
   refine WL_q rfl (q_extract (lk1 rfl <| lk0) rfl) ?_
   refine WL_q rfl (q_assign (lk1 rfl <| lk0)) ?_
   refine WL_q rfl (q_assign (lk1 rfl <| lk0)) ?_
   refine WL_nil ?_
   refine then_n ?_
   refine WC_seq ?_
   refine WC_seq ?_
   refine WC_reg fun ds => ?_
   refine WL_q rfl (q_move (lk0)) ?_
   refine WL_q rfl (q_neq (lk0) lk_const) ?_
   refine WL_nil ?_
   refine then_n ?_
   refine WC_if_false (lk0) (by decide) ?_
   refine WC_skip ?_
   refine then_n ?_
   refine WC_seq ?_
   refine WC_reg fun ds => ?_
   refine WL_q rfl (q_move (lk2 rfl <| lk1 rfl <| lk0)) ?_
   refine WL_x rfl (x_call bd_67 lk_func (.cons (lk0) .nil) (best_ok hX hv) fun v6 F7 hr8 hF9 => ?_)
   replace hr := hr.mono hF9
   replace hX := hX.mono hF9
   obtain ⟨ws0, rfl, hws0, hmem0⟩ := hr8
   refine WL_q rfl (q_move (lk0)) ?_
   refine WL_q rfl (q_extract (lk0) rfl) ?_
   refine WL_q rfl (q_extract (lk1 rfl <| lk0) rfl) ?_
   refine WL_q rfl (q_assign (lk1 rfl <| lk0)) ?_
   refine WL_q rfl (q_assign (lk1 rfl <| lk0)) ?_
   refine WL_nil ?_
   refine then_n ?_
   refine WC_seq ?_
   refine WC_seq ?_
   refine WC_reg fun ds => ?_
   refine WL_q rfl (q_fieldAddrB fd_27_0 (lk16 rfl <| lk2 rfl <| lk1 rfl <| lk0)) ?_
   refine WL_q rfl (q_load1 one_22 (lk0) (Cell.own 0 rfl rfl)) ?_
   refine WL_q rfl (q_lenP sl_22 (lk0) hr.books.plain) ?_
   refine WL_q rfl (q_move lk_const) ?_
   refine WL_nil ?_
   refine then_n ?_
   refine WC_block ?_
   refine WC_loopN [2, 3, 8, 9, 10, 11, 28, 29, 30, 31, 32, 33, 34, 35, 36, 37, 38, 39, 40, 41, 42, 43, 44, 45, 46, 47, 48, 49, 50, 51, 52, 53, 54, 55, 56, 57, 58, 59, 60, 61, 62, 63, 64] (fun m e σ => ∃ G, RoomR G vb vr vs vq r ∧ ∃ k : Nat, m + k = r.books.length ∧ e 28 = .int .i64 k ∧ e 2 = .int .i64 ((askTo (bestP r).2 (fun b => (bestP (measured r b)).2) k).1 : Nat) ∧ e 3 = .int .i64 (askTo (bestP r).2 (fun b => (bestP (measured r b)).2) k).2 ∧ σ = ⟨G, [(b1, bx 27 [vb, vr, vs, vq])]⟩) (r.books.length) ?_ ?_
   · exact ⟨_, hr, 0, by omega, (lk0), (lk16 rfl <| lk4 rfl <| lk2 rfl <| lk0), (lk16 rfl <| lk4 rfl <| lk1 rfl <| lk0), rfl⟩
   ·
    rintro m e _ ⟨G, hr, k, hm1, hs28, hs2, hs3, rfl⟩
    by_cases hlt : k < r.books.length
    ·
     refine WC_seq ?_
     refine WC_reg fun ds => ?_
     refine WL_q rfl (q_lss (lk_in rfl hs28) (lk_off rfl <| lk1 rfl <| lk0)) ?_
     refine WL_nil ?_
     refine then_n ?_
     refine WC_seq ?_
     refine WC_if_true (lk0) (by first | rfl | exact decide_eq_true (by omega)) ?_
     have hnb := hv.nb
     have hvm := valid_measured hv hlt
     have hb1 := bestP_bound hv
     have hb2 := bestP_bound hvm
     refine WC_skip ?_
     refine then_n ?_
     refine WC_seq ?_
     refine WC_block ?_
     refine WC_seq ?_
     refine WC_reg fun ds => ?_
     refine WL_q rfl (q_move (lk1 rfl <| lk_in rfl hs28)) ?_
     refine WL_q rfl (q_assign (lk0)) ?_
     refine WL_nil ?_
     refine then_n ?_
     refine WC_seq ?_
     refine WC_reg fun ds => ?_
     refine WL_q rfl (q_loadN agg_27 (lk2 rfl <| lk1 rfl <| lk_off rfl <| lk16 rfl <| lk4 rfl <| lk2 rfl <| lk1 rfl <| lk0) rfl rfl (own_whole 0 rfl)) ?_
     refine WL_x rfl (x_alloc zr_27 rfl fun b11 hb11 nb11 => ?_)
     refine WL_x0 (x_storeA sz_27 (lk0) (lk1 rfl <| lk0) (i := 0) rfl rfl rfl rfl hr.ones (.here) ?_)
     refine WL_nil ?_
     refine then_n ?_
     refine WC_seq ?_
     refine WC_reg fun ds => ?_
     refine WL_q rfl (q_fieldAddrB fd_27_0 (lk4 rfl <| lk1 rfl <| lk_off rfl <| lk16 rfl <| lk4 rfl <| lk2 rfl <| lk1 rfl <| lk0)) ?_
     refine WL_q rfl (q_load1 one_22 (lk0) (Cell.own 1 rfl rfl)) ?_
     refine WL_x rfl (x_callN bd_77 lk_func (.cons (lk0) .nil) (clone_ok hr.books (by omega)) fun v12 F13 R16 hr14 hF15 => ?_)
     replace hr := hr.mono hF15
     have hoC := hr14
     refine WL_q rfl (q_fieldAddrB fd_27_0 (lk2 rfl <| lk1 rfl <| lk0)) ?_
     refine WL_x0 (x_store1 sz_22 (lk0) (lk1 rfl <| lk0) (i := 0) rfl (.here) hoC.one (.here) ?_)
     refine WL_nil ?_
     refine then_n ?_
     refine WC_seq ?_
     refine WC_drawS (.inl rfl) (fun _ _ h => h) (.cons_cons _ <| .cons_cons _ <| .refl _) [13] (by kernel_rfl) fun ds => ?_
     refine WX_take 0 rfl (by kernel_rfl) (by kernel_rfl) (by kernel_rfl) (by kernel_rfl) rfl rfl (fun _ h => h.drop (.cons_cons _ <| .cons_cons _ <| .refl _)) (fun _ _ _ h => h) (q_fieldAddrB fd_27_0 (lk4 rfl <| lk0)) ?_
     refine WX_take 1 rfl (by kernel_rfl) (by kernel_rfl) (by kernel_rfl) (by kernel_rfl) rfl rfl (fun _ h => h.drop (.cons_cons _ <| .cons_cons _ <| .refl _)) (fun _ _ _ h => h) (q_load1 one_22 (lk0) (Cell.own 0 rfl rfl)) ?_
     refine WX_take 2 rfl (by kernel_rfl) (by kernel_rfl) (by kernel_rfl) (by kernel_rfl) rfl rfl (fun _ h => h.drop (.cons_cons _ <| .cons_cons _ <| .refl _)) (fun _ _ _ h => h) (q_move (lk8 rfl <| lk0)) ?_
     refine WX_take 3 rfl (by kernel_rfl) (by kernel_rfl) (by kernel_rfl) (by kernel_rfl) rfl rfl (fun _ h => h.drop (.cons_cons _ <| .cons_cons _ <| .refl _)) (fun _ _ _ h => h) (q_fieldAddrB fd_27_0 (lk4 rfl <| lk2 rfl <| lk1 rfl <| lk0)) ?_
     refine WX_take 4 rfl (by kernel_rfl) (by kernel_rfl) (by kernel_rfl) (by kernel_rfl) rfl rfl (fun _ h => h.drop (.cons_cons _ <| .cons_cons _ <| .refl _)) (fun _ _ _ h => h) (q_load1 one_22 (lk0) (Cell.own 0 rfl rfl)) ?_
     refine WX_take 5 rfl (by kernel_rfl) (by kernel_rfl) (by kernel_rfl) (by kernel_rfl) rfl rfl (fun _ h => h.drop (.cons_cons _ <| .cons_cons _ <| .refl _)) (fun _ _ _ h => h) (q_move (lk8 rfl <| lk2 rfl <| lk1 rfl <| lk0)) ?_
     refine WX_take 6 rfl (by kernel_rfl) (by kernel_rfl) (by kernel_rfl) (by kernel_rfl) rfl rfl (fun _ h => h.drop (.cons_cons _ <| .cons_cons _ <| .refl _)) (fun _ _ _ h => h) (q_index (k := k) sl_22 (lk1 rfl <| lk0) (hoC.plain (by omega)) (lk0) rfl hlt) ?_
     refine WX_take 7 rfl (by kernel_rfl) (by kernel_rfl) (by kernel_rfl) (by kernel_rfl) rfl rfl (fun _ h => h.drop (.cons_cons _ <| .cons_cons _ <| .refl _)) (fun _ _ _ h => h) (q_fieldAddr fd_62_2 (lk0)) ?_
     refine WX_take 8 rfl (by kernel_rfl) (by kernel_rfl) (by kernel_rfl) (by kernel_rfl) rfl rfl (fun _ h => h.drop (.cons_cons _ <| .cons_cons _ <| .refl _)) (fun _ _ _ h => h) (q_fieldAddr fd_60_1 (lk0)) ?_
     refine WX_take 9 rfl (by kernel_rfl) (by kernel_rfl) (by kernel_rfl) (by kernel_rfl) rfl rfl (fun _ h => h.drop (.cons_cons _ <| .cons_cons _ <| .refl _)) (fun _ _ _ h => h) (q_load1 one_3 (lk0) (show Cell _ _ (.int .i64 (r.bk k).hi) from own_cell hoC (fun p hp => .tail _ (.tail _ hp)) (flat_bk (j := 3) hlt rfl))) ?_
     refine WX_take 10 rfl (by kernel_rfl) (by kernel_rfl) (by kernel_rfl) (by kernel_rfl) rfl rfl (fun _ h => h.drop (.cons_cons _ <| .cons_cons _ <| .refl _)) (fun _ _ _ h => h) (q_index (k := k) sl_22 (lk8 rfl <| lk0) (hoC.plain (by omega)) (lk4 rfl <| lk2 rfl <| lk1 rfl <| lk0) rfl hlt) ?_
     refine WX_take 11 rfl (by kernel_rfl) (by kernel_rfl) (by kernel_rfl) (by kernel_rfl) rfl rfl (fun _ h => h.drop (.cons_cons _ <| .cons_cons _ <| .refl _)) (fun _ _ _ h => h) (q_fieldAddr fd_62_2 (lk0)) ?_
     refine WX_take 12 rfl (by kernel_rfl) (by kernel_rfl) (by kernel_rfl) (by kernel_rfl) rfl rfl (fun _ h => h.drop (.cons_cons _ <| .cons_cons _ <| .refl _)) (fun _ _ _ h => h) (q_fieldAddr fd_60_0 (lk0)) ?_
     refine WX_x0 13 rfl (by kernel_rfl) (x_storeR sz_3 (lk0) (lk2 rfl <| lk1 rfl <| lk0) hoC (by rw [flat_bk_len]; omega) rfl (.s <| .s .z) .last fun R3 ho3 => ⟨(fun h => nomatch h), ?_⟩)
     refine WX_done (by kernel_rfl) ?_ _
     refine then_n ?_
     refine WC_seq ?_
     rw [show k * 5 + 2 + 0 = k * 5 + 2 from rfl, flat_setB hlt, measured_set hlt] at ho3
     have ho9 := ho3.to (measured_len (r := r) (b := k)).symm
     refine WC_freezeR (σ := ⟨_, _⟩) (by rfl) ho9 (.s <| .s <| .z) .last fun F17 hF18 hz19 => ?_
     replace hr := hr.mono hF18
     have hmb := ho9.sl (fun _ => rfl) hz19 (by rw [measured_len]; omega)
     have hrm := (⟨hmb, hr.readers, hr.seats, hr.reqs⟩ : RoomR _ _ vr vs vq (measured r k))
     refine WC_reg fun ds => ?_
     refine WL_q rfl (q_loadN agg_27 (lk16 rfl <| lk1 rfl <| lk0) rfl rfl (own_whole 0 rfl)) ?_
     refine WL_x rfl (x_call bd_78 lk_func (.cons (lk0) .nil) (look_ok hrm hvm) fun v20 F21 hr22 hF23 => ?_)
     replace hr := hr.mono hF23
     replace hmb := hmb.mono hF23
     replace hrm := hrm.mono hF23
     obtain ⟨b2, c12, c82, c32, xb, xr, xs2, xq, xl, rfl, hX2⟩ := hr22
     refine WL_x rfl (x_call bd_67 lk_func (.cons (lk0) .nil) (best_ok hX2 hvm) fun v24 F25 hr26 hF27 => ?_)
     replace hr := hr.mono hF27
     replace hmb := hmb.mono hF27
     replace hrm := hrm.mono hF27
     replace hX2 := hX2.mono hF27
     obtain ⟨ws2, rfl, hws2, hmem2⟩ := hr26
     refine WL_q rfl (q_move (lk0)) ?_
     refine WL_q rfl (q_extract (lk0) rfl) ?_
     refine WL_q rfl (q_extract (lk1 rfl <| lk0) rfl) ?_
     refine WL_q rfl (q_assign (lk1 rfl <| lk0)) ?_
     refine WL_q rfl (q_assign (lk1 rfl <| lk0)) ?_
     refine WL_nil ?_
     refine then_n ?_
     refine WC_seq ?_
     by_cases hw : (askTo (bestP r).2 (fun b => (bestP (measured r b)).2) k).2 < (bestP (measured r k)).2 - (bestP r).2
     ·
      refine WC_reg fun ds => ?_
      refine WL_q rfl (q_move (lk0)) ?_
      refine WL_q rfl (q_move (lk16 rfl <| lk8 rfl <| lk4 rfl <| lk2 rfl <| lk1 rfl <| lk_off rfl <| lk4 rfl <| lk0)) ?_
      refine WL_q rfl (q_sub (lk1 rfl <| lk0) (lk0) rfl (by omega) (by omega)) ?_
      refine WL_q rfl (q_move (lk32 rfl <| lk1 rfl <| lk_in rfl hs3)) ?_
      refine WL_q rfl (q_gtr (lk1 rfl <| lk0) (lk0)) ?_
      refine WL_nil ?_
      refine then_n ?_
      refine WC_if_true (lk0) (decide_eq_true hw) ?_
      refine WC_reg fun ds => ?_
      refine WL_q rfl (q_move (lk32 rfl <| lk0)) ?_
      refine WL_q rfl (q_move (lk4 rfl <| lk2 rfl <| lk0)) ?_
      refine WL_q rfl (q_move (lk32 rfl <| lk4 rfl <| lk1 rfl <| lk_off rfl <| lk4 rfl <| lk0)) ?_
      refine WL_q rfl (q_sub (lk1 rfl <| lk0) (lk0) rfl (by omega) (by omega)) ?_
      refine WL_q rfl (q_assign (lk2 rfl <| lk1 rfl <| lk0)) ?_
      refine WL_q rfl (q_assign (lk1 rfl <| lk0)) ?_
      refine WL_nil ?_
      refine block_n (then_n ?_)
      refine WC_imp (fun _ _ h => h.drop (.cons _ <| .cons_cons _ <| .refl _)) ?_
      refine WC_reg fun ds => ?_
      refine WL_q rfl (q_add (lk32 rfl <| lk8 rfl <| lk1 rfl <| lk_in rfl hs28) lk_const rfl (by omega) (by omega)) ?_
      refine WL_q rfl (q_move (lk0)) ?_
      refine WL_nil ?_
      refine then_n ⟨_, m - 1, Off.eq (ou32 rfl <| ou8 rfl <| ou2 rfl <| ou1 rfl <| off_over), by omega, ?_⟩
      exact ⟨_, hr, k + 1, by omega, (lk0), by rw [askTo_yes hw]; exact (lk2 rfl <| lk1 rfl <| lk0), by rw [askTo_yes hw]; exact (lk2 rfl <| lk0), rfl⟩
     ·
      refine WC_reg fun ds => ?_
      refine WL_q rfl (q_move (lk0)) ?_
      refine WL_q rfl (q_move (lk16 rfl <| lk8 rfl <| lk4 rfl <| lk2 rfl <| lk1 rfl <| lk_off rfl <| lk4 rfl <| lk0)) ?_
      refine WL_q rfl (q_sub (lk1 rfl <| lk0) (lk0) rfl (by omega) (by omega)) ?_
      refine WL_q rfl (q_move (lk32 rfl <| lk1 rfl <| lk_in rfl hs3)) ?_
      refine WL_q rfl (q_gtr (lk1 rfl <| lk0) (lk0)) ?_
      refine WL_nil ?_
      refine then_n ?_
      refine WC_if_false (lk0) (decide_eq_false hw) ?_
      refine WC_skip ?_
      refine block_n (then_n ?_)
      refine WC_imp (fun _ _ h => h.drop (.cons _ <| .cons_cons _ <| .refl _)) ?_
      refine WC_reg fun ds => ?_
      refine WL_q rfl (q_add (lk32 rfl <| lk2 rfl <| lk1 rfl <| lk_in rfl hs28) lk_const rfl (by omega) (by omega)) ?_
      refine WL_q rfl (q_move (lk0)) ?_
      refine WL_nil ?_
      refine then_n ⟨_, m - 1, Off.eq (ou32 rfl <| ou4 rfl <| ou1 rfl <| off_over), by omega, ?_⟩
      exact ⟨_, hr, k + 1, by omega, (lk0), by rw [askTo_no hw]; exact (lk32 rfl <| lk4 rfl <| lk1 rfl <| lk_in rfl hs2), by rw [askTo_no hw]; exact (lk32 rfl <| lk4 rfl <| lk1 rfl <| lk_in rfl hs3), rfl⟩
    ·
     refine WC_seq ?_
     refine WC_reg fun ds => ?_
     refine WL_q rfl (q_lss (lk_in rfl hs28) (lk_off rfl <| lk1 rfl <| lk0)) ?_
     refine WL_nil ?_
     refine then_n ?_
     refine WC_seq ?_
     refine WC_if_false (lk0) (by first | rfl | exact decide_eq_false (by omega)) ?_
     obtain rfl : k = r.books.length := by omega
     by_cases h9 : (askTo (bestP r).2 (fun b => (bestP (measured r b)).2) r.books.length).2 = 0
     ·
      refine WC_exit ?_
      refine then_x (then_x (exit_here ?_))
      refine then_n ?_
      refine WC_seq ?_
      refine WC_seq ?_
      refine WC_reg fun ds => ?_
      refine WL_q rfl (q_move (lk1 rfl <| lk_in rfl hs3)) ?_
      refine WL_q rfl (q_eql (lk0) lk_const) ?_
      refine WL_nil ?_
      refine then_n ?_
      refine WC_if_true (lk0) (decide_eq_true h9) ?_
      refine WC_seq ?_
      refine WC_reg fun ds => ?_
      refine WL_q rfl (q_assign lk_const) ?_
      refine WL_q rfl (q_assign lk_const) ?_
      refine WL_q rfl (q_assign lk_const) ?_
      refine WL_nil ?_
      refine then_n ?_
      refine WC_ret ?_
      refine then_r ?_
      refine post_ret rfl (.tmp (lk2 rfl <| lk0) (.tmp (lk1 rfl <| lk0) (.tmp (lk0) .nil))) ?_
      rw [askE_ok h0]; unfold askV; rw [if_pos h9]; rfl
     ·
      refine WC_exit ?_
      refine then_x (then_x (exit_here ?_))
      refine then_n ?_
      refine WC_seq ?_
      refine WC_seq ?_
      refine WC_reg fun ds => ?_
      refine WL_q rfl (q_move (lk1 rfl <| lk_in rfl hs3)) ?_
      refine WL_q rfl (q_eql (lk0) lk_const) ?_
      refine WL_nil ?_
      refine then_n ?_
      refine WC_if_false (lk0) (decide_eq_false h9) ?_
      refine WC_skip ?_
      refine then_n ?_
      refine WC_seq ?_
      refine WC_reg fun ds => ?_
      refine WL_q rfl (q_move (lk2 rfl <| lk1 rfl <| lk_in rfl hs2)) ?_
      refine WL_q rfl (q_move (lk4 rfl <| lk_in rfl hs3)) ?_
      refine WL_q rfl (q_assign (lk1 rfl <| lk0)) ?_
      refine WL_q rfl (q_assign (lk1 rfl <| lk0)) ?_
      refine WL_q rfl (q_assign lk_const) ?_
      refine WL_nil ?_
      refine then_n ?_
      refine WC_ret ?_
      refine post_ret rfl (.tmp (lk2 rfl <| lk0) (.tmp (lk1 rfl <| lk0) (.tmp (lk0) .nil))) ?_
      rw [askE_ok h0]; unfold askV; rw [if_neg h9]; rfl
  ·
   refine WC_seq ?_
   refine WC_reg fun ds => ?_
   refine WL_x rfl (x_box (lk_entry rfl) rfl fun b28 hb28 nb28 => ?_)
   refine WL_q rfl (q_assign lk_const) ?_
   refine WL_q rfl (q_assign lk_const) ?_
   refine WL_q rfl (q_assign lk_const) ?_
   refine WL_nil ?_
   refine then_n ?_
   refine WC_seq ?_
   refine WC_reg fun ds => ?_
   refine WL_q rfl (q_loadN agg_27 (lk2 rfl <| lk1 rfl <| lk0) rfl rfl (own_whole 0 rfl)) ?_
   refine WL_c rfl (q_call bd_57 lk_func (.cons (lk0) (.cons lk_const .nil)) (enter_bad hr (Sl.nil : Ints F _ []) (fun h => h0 (someErr_nil.symm.trans h))) (fun _ _ h => h)) ?_
   refine WL_q rfl (q_move (lk0)) ?_
   refine WL_q rfl (q_extract (lk0) rfl) ?_
   refine WL_q rfl (q_extract (lk1 rfl <| lk0) rfl) ?_
   refine WL_q rfl (q_assign (lk1 rfl <| lk0)) ?_
   refine WL_q rfl (q_assign (lk1 rfl <| lk0)) ?_
   refine WL_nil ?_
   refine then_n ?_
   refine WC_seq ?_
   refine WC_seq ?_
   refine WC_reg fun ds => ?_
   refine WL_q rfl (q_move (lk0)) ?_
   refine WL_q rfl (q_neq (lk0) lk_const) ?_
   refine WL_nil ?_
   refine then_n ?_
   refine WC_if_true (lk0) (by simpa [someErr_nil] using h0) ?_
   refine WC_seq ?_
   refine WC_reg fun ds => ?_
   refine WL_q rfl (q_move (lk2 rfl <| lk0)) ?_
   refine WL_q rfl (q_assign lk_const) ?_
   refine WL_q rfl (q_assign lk_const) ?_
   refine WL_q rfl (q_assign (lk2 rfl <| lk0)) ?_
   refine WL_nil ?_
   refine then_n ?_
   refine WC_ret ?_
   refine then_r ?_
   refine post_ret rfl (.tmp (lk2 rfl <| lk0) (.tmp (lk1 rfl <| lk0) (.tmp (lk0) .nil))) ?_
   rw [askE_bad h0, ← someErr_nil]; rfl
set_option maxRecDepth 100000 in
theorem refAsk_ok {F : Heap} {vb vr vs vq : Value} {r : Room} (hr : RoomR F vb vr vs vq r) : Ok Try.prog 35 [.agg #[vb, vr, vs, vq]].toArray F fun u _ => u = trip (refAskE r) := by
  refine Ok.intro Try.func35 rfl Try.ntmps35 rfl fun w0 => ?_
  have hL1 := hr.books.plain.lt
  by_cases h0 : (check r).2.2 = 0
  ·
   have hv := valid_of h0
   refine WC_seq ?_
   refine WC_reg fun ds => ?_
   refine WL_x rfl (x_box (lk_entry rfl) rfl fun b1 hb1 nb1 => ?_)
   refine WL_q rfl (q_assign lk_const) ?_
   refine WL_q rfl (q_assign lk_const) ?_
   refine WL_q rfl (q_assign lk_const) ?_
   refine WL_nil ?_
   refine then_n ?_
   refine WC_seq ?_
   refine WC_reg fun ds => ?_
   refine WL_q rfl (q_loadN agg_27 (lk2 rfl <| lk1 rfl <| lk0) rfl rfl (own_whole 0 rfl)) ?_
   refine WL_x rfl (x_call bd_31 lk_func (.cons (lk0) .nil) (refBest_ok hr) fun v2 F3 hr4 hF5 => ?_)
   replace hr := hr.mono hF5
   obtain ⟨ws0, rfl, hws0⟩ := hr4
   refine WL_q rfl (q_move (lk0)) ?_
   refine WL_q rfl (q_extract (lk0) rfl) ?_
   refine WL_q rfl (q_extract (lk1 rfl <| lk0) rfl) ?_
   refine WL_q rfl (q_extract (lk2 rfl <| lk0) rfl) ?_
   refine WL_q rfl (q_assign (lk2 rfl <| lk0)) ?_
   refine WL_q rfl (q_assign (lk2 rfl <| lk0)) ?_
   refine WL_q rfl (q_assign (lk2 rfl <| lk0)) ?_
   refine WL_nil ?_
   refine then_n ?_
   refine WC_seq ?_
   refine WC_seq ?_
   refine WC_reg fun ds => ?_
   refine WL_q rfl (q_move (lk0)) ?_
   refine WL_q rfl (q_neq (lk0) lk_const) ?_
   refine WL_nil ?_
   refine then_n ?_
   refine WC_if_false (lk0) (by rw [refBestE_ok h0]; rfl) ?_
   refine WC_skip ?_
   refine then_n ?_
   refine WC_seq ?_
   refine WC_reg fun ds => ?_
   refine WL_q rfl (q_assign lk_const) ?_
   refine WL_q rfl (q_assign lk_const) ?_
   refine WL_nil ?_
   refine then_n ?_
   refine WC_seq ?_
   refine WC_seq ?_
   refine WC_reg fun ds => ?_
   refine WL_q rfl (q_assign lk_const) ?_
   refine WL_nil ?_
   refine then_n ?_
   refine WC_block ?_
   refine WC_loopN [8, 9, 10, 11, 12, 13, 23, 24, 25, 26, 27, 28, 29, 30, 31, 32, 33, 34, 35, 36, 37, 38, 39, 40, 41, 42, 43, 44, 45, 46] (fun m e σ => ∃ G, RoomR G vb vr vs vq r ∧ ∃ k : Nat, m + k = r.books.length ∧ e 10 = .int .i64 k ∧ e 8 = .int .i64 ((askTo (refBestE r).2.1 (fun b => (refBestE (measured r b)).2.1) k).1 : Nat) ∧ e 9 = .int .i64 (askTo (refBestE r).2.1 (fun b => (refBestE (measured r b)).2.1) k).2 ∧ σ = ⟨G, [(b1, bx 27 [vb, vr, vs, vq])]⟩) (r.books.length) ?_ ?_
   · exact ⟨_, hr, 0, by omega, (lk0), (lk2 rfl <| lk0), (lk1 rfl <| lk0), rfl⟩
   ·
    rintro m e _ ⟨G, hr, k, hm1, hs10, hs8, hs9, rfl⟩
    by_cases hlt : k < r.books.length
    ·
     refine WC_seq ?_
     refine WC_seq ?_
     refine WC_reg fun ds => ?_
     refine WL_q rfl (q_move (lk_in rfl hs10)) ?_
     refine WL_q rfl (q_fieldAddrB fd_27_0 (lk1 rfl <| lk_off rfl <| lk16 rfl <| lk1 rfl <| lk0)) ?_
     refine WL_q rfl (q_load1 one_22 (lk0) (Cell.own 0 rfl rfl)) ?_
     refine WL_q rfl (q_lenP sl_22 (lk0) hr.books.plain) ?_
     refine WL_q rfl (q_lss (lk2 rfl <| lk1 rfl <| lk0) (lk0)) ?_
     refine WL_nil ?_
     refine then_n ?_
     refine WC_if_true (lk0) (by first | rfl | exact decide_eq_true (by omega)) ?_
     have hnb := hv.nb
     have hb1 := refBestE_bound (r := r)
     have hb2 := refBestE_bound (r := measured r k)
     by_cases hw : (askTo (refBestE r).2.1 (fun b => (refBestE (measured r b)).2.1) k).2 < (refBestE (measured r k)).2.1 - (refBestE r).2.1
     ·
      refine WC_skip ?_
      refine then_n ?_
      refine WC_seq ?_
      refine WC_block ?_
      refine WC_seq ?_
      refine WC_reg fun ds => ?_
      refine WL_q rfl (q_loadN agg_27 (lk4 rfl <| lk1 rfl <| lk_off rfl <| lk16 rfl <| lk1 rfl <| lk0) rfl rfl (own_whole 0 rfl)) ?_
      refine WL_q rfl (q_move (lk4 rfl <| lk2 rfl <| lk_in rfl hs10)) ?_
      refine WL_x rfl (x_call bd_47 lk_func (.cons (lk1 rfl <| lk0) (.cons (lk0) .nil)) (refMeasured_ok hr hlt (by omega)) fun v7 F8 hr9 hF10 => ?_)
      replace hr := hr.mono hF10
      obtain ⟨wb, rfl, hrm⟩ := hr9
      refine WL_x rfl (x_call bd_31 lk_func (.cons (lk0) .nil) (refBest_ok hrm) fun v11 F12 hr13 hF14 => ?_)
      replace hr := hr.mono hF14
      replace hrm := hrm.mono hF14
      obtain ⟨ws2, rfl, hws2⟩ := hr13
      refine WL_q rfl (q_move (lk0)) ?_
      refine WL_q rfl (q_extract (lk0) rfl) ?_
      refine WL_q rfl (q_extract (lk1 rfl <| lk0) rfl) ?_
      refine WL_q rfl (q_extract (lk2 rfl <| lk0) rfl) ?_
      refine WL_q rfl (q_assign (lk2 rfl <| lk0)) ?_
      refine WL_q rfl (q_assign (lk2 rfl <| lk0)) ?_
      refine WL_q rfl (q_assign (lk2 rfl <| lk0)) ?_
      refine WL_nil ?_
      refine then_n ?_
      refine WC_seq ?_
      refine WC_reg fun ds => ?_
      refine WL_q rfl (q_move (lk1 rfl <| lk0)) ?_
      refine WL_q rfl (q_move (lk16 rfl <| lk1 rfl <| lk_off rfl <| lk4 rfl <| lk2 rfl <| lk0)) ?_
      refine WL_q rfl (q_sub (lk1 rfl <| lk0) (lk0) rfl (by omega) (by omega)) ?_
      refine WL_q rfl (q_move (lk16 rfl <| lk2 rfl <| lk1 rfl <| lk_in rfl hs9)) ?_
      refine WL_q rfl (q_gtr (lk1 rfl <| lk0) (lk0)) ?_
      refine WL_nil ?_
      refine then_n ?_
      refine WC_if_true (lk0) (decide_eq_true hw) ?_
      refine WC_reg fun ds => ?_
      refine WL_q rfl (q_move (lk16 rfl <| lk4 rfl <| lk1 rfl <| lk_in rfl hs10)) ?_
      refine WL_q rfl (q_move (lk4 rfl <| lk2 rfl <| lk1 rfl <| lk0)) ?_
      refine WL_q rfl (q_move (lk16 rfl <| lk4 rfl <| lk2 rfl <| lk1 rfl <| lk_off rfl <| lk4 rfl <| lk2 rfl <| lk0)) ?_
      refine WL_q rfl (q_sub (lk1 rfl <| lk0) (lk0) rfl (by omega) (by omega)) ?_
      refine WL_q rfl (q_assign (lk2 rfl <| lk1 rfl <| lk0)) ?_
      refine WL_q rfl (q_assign (lk1 rfl <| lk0)) ?_
      refine WL_nil ?_
      refine block_n (then_n ?_)
      refine WC_reg fun ds => ?_
      refine WL_q rfl (q_move (lk16 rfl <| lk8 rfl <| lk2 rfl <| lk1 rfl <| lk_in rfl hs10)) ?_
      refine WL_q rfl (q_add (lk0) lk_const rfl (by omega) (by omega)) ?_
      refine WL_q rfl (q_assign (lk0)) ?_
      refine WL_nil ?_
      refine then_n ⟨_, m - 1, Off.eq (ou16 rfl <| ou8 rfl <| ou4 rfl <| ou2 rfl <| off_over), by omega, ?_⟩
      exact ⟨_, hr, k + 1, by omega, (lk0), by rw [askTo_yes hw]; exact (lk4 rfl <| lk0), by rw [askTo_yes hw]; exact (lk2 rfl <| lk1 rfl <| lk0), rfl⟩
     ·
      refine WC_skip ?_
      refine then_n ?_
      refine WC_seq ?_
      refine WC_block ?_
      refine WC_seq ?_
      refine WC_reg fun ds => ?_
      refine WL_q rfl (q_loadN agg_27 (lk4 rfl <| lk1 rfl <| lk_off rfl <| lk16 rfl <| lk1 rfl <| lk0) rfl rfl (own_whole 0 rfl)) ?_
      refine WL_q rfl (q_move (lk4 rfl <| lk2 rfl <| lk_in rfl hs10)) ?_
      refine WL_x rfl (x_call bd_47 lk_func (.cons (lk1 rfl <| lk0) (.cons (lk0) .nil)) (refMeasured_ok hr hlt (by omega)) fun v15 F16 hr17 hF18 => ?_)
      replace hr := hr.mono hF18
      obtain ⟨wb, rfl, hrm⟩ := hr17
      refine WL_x rfl (x_call bd_31 lk_func (.cons (lk0) .nil) (refBest_ok hrm) fun v19 F20 hr21 hF22 => ?_)
      replace hr := hr.mono hF22
      replace hrm := hrm.mono hF22
      obtain ⟨ws2, rfl, hws2⟩ := hr21
      refine WL_q rfl (q_move (lk0)) ?_
      refine WL_q rfl (q_extract (lk0) rfl) ?_
      refine WL_q rfl (q_extract (lk1 rfl <| lk0) rfl) ?_
      refine WL_q rfl (q_extract (lk2 rfl <| lk0) rfl) ?_
      refine WL_q rfl (q_assign (lk2 rfl <| lk0)) ?_
      refine WL_q rfl (q_assign (lk2 rfl <| lk0)) ?_
      refine WL_q rfl (q_assign (lk2 rfl <| lk0)) ?_
      refine WL_nil ?_
      refine then_n ?_
      refine WC_seq ?_
      refine WC_reg fun ds => ?_
      refine WL_q rfl (q_move (lk1 rfl <| lk0)) ?_
      refine WL_q rfl (q_move (lk16 rfl <| lk1 rfl <| lk_off rfl <| lk4 rfl <| lk2 rfl <| lk0)) ?_
      refine WL_q rfl (q_sub (lk1 rfl <| lk0) (lk0) rfl (by omega) (by omega)) ?_
      refine WL_q rfl (q_move (lk16 rfl <| lk2 rfl <| lk1 rfl <| lk_in rfl hs9)) ?_
      refine WL_q rfl (q_gtr (lk1 rfl <| lk0) (lk0)) ?_
      refine WL_nil ?_
      refine then_n ?_
      refine WC_if_false (lk0) (decide_eq_false hw) ?_
      refine WC_skip ?_
      refine block_n (then_n ?_)
      refine WC_reg fun ds => ?_
      refine WL_q rfl (q_move (lk16 rfl <| lk4 rfl <| lk1 rfl <| lk_in rfl hs10)) ?_
      refine WL_q rfl (q_add (lk0) lk_const rfl (by omega) (by omega)) ?_
      refine WL_q rfl (q_assign (lk0)) ?_
      refine WL_nil ?_
      refine then_n ⟨_, m - 1, Off.eq (ou16 rfl <| ou8 rfl <| off_over), by omega, ?_⟩
      exact ⟨_, hr, k + 1, by omega, (lk0), by rw [askTo_no hw]; exact (lk16 rfl <| lk8 rfl <| lk_in rfl hs8), by rw [askTo_no hw]; exact (lk16 rfl <| lk8 rfl <| lk_in rfl hs9), rfl⟩
    ·
     refine WC_seq ?_
     refine WC_seq ?_
     refine WC_reg fun ds => ?_
     refine WL_q rfl (q_move (lk_in rfl hs10)) ?_
     refine WL_q rfl (q_fieldAddrB fd_27_0 (lk1 rfl <| lk_off rfl <| lk16 rfl <| lk1 rfl <| lk0)) ?_
     refine WL_q rfl (q_load1 one_22 (lk0) (Cell.own 0 rfl rfl)) ?_
     refine WL_q rfl (q_lenP sl_22 (lk0) hr.books.plain) ?_
     refine WL_q rfl (q_lss (lk2 rfl <| lk1 rfl <| lk0) (lk0)) ?_
     refine WL_nil ?_
     refine then_n ?_
     refine WC_if_false (lk0) (by first | rfl | exact decide_eq_false (by omega)) ?_
     obtain rfl : k = r.books.length := by omega
     by_cases h9 : (askTo (refBestE r).2.1 (fun b => (refBestE (measured r b)).2.1) r.books.length).2 = 0
     ·
      refine WC_exit ?_
      refine then_x (then_x (exit_here ?_))
      refine then_n ?_
      refine WC_seq ?_
      refine WC_seq ?_
      refine WC_reg fun ds => ?_
      refine WL_q rfl (q_move (lk4 rfl <| lk1 rfl <| lk_in rfl hs9)) ?_
      refine WL_q rfl (q_eql (lk0) lk_const) ?_
      refine WL_nil ?_
      refine then_n ?_
      refine WC_if_true (lk0) (decide_eq_true h9) ?_
      refine WC_seq ?_
      refine WC_reg fun ds => ?_
      refine WL_q rfl (q_assign lk_const) ?_
      refine WL_q rfl (q_assign lk_const) ?_
      refine WL_q rfl (q_assign lk_const) ?_
      refine WL_nil ?_
      refine then_n ?_
      refine WC_ret ?_
      refine then_r ?_
      refine post_ret rfl (.tmp (lk2 rfl <| lk0) (.tmp (lk1 rfl <| lk0) (.tmp (lk0) .nil))) ?_
      rw [refAskE_ok h0]; unfold askV; rw [if_pos h9]; rfl
     ·
      refine WC_exit ?_
      refine then_x (then_x (exit_here ?_))
      refine then_n ?_
      refine WC_seq ?_
      refine WC_seq ?_
      refine WC_reg fun ds => ?_
      refine WL_q rfl (q_move (lk4 rfl <| lk1 rfl <| lk_in rfl hs9)) ?_
      refine WL_q rfl (q_eql (lk0) lk_const) ?_
      refine WL_nil ?_
      refine then_n ?_
      refine WC_if_false (lk0) (decide_eq_false h9) ?_
      refine WC_skip ?_
      refine then_n ?_
      refine WC_seq ?_
      refine WC_reg fun ds => ?_
      refine WL_q rfl (q_move (lk4 rfl <| lk2 rfl <| lk1 rfl <| lk_in rfl hs8)) ?_
      refine WL_q rfl (q_move (lk8 rfl <| lk_in rfl hs9)) ?_
      refine WL_q rfl (q_assign (lk1 rfl <| lk0)) ?_
      refine WL_q rfl (q_assign (lk1 rfl <| lk0)) ?_
      refine WL_q rfl (q_assign lk_const) ?_
      refine WL_nil ?_
      refine then_n ?_
      refine WC_ret ?_
      refine post_ret rfl (.tmp (lk2 rfl <| lk0) (.tmp (lk1 rfl <| lk0) (.tmp (lk0) .nil))) ?_
      rw [refAskE_ok h0]; unfold askV; rw [if_neg h9]; rfl
  ·
   refine WC_seq ?_
   refine WC_reg fun ds => ?_
   refine WL_x rfl (x_box (lk_entry rfl) rfl fun b23 hb23 nb23 => ?_)
   refine WL_q rfl (q_assign lk_const) ?_
   refine WL_q rfl (q_assign lk_const) ?_
   refine WL_q rfl (q_assign lk_const) ?_
   refine WL_nil ?_
   refine then_n ?_
   refine WC_seq ?_
   refine WC_reg fun ds => ?_
   refine WL_q rfl (q_loadN agg_27 (lk2 rfl <| lk1 rfl <| lk0) rfl rfl (own_whole 0 rfl)) ?_
   refine WL_x rfl (x_call bd_31 lk_func (.cons (lk0) .nil) (refBest_ok hr) fun v24 F25 hr26 hF27 => ?_)
   replace hr := hr.mono hF27
   obtain ⟨ws0, rfl, hws0⟩ := hr26
   refine WL_q rfl (q_move (lk0)) ?_
   refine WL_q rfl (q_extract (lk0) rfl) ?_
   refine WL_q rfl (q_extract (lk1 rfl <| lk0) rfl) ?_
   refine WL_q rfl (q_extract (lk2 rfl <| lk0) rfl) ?_
   refine WL_q rfl (q_assign (lk2 rfl <| lk0)) ?_
   refine WL_q rfl (q_assign (lk2 rfl <| lk0)) ?_
   refine WL_q rfl (q_assign (lk2 rfl <| lk0)) ?_
   refine WL_nil ?_
   refine then_n ?_
   refine WC_seq ?_
   refine WC_seq ?_
   refine WC_reg fun ds => ?_
   refine WL_q rfl (q_move (lk0)) ?_
   refine WL_q rfl (q_neq (lk0) lk_const) ?_
   refine WL_nil ?_
   refine then_n ?_
   refine WC_if_true (lk0) (by rw [refBestE_bad h0]; simpa using h0) ?_
   refine WC_seq ?_
   refine WC_reg fun ds => ?_
   refine WL_q rfl (q_move (lk2 rfl <| lk0)) ?_
   refine WL_q rfl (q_assign lk_const) ?_
   refine WL_q rfl (q_assign lk_const) ?_
   refine WL_q rfl (q_assign (lk2 rfl <| lk0)) ?_
   refine WL_nil ?_
   refine then_n ?_
   refine WC_ret ?_
   refine then_r ?_
   refine post_ret rfl (.tmp (lk2 rfl <| lk0) (.tmp (lk1 rfl <| lk0) (.tmp (lk0) .nil))) ?_
   rw [refAskE_bad h0, show (check r).2.2 = (refBestE r).2.2 by rw [refBestE_bad h0]]; rfl
end Go.Proofs.Ytbcjfkcpfjccdaa
namespace Go.Proofs.Ytbcjfkcpfjccdaa
open Go.RowKit
theorem bd_76 : Body Try.prog 76 := body_of (by kernel_rfl)
theorem el_29 : ElemT Try.prog 29 1 24 (.slice none 0 0) := elemT_of (by kernel_rfl) rfl (by decide)
theorem sl_126 : SliceT Try.prog 126 29 1 := sliceT_of (by kernel_rfl)
set_option maxRecDepth 100000 in
theorem refWithout_ok {F : Heap} {v u : Value} {l xs : List Nat} (hl : Nats F v l) (hx : Nats F u xs) (hn : l.length ≤ 1000) (q : Nat) : Ok Try.prog 45 [v, u, .int .i64 (q : Int)].toArray F fun z F' => Nats F' z (insR l xs q) := by
  refine Ok.intro Try.func45 rfl Try.ntmps45 rfl fun w0 => ?_
  have hlen := hl.plain.lt
  refine WC_seq ?_
  refine WC_reg fun ds => ?_
  refine WL_q rfl (q_assign lk_const) ?_
  refine WL_nil ?_
  refine then_n ?_
  refine WC_seq ?_
  refine WC_reg fun ds => ?_
  refine WL_q rfl (q_assign lk_const) ?_
  refine WL_nil ?_
  refine then_n ?_
  refine WC_seq ?_
  refine WC_reg fun ds => ?_
  refine WL_q rfl (q_assign lk_const) ?_
  refine WL_nil ?_
  refine then_n ?_
  refine WC_seq ?_
  refine WC_seq ?_
  refine WC_reg fun ds => ?_
  refine WL_q rfl (q_assign lk_const) ?_
  refine WL_nil ?_
  refine then_n ?_
  refine WC_block ?_
  refine WC_loopN [7, 8, 9, 10, 11, 12, 13, 14, 15, 16, 17, 18, 19, 20, 21, 22, 23, 24, 25, 26, 27, 28, 29, 30, 31, 32, 33, 34, 35, 36, 37, 38, 39, 40] (fun m e σ => ∃ k : Nat, m + k = l.length ∧ e 9 = .int .i64 k ∧ e 8 = .bool (insTo l xs q k).2 ∧ ∃ v R, e 7 = v ∧ Own 3 1 v (insTo l xs q k).1.length ((insTo l xs q k).1.flatMap natE) R ∧ σ = ⟨F, R⟩) (l.length) ?_ ?_
  · exact ⟨0, by omega, (lk0), (lk1 rfl <| lk0), _, _, (lk2 rfl <| lk0), Own.nil, rfl⟩
  ·
   rintro m e _ ⟨k, hm1, hs9, hs8, v7, R7, hs7, ho, rfl⟩
   by_cases hlt : k < l.length
   ·
    refine WC_seq ?_
    refine WC_seq ?_
    refine WC_reg fun ds => ?_
    refine WL_q rfl (q_move (lk_in rfl hs9)) ?_
    refine WL_q rfl (q_move (lk1 rfl <| lk_off rfl <| lk4 rfl <| lk_entry rfl)) ?_
    refine WL_q rfl (q_lenP sl_29 (lk0) hl.plain) ?_
    refine WL_q rfl (q_lss (lk2 rfl <| lk0) (lk0)) ?_
    refine WL_nil ?_
    refine then_n ?_
    refine WC_if_true (lk0) (by first | rfl | exact decide_eq_true (by omega)) ?_
    have hil := ins_len (g := l) (out := xs) (q := q) k
    by_cases h1 : q < l[k]
    ·
     refine WC_skip ?_
     refine then_n ?_
     refine WC_seq ?_
     refine WC_block ?_
     refine WC_seq ?_
     refine WC_seq ?_
     refine WC_reg fun ds => ?_
     refine WL_q rfl (q_move (lk4 rfl <| lk_off rfl <| lk4 rfl <| lk_entry rfl)) ?_
     refine WL_q rfl (q_move (lk4 rfl <| lk1 rfl <| lk_in rfl hs9)) ?_
     refine WL_q rfl (q_index  sl_29 (lk1 rfl <| lk0) hl.plain (lk0) rfl hlt) ?_
     refine WL_q rfl (q_load1 one_3 (lk0) (hl.cell1 hlt rfl)) ?_
     refine WL_q rfl (q_move (lk8 rfl <| lk_off rfl <| lk4 rfl <| lk_entry rfl)) ?_
     refine WL_q rfl (q_gtr (lk1 rfl <| lk0) (lk0)) ?_
     refine WL_q rfl (q_move (lk0)) ?_
     refine WL_want rfl rfl (lk0) (decide_eq_true (by omega)) ?_
     refine WL_q rfl (q_move (lk8 rfl <| lk2 rfl <| lk1 rfl <| lk_in rfl hs8)) ?_
     refine WL_want rfl rfl (lk1 rfl <| lk0) (decide_eq_true (by omega)) ?_
     refine WL_q rfl (q_not (lk0)) ?_
     refine WL_q rfl (q_pick_true (lk2 rfl <| lk0) (decide_eq_true (by omega)) (lk0)) ?_
     refine WL_nil ?_
     refine then_n ?_
     by_cases h2 : (insTo l xs q k).2 = true
     ·
      refine WC_if_false (lk0) (by rw [h2]; rfl) ?_
      by_cases ho_ : k ∈ xs
      ·
       refine WC_skip ?_
       refine then_n ?_
       refine WC_seq ?_
       refine WC_reg fun ds => ?_
       refine WL_q rfl (q_move (lk8 rfl <| lk4 rfl <| lk2 rfl <| lk_off rfl <| lk4 rfl <| lk_entry rfl)) ?_
       refine WL_q rfl (q_move (lk8 rfl <| lk4 rfl <| lk2 rfl <| lk1 rfl <| lk_in rfl hs9)) ?_
       refine WL_c rfl (q_call bd_39 lk_func (.cons (lk1 rfl <| lk0) (.cons (lk0) .nil)) (has_nat hx _) (fun _ _ h => h)) ?_
       refine WL_q rfl (q_not (lk0)) ?_
       refine WL_nil ?_
       refine then_n ?_
       refine WC_if_false (lk0) (by rw [decide_eq_true ho_]; rfl) ?_
       refine WC_skip ?_
       refine block_n (then_n ?_)
       refine WC_reg fun ds => ?_
       refine WL_q rfl (q_move (lk16 rfl <| lk2 rfl <| lk_in rfl hs9)) ?_
       refine WL_q rfl (q_add (lk0) lk_const rfl (by omega) (by omega)) ?_
       refine WL_q rfl (q_assign (lk0)) ?_
       refine WL_nil ?_
       refine then_n ⟨_, m - 1, Off.eq (ou16 rfl <| ou4 rfl <| ou1 rfl <| off_over), by omega, ?_⟩
       exact ⟨k + 1, by omega, (lk0), by rw [insTo_succ, insB_in ho_, insA_no hlt (fun h => by rw [h2] at h; cases h.2)]; exact (lk16 rfl <| lk4 rfl <| lk1 rfl <| lk_in rfl hs8), _, _, (lk16 rfl <| lk4 rfl <| lk1 rfl <| lk_in rfl hs7), by rw [insTo_succ, insB_in ho_, insA_no hlt (fun h => by rw [h2] at h; cases h.2)]; exact ho, rfl⟩
      ·
       refine WC_skip ?_
       refine then_n ?_
       refine WC_seq ?_
       refine WC_reg fun ds => ?_
       refine WL_q rfl (q_move (lk8 rfl <| lk4 rfl <| lk2 rfl <| lk_off rfl <| lk4 rfl <| lk_entry rfl)) ?_
       refine WL_q rfl (q_move (lk8 rfl <| lk4 rfl <| lk2 rfl <| lk1 rfl <| lk_in rfl hs9)) ?_
       refine WL_c rfl (q_call bd_39 lk_func (.cons (lk1 rfl <| lk0) (.cons (lk0) .nil)) (has_nat hx _) (fun _ _ h => h)) ?_
       refine WL_q rfl (q_not (lk0)) ?_
       refine WL_nil ?_
       refine then_n ?_
       refine WC_if_true (lk0) (by rw [decide_eq_false ho_]; rfl) ?_
       refine WC_reg fun ds => ?_
       refine WL_q rfl (q_move (lk16 rfl <| lk2 rfl <| lk_in rfl hs7)) ?_
       refine WL_q rfl (q_move (lk16 rfl <| lk2 rfl <| lk1 rfl <| lk_off rfl <| lk4 rfl <| lk_entry rfl)) ?_
       refine WL_q rfl (q_move (lk16 rfl <| lk4 rfl <| lk_in rfl hs9)) ?_
       refine WL_q rfl (q_index  sl_29 (lk1 rfl <| lk0) hl.plain (lk0) rfl hlt) ?_
       refine WL_q rfl (q_load1 one_3 (lk0) (hl.cell1 hlt rfl)) ?_
       refine WL_x rfl (x_build sl_29 zr_3 rfl (.cons (lk0) .nil) rfl rfl (by decide) (by simp [Value.oneCell']) fun b2 hb2 nb2 => ?_)
       refine WL_x rfl (x_append sl_29 el_3 (lk4 rfl <| lk1 rfl <| lk0) ho (lk0) (src_box (s := 1) 0 rfl rfl (by simp [Value.oneCell'])) (by omega) (by omega) (.s <| .z) .last fun v3 R4 ho5 => ?_)
       have ho4 : Own 3 1 v3 ((insTo l xs q k).1 ++ [l[k]]).length (((insTo l xs q k).1 ++ [l[k]]).flatMap natE) R4 := by simpa [natE] using ho5
       refine WL_q rfl (q_assign (lk0)) ?_
       refine WL_nil ?_
       refine block_n (then_n ?_)
       refine WC_imp (fun _ _ h => h.drop (.cons _ <| .refl _)) ?_
       refine WC_reg fun ds => ?_
       refine WL_q rfl (q_move (lk16 rfl <| lk8 rfl <| lk2 rfl <| lk_in rfl hs9)) ?_
       refine WL_q rfl (q_add (lk0) lk_const rfl (by omega) (by omega)) ?_
       refine WL_q rfl (q_assign (lk0)) ?_
       refine WL_nil ?_
       refine then_n ⟨_, m - 1, Off.eq (ou16 rfl <| ou8 rfl <| ou4 rfl <| ou1 rfl <| off_over), by omega, ?_⟩
       exact ⟨k + 1, by omega, (lk0), by rw [insTo_succ, insB_out hlt ho_, insA_no hlt (fun h => by rw [h2] at h; cases h.2)]; exact (lk16 rfl <| lk8 rfl <| lk4 rfl <| lk1 rfl <| lk_in rfl hs8), _, _, (lk2 rfl <| lk1 rfl <| lk0), by rw [insTo_succ, insB_out hlt ho_, insA_no hlt (fun h => by rw [h2] at h; cases h.2)]; exact ho4, rfl⟩
     ·
      refine WC_if_true (lk0) (by simpa using h2) ?_
      by_cases ho_ : k ∈ xs
      ·
       refine WC_reg fun ds => ?_
       refine WL_q rfl (q_move (lk8 rfl <| lk4 rfl <| lk2 rfl <| lk_in rfl hs7)) ?_
       refine WL_q rfl (q_move (lk8 rfl <| lk4 rfl <| lk2 rfl <| lk1 rfl <| lk_off rfl <| lk4 rfl <| lk_entry rfl)) ?_
       refine WL_x rfl (x_build sl_29 zr_3 rfl (.cons (lk0) .nil) rfl rfl (by decide) (by simp [Value.oneCell']) fun b6 hb6 nb6 => ?_)
       refine WL_x rfl (x_append sl_29 el_3 (lk2 rfl <| lk0) ho (lk0) (src_box (s := 1) 0 rfl rfl (by simp [Value.oneCell'])) (by omega) (by omega) (.s <| .z) .last fun v7 R8 ho9 => ?_)
       have ho3 := ho9.snoc (x := q) rfl rfl
       refine WL_q rfl (q_assign (lk0)) ?_
       refine WL_q rfl (q_assign lk_const) ?_
       refine WL_nil ?_
       refine then_n ?_
       refine WC_seq ?_
       refine WC_reg fun ds => ?_
       refine WL_q rfl (q_move (lk16 rfl <| lk4 rfl <| lk_off rfl <| lk4 rfl <| lk_entry rfl)) ?_
       refine WL_q rfl (q_move (lk16 rfl <| lk4 rfl <| lk1 rfl <| lk_in rfl hs9)) ?_
       refine WL_c rfl (q_call bd_39 lk_func (.cons (lk1 rfl <| lk0) (.cons (lk0) .nil)) (has_nat hx _) (fun _ _ h => h)) ?_
       refine WL_q rfl (q_not (lk0)) ?_
       refine WL_nil ?_
       refine then_n ?_
       refine WC_if_false (lk0) (by rw [decide_eq_true ho_]; rfl) ?_
       refine WC_skip ?_
       refine block_n (then_n ?_)
       refine WC_imp (fun _ _ h => h.drop (.cons _ <| .refl _)) ?_
       refine WC_reg fun ds => ?_
       refine WL_q rfl (q_move (lk16 rfl <| lk8 rfl <| lk_in rfl hs9)) ?_
       refine WL_q rfl (q_add (lk0) lk_const rfl (by omega) (by omega)) ?_
       refine WL_q rfl (q_assign (lk0)) ?_
       refine WL_nil ?_
       refine then_n ⟨_, m - 1, Off.eq (ou16 rfl <| ou8 rfl <| ou2 rfl <| ou1 rfl <| off_over), by omega, ?_⟩
       exact ⟨k + 1, by omega, (lk0), by rw [insTo_succ, insB_in ho_, insA_yes hlt h1 (by simpa using h2)]; exact (lk4 rfl <| lk2 rfl <| lk1 rfl <| lk0), _, _, (lk8 rfl <| lk0), by rw [insTo_succ, insB_in ho_, insA_yes hlt h1 (by simpa using h2)]; exact ho3, rfl⟩
      ·
       refine WC_reg fun ds => ?_
       refine WL_q rfl (q_move (lk8 rfl <| lk4 rfl <| lk2 rfl <| lk_in rfl hs7)) ?_
       refine WL_q rfl (q_move (lk8 rfl <| lk4 rfl <| lk2 rfl <| lk1 rfl <| lk_off rfl <| lk4 rfl <| lk_entry rfl)) ?_
       refine WL_x rfl (x_build sl_29 zr_3 rfl (.cons (lk0) .nil) rfl rfl (by decide) (by simp [Value.oneCell']) fun b10 hb10 nb10 => ?_)
       refine WL_x rfl (x_append sl_29 el_3 (lk2 rfl <| lk0) ho (lk0) (src_box (s := 1) 0 rfl rfl (by simp [Value.oneCell'])) (by omega) (by omega) (.s <| .z) .last fun v11 R12 ho13 => ?_)
       have ho3 := ho13.snoc (x := q) rfl rfl
       refine WL_q rfl (q_assign (lk0)) ?_
       refine WL_q rfl (q_assign lk_const) ?_
       refine WL_nil ?_
       refine then_n ?_
       refine WC_seq ?_
       refine WC_reg fun ds => ?_
       refine WL_q rfl (q_move (lk16 rfl <| lk4 rfl <| lk_off rfl <| lk4 rfl <| lk_entry rfl)) ?_
       refine WL_q rfl (q_move (lk16 rfl <| lk4 rfl <| lk1 rfl <| lk_in rfl hs9)) ?_
       refine WL_c rfl (q_call bd_39 lk_func (.cons (lk1 rfl <| lk0) (.cons (lk0) .nil)) (has_nat hx _) (fun _ _ h => h)) ?_
       refine WL_q rfl (q_not (lk0)) ?_
       refine WL_nil ?_
       refine then_n ?_
       refine WC_if_true (lk0) (by rw [decide_eq_false ho_]; rfl) ?_
       refine WC_reg fun ds => ?_
       refine WL_q rfl (q_move (lk4 rfl <| lk1 rfl <| lk0)) ?_
       refine WL_q rfl (q_move (lk16 rfl <| lk8 rfl <| lk1 rfl <| lk_off rfl <| lk4 rfl <| lk_entry rfl)) ?_
       refine WL_q rfl (q_move (lk16 rfl <| lk8 rfl <| lk2 rfl <| lk_in rfl hs9)) ?_
       refine WL_q rfl (q_index  sl_29 (lk1 rfl <| lk0) hl.plain (lk0) rfl hlt) ?_
       refine WL_q rfl (q_load1 one_3 (lk0) (hl.cell1 hlt rfl)) ?_
       refine WL_x rfl (x_build sl_29 zr_3 rfl (.cons (lk0) .nil) rfl rfl (by decide) (by simp [Value.oneCell']) fun b14 hb14 nb14 => ?_)
       refine WL_x rfl (x_append sl_29 el_3 (lk4 rfl <| lk1 rfl <| lk0) ho3 (lk0) (src_box (s := 1) 0 rfl rfl (by simp [Value.oneCell'])) (by simp only [List.length_append, List.length_singleton]; omega) (by simp only [List.length_append, List.length_singleton]; omega) (.s <| .s <| .z) .last fun v15 R16 ho17 => ?_)
       have ho4 : Own 3 1 v15 (((insTo l xs q k).1 ++ [q]) ++ [l[k]]).length ((((insTo l xs q k).1 ++ [q]) ++ [l[k]]).flatMap natE) R16 := by simpa [natE] using ho17
       refine WL_q rfl (q_assign (lk0)) ?_
       refine WL_nil ?_
       refine block_n (then_n ?_)
       refine WC_imp (fun _ _ h => h.drop (.cons _ <| .cons _ <| .refl _)) ?_
       refine WC_reg fun ds => ?_
       refine WL_q rfl (q_move (lk32 rfl <| lk_in rfl hs9)) ?_
       refine WL_q rfl (q_add (lk0) lk_const rfl (by omega) (by omega)) ?_
       refine WL_q rfl (q_assign (lk0)) ?_
       refine WL_nil ?_
       refine then_n ⟨_, m - 1, Off.eq (ou32 rfl <| ou2 rfl <| ou1 rfl <| off_over), by omega, ?_⟩
       exact ⟨k + 1, by omega, (lk0), by rw [insTo_succ, insB_out hlt ho_, insA_yes hlt h1 (by simpa using h2)]; exact (lk8 rfl <| lk4 rfl <| lk2 rfl <| lk1 rfl <| lk0), _, _, (lk2 rfl <| lk1 rfl <| lk0), by rw [insTo_succ, insB_out hlt ho_, insA_yes hlt h1 (by simpa using h2)]; exact ho4, rfl⟩
    ·
     refine WC_skip ?_
     refine then_n ?_
     refine WC_seq ?_
     refine WC_block ?_
     refine WC_seq ?_
     refine WC_seq ?_
     refine WC_reg fun ds => ?_
     refine WL_q rfl (q_move (lk4 rfl <| lk_off rfl <| lk4 rfl <| lk_entry rfl)) ?_
     refine WL_q rfl (q_move (lk4 rfl <| lk1 rfl <| lk_in rfl hs9)) ?_
     refine WL_q rfl (q_index  sl_29 (lk1 rfl <| lk0) hl.plain (lk0) rfl hlt) ?_
     refine WL_q rfl (q_load1 one_3 (lk0) (hl.cell1 hlt rfl)) ?_
     refine WL_q rfl (q_move (lk8 rfl <| lk_off rfl <| lk4 rfl <| lk_entry rfl)) ?_
     refine WL_q rfl (q_gtr (lk1 rfl <| lk0) (lk0)) ?_
     refine WL_q rfl (q_move (lk0)) ?_
     refine WL_pass rfl rfl (lk0) (.inl (congrArg Value.bool (decide_eq_false (by omega)))) rfl ?_
     refine WL_pass rfl rfl (lk1 rfl <| lk0) (.inl (congrArg Value.bool (decide_eq_false (by omega)))) rfl ?_
     refine WL_q rfl (q_pick_false (lk2 rfl <| lk0) (decide_eq_false (by omega)) lk_const) ?_
     refine WL_nil ?_
     refine then_n ?_
     refine WC_if_false (lk0) rfl ?_
     by_cases ho_ : k ∈ xs
     ·
      refine WC_skip ?_
      refine then_n ?_
      refine WC_seq ?_
      refine WC_reg fun ds => ?_
      refine WL_q rfl (q_move (lk8 rfl <| lk4 rfl <| lk2 rfl <| lk_off rfl <| lk4 rfl <| lk_entry rfl)) ?_
      refine WL_q rfl (q_move (lk8 rfl <| lk4 rfl <| lk2 rfl <| lk1 rfl <| lk_in rfl hs9)) ?_
      refine WL_c rfl (q_call bd_39 lk_func (.cons (lk1 rfl <| lk0) (.cons (lk0) .nil)) (has_nat hx _) (fun _ _ h => h)) ?_
      refine WL_q rfl (q_not (lk0)) ?_
      refine WL_nil ?_
      refine then_n ?_
      refine WC_if_false (lk0) (by rw [decide_eq_true ho_]; rfl) ?_
      refine WC_skip ?_
      refine block_n (then_n ?_)
      refine WC_reg fun ds => ?_
      refine WL_q rfl (q_move (lk16 rfl <| lk2 rfl <| lk_in rfl hs9)) ?_
      refine WL_q rfl (q_add (lk0) lk_const rfl (by omega) (by omega)) ?_
      refine WL_q rfl (q_assign (lk0)) ?_
      refine WL_nil ?_
      refine then_n ⟨_, m - 1, Off.eq (ou16 rfl <| ou4 rfl <| ou1 rfl <| off_over), by omega, ?_⟩
      exact ⟨k + 1, by omega, (lk0), by rw [insTo_succ, insB_in ho_, insA_no hlt (fun h => h1 h.1)]; exact (lk16 rfl <| lk4 rfl <| lk1 rfl <| lk_in rfl hs8), _, _, (lk16 rfl <| lk4 rfl <| lk1 rfl <| lk_in rfl hs7), by rw [insTo_succ, insB_in ho_, insA_no hlt (fun h => h1 h.1)]; exact ho, rfl⟩
     ·
      refine WC_skip ?_
      refine then_n ?_
      refine WC_seq ?_
      refine WC_reg fun ds => ?_
      refine WL_q rfl (q_move (lk8 rfl <| lk4 rfl <| lk2 rfl <| lk_off rfl <| lk4 rfl <| lk_entry rfl)) ?_
      refine WL_q rfl (q_move (lk8 rfl <| lk4 rfl <| lk2 rfl <| lk1 rfl <| lk_in rfl hs9)) ?_
      refine WL_c rfl (q_call bd_39 lk_func (.cons (lk1 rfl <| lk0) (.cons (lk0) .nil)) (has_nat hx _) (fun _ _ h => h)) ?_
      refine WL_q rfl (q_not (lk0)) ?_
      refine WL_nil ?_
      refine then_n ?_
      refine WC_if_true (lk0) (by rw [decide_eq_false ho_]; rfl) ?_
      refine WC_reg fun ds => ?_
      refine WL_q rfl (q_move (lk16 rfl <| lk2 rfl <| lk_in rfl hs7)) ?_
      refine WL_q rfl (q_move (lk16 rfl <| lk2 rfl <| lk1 rfl <| lk_off rfl <| lk4 rfl <| lk_entry rfl)) ?_
      refine WL_q rfl (q_move (lk16 rfl <| lk4 rfl <| lk_in rfl hs9)) ?_
      refine WL_q rfl (q_index  sl_29 (lk1 rfl <| lk0) hl.plain (lk0) rfl hlt) ?_
      refine WL_q rfl (q_load1 one_3 (lk0) (hl.cell1 hlt rfl)) ?_
      refine WL_x rfl (x_build sl_29 zr_3 rfl (.cons (lk0) .nil) rfl rfl (by decide) (by simp [Value.oneCell']) fun b18 hb18 nb18 => ?_)
      refine WL_x rfl (x_append sl_29 el_3 (lk4 rfl <| lk1 rfl <| lk0) ho (lk0) (src_box (s := 1) 0 rfl rfl (by simp [Value.oneCell'])) (by omega) (by omega) (.s <| .z) .last fun v19 R20 ho21 => ?_)
      have ho4 : Own 3 1 v19 ((insTo l xs q k).1 ++ [l[k]]).length (((insTo l xs q k).1 ++ [l[k]]).flatMap natE) R20 := by simpa [natE] using ho21
      refine WL_q rfl (q_assign (lk0)) ?_
      refine WL_nil ?_
      refine block_n (then_n ?_)
      refine WC_imp (fun _ _ h => h.drop (.cons _ <| .refl _)) ?_
      refine WC_reg fun ds => ?_
      refine WL_q rfl (q_move (lk16 rfl <| lk8 rfl <| lk2 rfl <| lk_in rfl hs9)) ?_
      refine WL_q rfl (q_add (lk0) lk_const rfl (by omega) (by omega)) ?_
      refine WL_q rfl (q_assign (lk0)) ?_
      refine WL_nil ?_
      refine then_n ⟨_, m - 1, Off.eq (ou16 rfl <| ou8 rfl <| ou4 rfl <| ou1 rfl <| off_over), by omega, ?_⟩
      exact ⟨k + 1, by omega, (lk0), by rw [insTo_succ, insB_out hlt ho_, insA_no hlt (fun h => h1 h.1)]; exact (lk16 rfl <| lk8 rfl <| lk4 rfl <| lk1 rfl <| lk_in rfl hs8), _, _, (lk2 rfl <| lk1 rfl <| lk0), by rw [insTo_succ, insB_out hlt ho_, insA_no hlt (fun h => h1 h.1)]; exact ho4, rfl⟩
   ·
    refine WC_seq ?_
    refine WC_seq ?_
    refine WC_reg fun ds => ?_
    refine WL_q rfl (q_move (lk_in rfl hs9)) ?_
    refine WL_q rfl (q_move (lk1 rfl <| lk_off rfl <| lk4 rfl <| lk_entry rfl)) ?_
    refine WL_q rfl (q_lenP sl_29 (lk0) hl.plain) ?_
    refine WL_q rfl (q_lss (lk2 rfl <| lk0) (lk0)) ?_
    refine WL_nil ?_
    refine then_n ?_
    refine WC_if_false (lk0) (by first | rfl | exact decide_eq_false (by omega)) ?_
    obtain rfl : k = l.length := by omega
    have hil := ins_len (g := l) (out := xs) (q := q) l.length
    by_cases h2 : (insTo l xs q l.length).2 = true
    ·
     refine WC_exit ?_
     refine then_x (then_x (exit_here ?_))
     refine then_n ?_
     refine WC_seq ?_
     refine WC_seq ?_
     refine WC_reg fun ds => ?_
     refine WL_q rfl (q_move (lk4 rfl <| lk_in rfl hs8)) ?_
     refine WL_q rfl (q_not (lk0)) ?_
     refine WL_nil ?_
     refine then_n ?_
     refine WC_if_false (lk0) (by rw [h2]; rfl) ?_
     refine WC_skip ?_
     refine then_n ?_
     refine WC_seq ?_
     refine WC_freezeR (σ := ⟨_, _⟩) (by rfl) ho (.z) .last fun F22 hF23 hz24 => ?_
     replace hl := hl.mono hF23
     replace hx := hx.mono hF23
     have hn2 := ho.sl (fun _ => rfl) hz24 (by omega)
     refine WC_reg fun ds => ?_
     refine WL_q rfl (q_move (lk4 rfl <| lk2 rfl <| lk_in rfl hs7)) ?_
     refine WL_q rfl (q_assign (lk0)) ?_
     refine WL_nil ?_
     refine then_n ?_
     refine WC_ret ?_
     refine post_ret rfl (.tmp (lk0) .nil) ?_
     show Nats _ _ _
     unfold insR; rw [if_pos h2]; exact hn2
    ·
     refine WC_exit ?_
     refine then_x (then_x (exit_here ?_))
     refine then_n ?_
     refine WC_seq ?_
     refine WC_seq ?_
     refine WC_reg fun ds => ?_
     refine WL_q rfl (q_move (lk4 rfl <| lk_in rfl hs8)) ?_
     refine WL_q rfl (q_not (lk0)) ?_
     refine WL_nil ?_
     refine then_n ?_
     refine WC_if_true (lk0) (by simpa using h2) ?_
     refine WC_reg fun ds => ?_
     refine WL_q rfl (q_move (lk4 rfl <| lk2 rfl <| lk_in rfl hs7)) ?_
     refine WL_q rfl (q_move (lk4 rfl <| lk2 rfl <| lk1 rfl <| lk_off rfl <| lk4 rfl <| lk_entry rfl)) ?_
     refine WL_x rfl (x_build sl_29 zr_3 rfl (.cons (lk0) .nil) rfl rfl (by decide) (by simp [Value.oneCell']) fun b25 hb25 nb25 => ?_)
     refine WL_x rfl (x_append sl_29 el_3 (lk2 rfl <| lk0) ho (lk0) (src_box (s := 1) 0 rfl rfl (by simp [Value.oneCell'])) (by omega) (by omega) (.s <| .z) .last fun v26 R27 ho28 => ?_)
     have ho5 := ho28.snoc (x := q) rfl rfl
     refine WL_q rfl (q_assign (lk0)) ?_
     refine WL_nil ?_
     refine then_n ?_
     refine WC_seq ?_
     refine WC_freezeR (σ := ⟨_, _⟩) (by rfl) ho5 (.s <| .z) .last fun F29 hF30 hz31 => ?_
     replace hl := hl.mono hF30
     replace hx := hx.mono hF30
     have hn2 := ho5.sl (fun _ => rfl) hz31 (by simp only [List.length_append, List.length_singleton]; omega)
     refine WC_reg fun ds => ?_
     refine WL_q rfl (q_move (lk0)) ?_
     refine WL_q rfl (q_assign (lk0)) ?_
     refine WL_nil ?_
     refine then_n ?_
     refine WC_ret ?_
     refine post_ret rfl (.tmp (lk0) .nil) ?_
     show Nats _ _ _
     unfold insR; rw [if_neg h2]; exact hn2
theorem lists_box1 {F : Heap} {b T : Nat} (h : F b = some (bx T [.slice none 0 0])) : Lsts F (.slice (some ⟨b, 0, none⟩) 1 1) [[]] := by
  refine ⟨[(.slice none 0 0, [])], ?_, ?_, rfl⟩
  · refine Sl.box h rfl (by omega) (by omega) fun i hi j u hu => ?_
    have : i = 0 := by simpa using hi
    subst this
    match j, hu with
    | 0, hu => simpa [slE] using hu
    | j + 1, hu => simp [slE] at hu
  · intro p hp; simp at hp; subst hp; exact Sl.nil
set_option maxRecDepth 100000 in
theorem lists_nil {F : Heap} {lo hi : Nat} : Ok Try.prog 76 [.int .i64 (lo : Int), .int .i64 (hi : Int), .int .i64 ((0 : Nat) : Int)].toArray F fun u F' => Lsts F' u (listsR 0 lo hi) := by
  refine Ok.intro Try.func76 rfl Try.ntmps76 rfl fun w0 => ?_
  refine WC_seq ?_
  refine WC_reg fun ds => ?_
  refine WL_q rfl (q_assign lk_const) ?_
  refine WL_nil ?_
  refine then_n ?_
  refine WC_seq ?_
  refine WC_seq ?_
  refine WC_reg fun ds => ?_
  refine WL_q rfl (q_move (lk1 rfl <| lk_entry rfl)) ?_
  refine WL_q rfl (q_leq (lk0) lk_const) ?_
  refine WL_nil ?_
  refine then_n ?_
  refine WC_if_true (lk0) rfl ?_
  refine WC_seq ?_
  refine WC_reg fun ds => ?_
  refine WL_x rfl (x_build sl_126 zr_29 rfl (.cons lk_const .nil) rfl rfl (by decide) (by simp [Value.oneCell']) fun b1 hb1 nb1 => ?_)
  refine WL_freeze (i := 0) rfl hb1 .here fun F2 hF3 hz4 => ?_
  have hsl5 := lists_box1 hz4
  refine WL_q rfl (q_assign (lk0)) ?_
  refine WL_nil ?_
  refine then_n ?_
  refine WC_ret ?_
  refine then_r ?_
  refine post_ret rfl (.tmp (lk0) .nil) ?_
  exact hsl5
set_option maxRecDepth 100000 in
theorem lists_step {F : Heap} {lo hi n : Nat} (hh : hi ≤ 8) (hlo : lo ≤ 8) (hn8 : n ≤ 8) (ih : ∀ {G : Heap} {lo2 : Nat}, lo2 ≤ 8 → Ok Try.prog 76 [.int .i64 (lo2 : Int), .int .i64 (hi : Int), .int .i64 (n : Int)].toArray G fun u F2 => Lsts F2 u (listsR n lo2 hi)) : Ok Try.prog 76 [.int .i64 (lo : Int), .int .i64 (hi : Int), .int .i64 ((n + 1 : Nat) : Int)].toArray F fun u F' => Lsts F' u (listsR (n + 1) lo hi) := by
  refine Ok.intro Try.func76 rfl Try.ntmps76 rfl fun w0 => ?_
  refine WC_seq ?_
  refine WC_reg fun ds => ?_
  refine WL_q rfl (q_assign lk_const) ?_
  refine WL_nil ?_
  refine then_n ?_
  refine WC_seq ?_
  refine WC_seq ?_
  refine WC_reg fun ds => ?_
  refine WL_q rfl (q_move (lk1 rfl <| lk_entry rfl)) ?_
  refine WL_q rfl (q_leq (lk0) lk_const) ?_
  refine WL_nil ?_
  refine then_n ?_
  refine WC_if_false (lk0) (decide_eq_false (by omega)) ?_
  refine WC_skip ?_
  refine then_n ?_
  refine WC_seq ?_
  refine WC_reg fun ds => ?_
  refine WL_q rfl (q_assign lk_const) ?_
  refine WL_nil ?_
  refine then_n ?_
  refine WC_seq ?_
  refine WC_seq ?_
  refine WC_reg fun ds => ?_
  refine WL_q rfl (q_move (lk4 rfl <| lk_entry rfl)) ?_
  refine WL_q rfl (q_assign (lk0)) ?_
  refine WL_nil ?_
  refine then_n ?_
  refine WC_block ?_
  refine WC_loopN [7, 8, 9, 10, 15, 16, 17, 18, 19, 20, 21, 22, 23, 24, 25, 26, 27, 28, 29, 30, 31, 32, 33, 34, 35, 36, 37, 38, 39, 40, 41, 42, 43] (fun m e σ => ∃ G, ∃ j : Nat, m + j = hi - n - lo ∧ e 8 = .int .i64 ((lo + j : Nat) : Int) ∧ ∃ v7 R7 ps, e 7 = v7 ∧ Own 29 1 v7 ps.length (ps.flatMap slE) R7 ∧ AllN G ps ∧ ps.map (·.2) = listsTo n lo hi j ∧ σ = ⟨G, R7⟩) (hi - n - lo) ?_ ?_
  · exact ⟨_, 0, by omega, (lk0), _, _, [], (lk2 rfl <| lk0), Own.nil, (fun p hp => nomatch hp), rfl, rfl⟩
  ·
   rintro m e _ ⟨G, j, hm1, hs8, v7, R7, ps, hs7, ho, hpa, hps, rfl⟩
   by_cases hlt : lo + j + (n + 1) ≤ hi
   ·
    refine WC_seq ?_
    refine WC_seq ?_
    refine WC_reg fun ds => ?_
    refine WL_q rfl (q_move (lk_in rfl hs8)) ?_
    refine WL_q rfl (q_move (lk1 rfl <| lk_off rfl <| lk4 rfl <| lk2 rfl <| lk_entry rfl)) ?_
    refine WL_q rfl (q_add (lk1 rfl <| lk0) (lk0) rfl (by omega) (by omega)) ?_
    refine WL_q rfl (q_move (lk2 rfl <| lk1 rfl <| lk_off rfl <| lk4 rfl <| lk2 rfl <| lk_entry rfl)) ?_
    refine WL_q rfl (q_leq (lk1 rfl <| lk0) (lk0)) ?_
    refine WL_nil ?_
    refine then_n ?_
    refine WC_if_true (lk0) (decide_eq_true (by omega)) ?_
    refine WC_skip ?_
    refine then_n ?_
    refine WC_seq ?_
    refine WC_block ?_
    refine WC_seq ?_
    refine WC_reg fun ds => ?_
    refine WL_q rfl (q_move (lk4 rfl <| lk1 rfl <| lk_in rfl hs8)) ?_
    refine WL_q rfl (q_add (lk0) lk_const (show ((lo + j : Nat) : Int) + 1 = ((lo + j + 1 : Nat) : Int) by simp) (by omega) (by omega)) ?_
    refine WL_q rfl (q_move (lk4 rfl <| lk2 rfl <| lk1 rfl <| lk_off rfl <| lk4 rfl <| lk2 rfl <| lk_entry rfl)) ?_
    refine WL_q rfl (q_move (lk8 rfl <| lk_off rfl <| lk4 rfl <| lk2 rfl <| lk_entry rfl)) ?_
    refine WL_q rfl (q_sub (lk0) lk_const (show ((n + 1 : Nat) : Int) - 1 = (n : Int) by simp) (by omega) (by omega)) ?_
    refine WL_x rfl (x_call bd_76 lk_func (.cons (lk2 rfl <| lk1 rfl <| lk0) (.cons (lk2 rfl <| lk0) (.cons (lk0) .nil))) (ih (lo2 := lo + j + 1) (by omega)) fun v2 F3 hr4 hF5 => ?_)
    replace hpa := hpa.mono hF5
    obtain ⟨qs, hqs, hqa, hqm⟩ := hr4
    obtain ⟨v9, rfl⟩ : ∃ w, w = v2 := ⟨_, rfl⟩
    replace hqa : AllN _ qs := hqa
    refine WL_q rfl (q_assign (lk0)) ?_
    refine WL_nil ?_
    refine then_n ?_
    refine WC_seq ?_
    refine WC_reg fun ds => ?_
    refine WL_q rfl (q_assign lk_const) ?_
    refine WL_nil ?_
    refine then_n ?_
    refine WC_block ?_
    refine WC_loopN [7, 10, 28, 29, 30, 31, 32, 33, 34, 35, 36, 37, 38, 39, 40, 41, 42, 43] (fun m e σ => ∃ k : Nat, m + k = qs.length ∧ e 10 = .int .i64 k ∧ ∃ G v7 R7 ps, AllN G qs ∧ Sl G v9 1 slE qs ∧ e 7 = v7 ∧ Own 29 1 v7 ps.length (ps.flatMap slE) R7 ∧ AllN G ps ∧ ps.map (·.2) = listsTo n lo hi j ++ ((qs.map (·.2)).take k).map ((lo + j) :: ·) ∧ σ = ⟨G, R7⟩) (qs.length) ?_ ?_
    · exact ⟨0, by omega, (lk0), _, _, _, ps, hqa, hqs, (lk8 rfl <| lk4 rfl <| lk1 rfl <| lk_in rfl hs7), ho, hpa, by rw [hps]; simp, rfl⟩
    ·
     rintro m2 e2 _ ⟨k, hm2, ht10, G2, v7, R7, ps, hqa, hqs, ht7, ho, hpa, hps, rfl⟩
     by_cases hk : k < qs.length
     ·
      refine WC_seq ?_
      refine WC_seq ?_
      refine WC_reg fun ds => ?_
      refine WL_q rfl (q_move (lk_in rfl ht10)) ?_
      refine WL_q rfl (q_move (lk1 rfl <| lk_off rfl <| lk1 rfl <| lk0)) ?_
      refine WL_q rfl (q_lenP sl_126 (lk0) hqs.plain) ?_
      refine WL_q rfl (q_lss (lk2 rfl <| lk0) (lk0)) ?_
      refine WL_nil ?_
      refine then_n ?_
      refine WC_if_true (lk0) (by first | rfl | exact decide_eq_true (by omega)) ?_
      have hql : Nats _ _ _ := hqa _ (List.getElem_mem hk)
      have hqe := (lists_mem (hqm ▸ List.mem_map_of_mem (f := Prod.snd) (List.getElem_mem hk))).1
      have hqb : qs.length ≤ 16777216 := by have := lists_bound8 (hi := hi) (m := n) (lo := lo + j + 1) hh hn8; have h2 := congrArg List.length hqm; simp at h2; omega
      have htb := listsTo_bound8 (hi := hi) (m := n) (lo := lo) (j := j) hh hn8
      have hpl : ps.length = (listsTo n lo hi j).length + k := by have := congrArg List.length hps; simp at this; omega
      refine WC_skip ?_
      refine then_n ?_
      refine WC_seq ?_
      refine WC_block ?_
      refine WC_reg fun ds => ?_
      refine WL_q rfl (q_move (lk4 rfl <| lk_in rfl ht7)) ?_
      refine WL_q rfl (q_move (lk4 rfl <| lk1 rfl <| lk_off rfl <| lk8 rfl <| lk4 rfl <| lk1 rfl <| lk_in rfl hs8)) ?_
      refine WL_x rfl (x_build sl_29 zr_3 rfl (.cons (lk0) .nil) rfl rfl (by decide) (by simp [Value.oneCell']) fun b7 hb7 nb7 => ?_)
      refine WL_q rfl (q_move (lk4 rfl <| lk2 rfl <| lk1 rfl <| lk_off rfl <| lk1 rfl <| lk0)) ?_
      refine WL_q rfl (q_move (lk8 rfl <| lk_in rfl ht10)) ?_
      refine WL_q rfl (q_index  sl_126 (lk1 rfl <| lk0) hqs.plain (lk0) rfl hk) ?_
      refine WL_q rfl (q_load1 one_29 (lk0) (hqs.cell1 hk rfl)) ?_
      refine WL_x rfl (x_append sl_29 el_3 (lk4 rfl <| lk0) (own_box rfl) (lk0) (hql.src (fun _ => rfl) natE_one) (by omega) (by omega) (.z) .box fun v8 R9 ho10 => ?_)
      have ho2 : Own 3 1 v8 ((lo + j) :: (qs[k]).2).length (((lo + j) :: (qs[k]).2).flatMap natE) R9 := by simpa [natE, Nat.add_comm] using ho10
      refine WL_x rfl (x_build sl_126 zr_29 rfl (.cons (lk0) .nil) rfl rfl (by decide) (all_one ho2.one) fun b11 hb11 nb11 => ?_)
      refine WL_x rfl (x_append sl_126 el_29 (lk8 rfl <| lk0) ho (lk0) (src_box (s := 1) 0 rfl rfl (all_one ho2.one)) (by omega) (by omega) (.s <| .k <| .z) .last fun v12 R13 ho14 => ?_)
      have ho6 := ho14.snoc (x := ((_, (lo + j) :: (qs[k]).2) : Value × List Nat)) rfl rfl
      refine WL_q rfl (q_assign (lk0)) ?_
      refine WL_nil ?_
      refine block_n (then_n ?_)
      refine WC_freezeR (σ := ⟨_, _⟩) (by rfl) ho2 (.s <| .z) .more fun F15 hF16 hz17 => ?_
      replace hqa := hqa.mono hF16
      replace hqs := hqs.mono hF16
      replace hpa := hpa.mono hF16
      replace hql := hql.mono hF16
      have hn2 := ho2.sl (fun _ => rfl) hz17 (by simp only [List.length_cons]; omega)
      refine WC_imp (fun _ _ h => h.drop (.cons _ <| .refl _)) ?_
      refine WC_reg fun ds => ?_
      refine WL_q rfl (q_move (lk8 rfl <| lk4 rfl <| lk2 rfl <| lk1 rfl <| lk_in rfl ht10)) ?_
      refine WL_q rfl (q_add (lk0) lk_const rfl (by omega) (by omega)) ?_
      refine WL_q rfl (q_assign (lk0)) ?_
      refine WL_nil ?_
      refine then_n ⟨_, m2 - 1, Off.eq (ou16 rfl <| ou2 rfl <| off_over), by omega, ?_⟩
      refine ⟨k + 1, by omega, (lk0), _, _, _, ps ++ [(_, (lo + j) :: (qs[k]).2)], hqa, hqs, (lk2 rfl <| lk1 rfl <| lk0), ho6, fun p hp => ?_, ?_, rfl⟩
      · rcases List.mem_append.1 hp with hp | hp
        · exact hpa p hp
        · simp at hp; subst hp; exact hn2
      · rw [List.map_append, hps, List.take_succ_eq_append_getElem (by simpa using hk)]; simp
     ·
      refine WC_seq ?_
      refine WC_seq ?_
      refine WC_reg fun ds => ?_
      refine WL_q rfl (q_move (lk_in rfl ht10)) ?_
      refine WL_q rfl (q_move (lk1 rfl <| lk_off rfl <| lk1 rfl <| lk0)) ?_
      refine WL_q rfl (q_lenP sl_126 (lk0) hqs.plain) ?_
      refine WL_q rfl (q_lss (lk2 rfl <| lk0) (lk0)) ?_
      refine WL_nil ?_
      refine then_n ?_
      refine WC_if_false (lk0) (by first | rfl | exact decide_eq_false (by omega)) ?_
      obtain rfl : k = qs.length := by omega
      refine WC_exit ?_
      refine then_x (then_x (exit_here ?_))
      refine block_n (then_n ?_)
      refine WC_reg fun ds => ?_
      refine WL_q rfl (q_move (lk4 rfl <| lk_off rfl <| lk8 rfl <| lk4 rfl <| lk1 rfl <| lk_in rfl hs8)) ?_
      refine WL_q rfl (q_add (lk0) lk_const rfl (by omega) (by omega)) ?_
      refine WL_q rfl (q_assign (lk0)) ?_
      refine WL_nil ?_
      refine then_n ⟨_, m - 1, Off.eq (ou4 rfl <| ou2 rfl <| ou1 rfl <| off_in rfl <| ou8 rfl <| ou4 rfl <| ou1 rfl <| off_over), by omega, ?_⟩
      refine ⟨_, j + 1, by omega, (lk0), _, _, ps, (lk4 rfl <| lk2 rfl <| lk1 rfl <| lk_in rfl ht7), ho, hpa, ?_, rfl⟩
      rw [hps, listsTo_succ, ← hqm, List.take_of_length_le (by simp)]
   ·
    refine WC_seq ?_
    refine WC_seq ?_
    refine WC_reg fun ds => ?_
    refine WL_q rfl (q_move (lk_in rfl hs8)) ?_
    refine WL_q rfl (q_move (lk1 rfl <| lk_off rfl <| lk4 rfl <| lk2 rfl <| lk_entry rfl)) ?_
    refine WL_q rfl (q_add (lk1 rfl <| lk0) (lk0) rfl (by omega) (by omega)) ?_
    refine WL_q rfl (q_move (lk2 rfl <| lk1 rfl <| lk_off rfl <| lk4 rfl <| lk2 rfl <| lk_entry rfl)) ?_
    refine WL_q rfl (q_leq (lk1 rfl <| lk0) (lk0)) ?_
    refine WL_nil ?_
    refine then_n ?_
    refine WC_if_false (lk0) (decide_eq_false (by omega)) ?_
    obtain rfl : j = hi - n - lo := by omega
    refine WC_freezeR (σ := ⟨_, _⟩) (by rfl) ho (.z) .last fun F18 hF19 hz20 => ?_
    replace hpa := hpa.mono hF19
    have hsp := ho.sl (fun _ => rfl) hz20 (by have := listsTo_bound8 (hi := hi) (m := n) (lo := lo) (j := hi - n - lo) hh hn8; have h2 := congrArg List.length hps; simp at h2; omega)
    refine WC_exit ?_
    refine then_x (then_x (exit_here ?_))
    refine then_n ?_
    refine WC_seq ?_
    refine WC_reg fun ds => ?_
    refine WL_q rfl (q_move (lk4 rfl <| lk1 rfl <| lk_in rfl hs7)) ?_
    refine WL_q rfl (q_assign (lk0)) ?_
    refine WL_nil ?_
    refine then_n ?_
    refine WC_ret ?_
    refine post_ret rfl (.tmp (lk0) .nil) ?_
    exact ⟨ps, hsp, hpa, hps⟩
theorem lists_ok {hi : Nat} (hh : hi ≤ 8) : ∀ (n : Nat) {F : Heap} {lo : Nat}, lo ≤ 8 → n ≤ 8 → Ok Try.prog 76 [.int .i64 (lo : Int), .int .i64 (hi : Int), .int .i64 (n : Int)].toArray F fun u F' => Lsts F' u (listsR n lo hi)
  | 0, F, lo, _, _ => lists_nil
  | n + 1, F, lo, h1, h2 => lists_step hh h1 (by omega) (fun h3 => lists_ok hh n h3 (by omega))
end Go.Proofs.Ytbcjfkcpfjccdaa
namespace Go.Proofs.Ytbcjfkcpfjccdaa
open Go.RowKit
theorem bd_45 : Body Try.prog 45 := body_of (by kernel_rfl)
set_option maxRecDepth 100000 in
theorem refGives_ok {F : Heap} {vb vr vs vq : Value} {r : Room} (hr : RoomR F vb vr vs vq r) {v : Value} {xs : List Int} (hx : Ints F v xs) (x : Int) : Ok Try.prog 33 [.agg #[vb, vr, vs, vq], v, .int .i64 x].toArray F fun u F' => ∃ ws, u = .tuple #[ws, .int .i64 (refGivesE r xs x).2] ∧ Nats F' ws (refGivesE r xs x).1 := by
  refine Ok.intro Try.func33 rfl Try.ntmps33 rfl fun w0 => ?_
  have hL1 := hr.reqs.plain.lt
  have hL2 := hx.plain.lt
  by_cases h0 : someErr r xs = 0
  ·
   obtain ⟨l, rfl, hlt2, hasc⟩ := idx_of h0
   have hv := someErr_valid h0
   have hl := ints_nats hx
   have hn8 := asc_length hv hlt2 hasc
   have hnb := hv.nb
   have hnq := hv.nq
   refine WC_seq ?_
   refine WC_reg fun ds => ?_
   refine WL_x rfl (x_box (lk_entry rfl) rfl fun b1 hb1 nb1 => ?_)
   refine WL_q rfl (q_assign lk_const) ?_
   refine WL_q rfl (q_assign lk_const) ?_
   refine WL_nil ?_
   refine then_n ?_
   refine WC_seq ?_
   refine WC_reg fun ds => ?_
   refine WL_q rfl (q_loadN agg_27 (lk2 rfl <| lk0) rfl rfl (own_whole 0 rfl)) ?_
   refine WL_q rfl (q_move (lk4 rfl <| lk_entry rfl)) ?_
   refine WL_c rfl (q_call bd_43 lk_func (.cons (lk1 rfl <| lk0) (.cons (lk0) .nil)) (refSome_ok hr hx) (fun _ _ h => h)) ?_
   refine WL_q rfl (q_assign (lk0)) ?_
   refine WL_nil ?_
   refine then_n ?_
   refine WC_seq ?_
   refine WC_seq ?_
   refine WC_reg fun ds => ?_
   refine WL_q rfl (q_move (lk0)) ?_
   refine WL_q rfl (q_eql (lk0) lk_const) ?_
   refine WL_q rfl (q_move (lk0)) ?_
   refine WL_want rfl rfl (lk0) (by rw [h0]; rfl) ?_
   refine WL_q rfl (q_move (lk8 rfl <| lk2 rfl <| lk_entry rfl)) ?_
   refine WL_want rfl rfl (lk1 rfl <| lk0) (by rw [h0]; rfl) ?_
   refine WL_q rfl (q_fieldAddrB fd_27_3 (lk8 rfl <| lk2 rfl <| lk0)) ?_
   refine WL_want rfl rfl (lk2 rfl <| lk0) (by rw [h0]; rfl) ?_
   refine WL_q rfl (q_load1 one_25 (lk0) (Cell.own 0 rfl rfl)) ?_
   refine WL_want rfl rfl (lk2 rfl <| lk1 rfl <| lk0) (by rw [h0]; rfl) ?_
   refine WL_q rfl (q_lenP sl_25 (lk0) hr.reqs.plain) ?_
   refine WL_want rfl rfl (lk4 rfl <| lk0) (by rw [h0]; rfl) ?_
   refine WL_q rfl (q_sub (lk0) lk_const rfl (by omega) (by omega)) ?_
   refine WL_want rfl rfl (lk4 rfl <| lk1 rfl <| lk0) (by rw [h0]; rfl) ?_
   refine WL_c rfl (q_call bd_56 lk_func (.cons (lk4 rfl <| lk0) (.cons lk_const (.cons (lk0) .nil))) (in10_ok _ _ _) (fun _ _ h => h)) ?_
   refine WL_want rfl rfl (lk4 rfl <| lk2 rfl <| lk0) (by rw [h0]; rfl) ?_
   refine WL_q rfl (q_not (lk0)) ?_
   refine WL_q rfl (q_pick_true (lk4 rfl <| lk2 rfl <| lk1 rfl <| lk0) (by rw [h0]; rfl) (lk0)) ?_
   refine WL_nil ?_
   refine then_n ?_
   by_cases hin : inB 0 (r.reqs.length - 1) x = true
   ·
    obtain ⟨q, rfl, hq⟩ := inB_nat hin
    have hq8 : q < 8 := by omega
    refine WC_if_false (lk0) (by simp [hin]) ?_
    refine WC_skip ?_
    refine then_n ?_
    refine WC_seq ?_
    refine WC_seq ?_
    refine WC_reg fun ds => ?_
    refine WL_q rfl (q_move (lk8 rfl <| lk2 rfl <| lk1 rfl <| lk0)) ?_
    refine WL_q rfl (q_eql (lk0) lk_const) ?_
    refine WL_q rfl (q_move (lk0)) ?_
    refine WL_want rfl rfl (lk0) (by rw [h0]; rfl) ?_
    refine WL_q rfl (q_move (lk16 rfl <| lk4 rfl <| lk1 rfl <| lk_entry rfl)) ?_
    refine WL_want rfl rfl (lk1 rfl <| lk0) (by rw [h0]; rfl) ?_
    refine WL_q rfl (q_move (lk16 rfl <| lk4 rfl <| lk2 rfl <| lk_entry rfl)) ?_
    refine WL_want rfl rfl (lk2 rfl <| lk0) (by rw [h0]; rfl) ?_
    refine WL_c rfl (q_call bd_39 lk_func (.cons (lk1 rfl <| lk0) (.cons (lk0) .nil)) (has_nat hl q) (fun _ _ h => h)) ?_
    refine WL_q rfl (q_pick_true (lk2 rfl <| lk1 rfl <| lk0) (by rw [h0]; rfl) (lk0)) ?_
    refine WL_nil ?_
    refine then_n ?_
    by_cases hqm : q ∈ l
    ·
     refine WC_if_true (lk0) (decide_eq_true hqm) ?_
     refine WC_reg fun ds => ?_
     refine WL_q rfl (q_assign lk_const) ?_
     refine WL_nil ?_
     refine then_n ?_
     refine WC_seq ?_
     refine WC_seq ?_
     refine WC_reg fun ds => ?_
     refine WL_q rfl (q_move (lk0)) ?_
     refine WL_q rfl (q_eql (lk0) lk_const) ?_
     refine WL_q rfl (q_move (lk0)) ?_
     refine WL_pass rfl rfl (lk0) (.inl (congrArg Value.bool (by first | rfl | decide))) rfl ?_
     refine WL_pass rfl rfl (lk1 rfl <| lk0) (.inl (congrArg Value.bool (by first | rfl | decide))) rfl ?_
     refine WL_pass rfl rfl (lk2 rfl <| lk0) (.inl (congrArg Value.bool (by first | rfl | decide))) rfl ?_
     refine WL_pass rfl rfl (lk2 rfl <| lk1 rfl <| lk0) (.inl (congrArg Value.bool (by first | rfl | decide))) rfl ?_
     refine WL_pass rfl rfl (lk4 rfl <| lk0) (.inl (congrArg Value.bool (by first | rfl | decide))) rfl ?_
     refine WL_pass rfl rfl (lk4 rfl <| lk1 rfl <| lk0) (.inl (congrArg Value.bool (by first | rfl | decide))) rfl ?_
     refine WL_pass rfl rfl (lk0) (.inr rfl) rfl ?_
     refine WL_pass rfl rfl (lk1 rfl <| lk0) (.inr rfl) rfl ?_
     refine WL_pass rfl rfl (lk2 rfl <| lk0) (.inr rfl) rfl ?_
     refine WL_pass rfl rfl (lk2 rfl <| lk1 rfl <| lk0) (.inr rfl) rfl ?_
     refine WL_pass rfl rfl (lk4 rfl <| lk0) (.inr rfl) rfl ?_
     refine WL_pass rfl rfl (lk4 rfl <| lk1 rfl <| lk0) (.inr rfl) rfl ?_
     refine WL_pass rfl rfl (lk8 rfl <| lk4 rfl <| lk0) (.inl (congrArg Value.bool (by first | rfl | decide))) rfl ?_
     refine WL_q rfl (q_pick_false (lk8 rfl <| lk4 rfl <| lk1 rfl <| lk0) (by first | rfl | decide) lk_const) ?_
     refine WL_nil ?_
     refine then_n ?_
     refine WC_if_false (lk0) (by first | rfl | decide) ?_
     refine WC_skip ?_
     refine then_n ?_
     refine WC_seq ?_
     refine WC_seq ?_
     refine WC_reg fun ds => ?_
     refine WL_q rfl (q_move (lk16 rfl <| lk1 rfl <| lk0)) ?_
     refine WL_q rfl (q_neq (lk0) lk_const) ?_
     refine WL_nil ?_
     refine then_n ?_
     refine WC_if_true (lk0) (by first | rfl | decide) ?_
     refine WC_seq ?_
     refine WC_reg fun ds => ?_
     refine WL_q rfl (q_move (lk16 rfl <| lk2 rfl <| lk1 rfl <| lk0)) ?_
     refine WL_q rfl (q_assign lk_const) ?_
     refine WL_q rfl (q_assign (lk1 rfl <| lk0)) ?_
     refine WL_nil ?_
     refine then_n ?_
     refine WC_ret ?_
     refine then_r ?_
     refine post_ret rfl (.tmp (lk1 rfl <| lk0) (.tmp (lk0) .nil)) ?_
     rw [rgives_in h0 hin hqm]
     exact ⟨_, rfl, Sl.nil⟩
    ·
     refine WC_if_false (lk0) (decide_eq_false hqm) ?_
     refine WC_skip ?_
     refine then_n ?_
     refine WC_seq ?_
     refine WC_seq ?_
     refine WC_reg fun ds => ?_
     refine WL_q rfl (q_move (lk16 rfl <| lk2 rfl <| lk0)) ?_
     refine WL_q rfl (q_eql (lk0) lk_const) ?_
     refine WL_q rfl (q_move (lk0)) ?_
     refine WL_want rfl rfl (lk0) (by rw [h0]; rfl) ?_
     refine WL_q rfl (q_loadN agg_27 (lk16 rfl <| lk8 rfl <| lk2 rfl <| lk1 rfl <| lk0) rfl rfl (own_whole 0 rfl)) ?_
     refine WL_want rfl rfl (lk1 rfl <| lk0) (by rw [h0]; rfl) ?_
     refine WL_q rfl (q_move (lk16 rfl <| lk8 rfl <| lk4 rfl <| lk1 rfl <| lk_entry rfl)) ?_
     refine WL_want rfl rfl (lk2 rfl <| lk0) (by rw [h0]; rfl) ?_
     refine WL_x rfl (x_call bd_61 lk_func (.cons (lk1 rfl <| lk0) (.cons (lk0) .nil)) (refAll_ok hr hv hl hlt2 (by omega)) fun v2 F3 hr4 hF5 => ?_)
     replace hr := hr.mono hF5
     replace hx := hx.mono hF5
     replace hl := hl.mono hF5
     obtain ⟨is1, ws1, n1, rfl, hA1⟩ := hr4
     refine WL_want rfl rfl (lk2 rfl <| lk1 rfl <| lk0) (by rw [h0]; rfl) ?_
     refine WL_q rfl (q_field1 pt_105_0 one_4 (lk0) rfl) ?_
     refine WL_want rfl rfl (lk4 rfl <| lk0) (by rw [h0]; rfl) ?_
     refine WL_q rfl (q_not (lk0)) ?_
     refine WL_want rfl rfl (lk4 rfl <| lk1 rfl <| lk0) (by rw [h0]; rfl) ?_
     refine WL_q rfl (q_move (lk0)) ?_
     by_cases hc1 : canB r l = true
     ·
      refine WL_want rfl rfl (lk0) (by rw [hA1.is_, show (allR r l).isSome = true from hc1]; rfl) ?_
      refine WL_q rfl (q_loadN agg_27 (lk32 rfl <| lk1 rfl <| lk0) rfl rfl (own_whole 0 rfl)) ?_
      refine WL_want rfl rfl (lk1 rfl <| lk0) (by rw [hA1.is_, show (allR r l).isSome = true from hc1]; rfl) ?_
      refine WL_q rfl (q_move (lk32 rfl <| lk2 rfl <| lk1 rfl <| lk_entry rfl)) ?_
      refine WL_want rfl rfl (lk2 rfl <| lk0) (by rw [hA1.is_, show (allR r l).isSome = true from hc1]; rfl) ?_
      refine WL_x rfl (x_build sl_29 zr_3 rfl (.cons (lk0) .nil) rfl rfl (by decide) (by simp [Value.oneCell']) fun b6 hb6 nb6 => ?_)
      refine WL_freeze (i := 0) rfl hb6 .here fun F7 hF8 hz9 => ?_
      replace hr := hr.mono hF8
      replace hx := hx.mono hF8
      replace hl := hl.mono hF8
      have hsl10 := natOne1 hz9
      refine WL_want rfl rfl (lk2 rfl <| lk1 rfl <| lk0) (by rw [hA1.is_, show (allR r l).isSome = true from hc1]; rfl) ?_
      refine WL_x rfl (x_call bd_61 lk_func (.cons (lk2 rfl <| lk0) (.cons (lk0) .nil)) (refAll_ok hr hv hsl10 (fun i hi => by simp at hi; omega) (by simp)) fun v11 F12 hr13 hF14 => ?_)
      replace hr := hr.mono hF14
      replace hx := hx.mono hF14
      replace hl := hl.mono hF14
      replace hsl10 := hsl10.mono hF14
      obtain ⟨is2, ws2, n2, rfl, hA2⟩ := hr13
      refine WL_want rfl rfl (lk4 rfl <| lk0) (by rw [hA1.is_, show (allR r l).isSome = true from hc1]; rfl) ?_
      refine WL_q rfl (q_field1 pt_105_0 one_4 (lk0) rfl) ?_
      refine WL_want rfl rfl (lk4 rfl <| lk1 rfl <| lk0) (by rw [hA1.is_, show (allR r l).isSome = true from hc1]; rfl) ?_
      refine WL_q rfl (q_not (lk0)) ?_
      refine WL_want rfl rfl (lk8 rfl <| lk4 rfl <| lk0) (by rw [h0]; rfl) ?_
      refine WL_q rfl (q_pick_false (lk4 rfl <| lk2 rfl <| lk0) (by rw [hA1.is_, show (allR r l).isSome = true from hc1]; rfl) (lk0)) ?_
      refine WL_q rfl (q_pick_true (lk8 rfl <| lk4 rfl <| lk1 rfl <| lk0) (by rw [h0]; rfl) (lk0)) ?_
      refine WL_nil ?_
      refine then_n ?_
      by_cases hc2 : canB r [q] = true
      ·
       refine WC_if_false (lk0) (by rw [hA2.is_, show (allR r [q]).isSome = true from hc2]; rfl) ?_
       refine WC_skip ?_
       refine then_n ?_
       refine WC_seq ?_
       refine WC_seq ?_
       refine WC_reg fun ds => ?_
       refine WL_q rfl (q_move (lk32 rfl <| lk2 rfl <| lk1 rfl <| lk0)) ?_
       refine WL_q rfl (q_neq (lk0) lk_const) ?_
       refine WL_nil ?_
       refine then_n ?_
       refine WC_if_false (lk0) (by rw [h0]; rfl) ?_
       refine WC_skip ?_
       refine then_n ?_
       refine WC_seq ?_
       refine WC_seq ?_
       refine WC_reg fun ds => ?_
       refine WL_q rfl (q_assign lk_const) ?_
       refine WL_nil ?_
       refine then_n ?_
       refine WC_block ?_
       refine WC_loopN [6, 7, 9, 10, 11, 12, 13, 55, 56, 57, 58, 59, 60, 61, 62, 63, 64, 65, 66, 67, 68, 69, 70, 71, 72, 73, 74, 75, 76, 77, 78, 79, 80, 81, 82, 83, 84, 85, 86, 87, 88, 89, 90, 91, 92, 93, 94, 95, 96, 97, 98, 99, 100, 101, 102, 103] (fun m e σ => ∃ G, RoomR G vb vr vs vq r ∧ Nats G v l ∧ ∃ n : Nat, m + n = l.length ∧ e 9 = .int .i64 n ∧ σ = ⟨G, [(b1, bx 27 [vb, vr, vs, vq])]⟩ ∧ (∀ p ∈ candsTo l.length n, canB r (insR l p q) = false)) (l.length) ?_ ?_
       · exact ⟨_, hr, hl, 0, by omega, (lk0), rfl, fun p hp => nomatch hp⟩
       ·
        rintro m e _ ⟨G, hr, hl, n, hm1, hs9, rfl, hnof⟩
        by_cases hlt : n < l.length
        ·
         refine WC_seq ?_
         refine WC_seq ?_
         refine WC_reg fun ds => ?_
         refine WL_q rfl (q_move (lk_in rfl hs9)) ?_
         refine WL_q rfl (q_move (lk1 rfl <| lk_off rfl <| lk32 rfl <| lk8 rfl <| lk4 rfl <| lk1 rfl <| lk_entry rfl)) ?_
         refine WL_q rfl (q_lenP sl_29 (lk0) hl.plain) ?_
         refine WL_q rfl (q_lss (lk2 rfl <| lk0) (lk0)) ?_
         refine WL_nil ?_
         refine then_n ?_
         refine WC_if_true (lk0) (by first | rfl | exact decide_eq_true (by omega)) ?_
         refine WC_skip ?_
         refine then_n ?_
         refine WC_seq ?_
         refine WC_block ?_
         refine WC_seq ?_
         refine WC_reg fun ds => ?_
         refine WL_q rfl (q_move (lk4 rfl <| lk_off rfl <| lk32 rfl <| lk8 rfl <| lk4 rfl <| lk1 rfl <| lk_entry rfl)) ?_
         refine WL_q rfl (q_lenP sl_29 (lk0) hl.plain) ?_
         refine WL_q rfl (q_move (lk4 rfl <| lk2 rfl <| lk_in rfl hs9)) ?_
         refine WL_x rfl (x_call bd_76 lk_func (.cons lk_const (.cons (lk1 rfl <| lk0) (.cons (lk0) .nil))) (lists_ok (by omega) n (lo := 0) (by omega) (by omega)) fun v16 F17 hr18 hF19 => ?_)
         replace hr := hr.mono hF19
         replace hl := hl.mono hF19
         obtain ⟨qs, hqs, hqa, hqv⟩ := hr18
         obtain ⟨v10, rfl⟩ : ∃ w, w = v16 := ⟨_, rfl⟩
         replace hqa : AllN _ qs := hqa
         refine WL_q rfl (q_assign (lk0)) ?_
         refine WL_nil ?_
         refine then_n ?_
         refine WC_seq ?_
         refine WC_reg fun ds => ?_
         refine WL_q rfl (q_assign lk_const) ?_
         refine WL_nil ?_
         refine then_n ?_
         refine WC_block ?_
         refine WC_loopN [6, 7, 11, 12, 13, 65, 66, 67, 68, 69, 70, 71, 72, 73, 74, 75, 76, 77, 78, 79, 80, 81, 82, 83, 84, 85, 86, 87, 88, 89, 90, 91, 92, 93, 94, 95, 96, 97, 98, 99, 100, 101, 102, 103] (fun m e σ => ∃ G, RoomR G vb vr vs vq r ∧ Nats G v l ∧ Sl G v10 1 slE qs ∧ AllN G qs ∧ ∃ k : Nat, m + k = qs.length ∧ e 11 = .int .i64 k ∧ σ = ⟨G, [(b1, bx 27 [vb, vr, vs, vq])]⟩ ∧ ∀ p ∈ (listsR n 0 l.length).take k, canB r (insR l p q) = false) (qs.length) ?_ ?_
         · exact ⟨_, hr, hl, hqs, hqa, 0, by omega, (lk0), rfl, fun p hp => by simp at hp⟩
         ·
          rintro m2 e2 _ ⟨G2, hr, hl, hqs, hqa, k, hm2, ht11, rfl, hno2⟩; have hqb := hqs.plain.lt
          by_cases hk : k < qs.length
          ·
           refine WC_seq ?_
           refine WC_seq ?_
           refine WC_reg fun ds => ?_
           refine WL_q rfl (q_move (lk_in rfl ht11)) ?_
           refine WL_q rfl (q_move (lk1 rfl <| lk_off rfl <| lk1 rfl <| lk0)) ?_
           refine WL_q rfl (q_lenP sl_126 (lk0) hqs.plain) ?_
           refine WL_q rfl (q_lss (lk2 rfl <| lk0) (lk0)) ?_
           refine WL_nil ?_
           refine then_n ?_
           refine WC_if_true (lk0) (by first | rfl | exact decide_eq_true (by omega)) ?_
           have hqn : Nats _ _ _ := hqa _ (List.getElem_mem hk)
           have hqq : qs.length = (listsR n 0 l.length).length := by have := congrArg List.length hqv; simpa using this
           have hqk : (qs[k]).2 = (listsR n 0 l.length)[k]'(by omega) := by simp [← hqv]
           have hpm := lists_mem (hqk ▸ List.getElem_mem (show k < (listsR n 0 l.length).length by omega))
           have hil := insR_len (g := l) (out := (qs[k]).2) (q := q)
           have him : ∀ i ∈ insR l (qs[k]).2 q, i < r.reqs.length := fun i hi => by rcases insR_mem i hi with h | h; (omega); (exact hlt2 i h)
           by_cases hcc : canB r (insR l (qs[k]).2 q) = true
           ·
            refine WC_skip ?_
            refine then_n ?_
            refine WC_seq ?_
            refine WC_block ?_
            refine WC_seq ?_
            refine WC_drawS (.inl rfl) (fun _ _ h => h) (.cons_cons _ <| .refl _) [7, 8, 9] (by kernel_rfl) fun ds => ?_
            refine WX_take 1 rfl (by kernel_rfl) (by kernel_rfl) (by kernel_rfl) (by kernel_rfl) rfl rfl (fun _ h => h.drop (.cons_cons _ <| .refl _)) (fun _ _ _ h => h) (q_move (lk4 rfl <| lk_off rfl <| lk8 rfl <| lk2 rfl <| lk_off rfl <| lk32 rfl <| lk8 rfl <| lk4 rfl <| lk1 rfl <| lk_entry rfl)) ?_
            refine WX_take 2 rfl (by kernel_rfl) (by kernel_rfl) (by kernel_rfl) (by kernel_rfl) rfl rfl (fun _ h => h.drop (.cons_cons _ <| .refl _)) (fun _ _ _ h => h) (q_move (lk4 rfl <| lk1 rfl <| lk_off rfl <| lk1 rfl <| lk0)) ?_
            refine WX_take 3 rfl (by kernel_rfl) (by kernel_rfl) (by kernel_rfl) (by kernel_rfl) rfl rfl (fun _ h => h.drop (.cons_cons _ <| .refl _)) (fun _ _ _ h => h) (q_move (lk4 rfl <| lk2 rfl <| lk_in rfl ht11)) ?_
            refine WX_take 4 rfl (by kernel_rfl) (by kernel_rfl) (by kernel_rfl) (by kernel_rfl) rfl rfl (fun _ h => h.drop (.cons_cons _ <| .refl _)) (fun _ _ _ h => h) (q_index  sl_126 (lk1 rfl <| lk0) hqs.plain (lk0) rfl hk) ?_
            refine WX_take 5 rfl (by kernel_rfl) (by kernel_rfl) (by kernel_rfl) (by kernel_rfl) rfl rfl (fun _ h => h.drop (.cons_cons _ <| .refl _)) (fun _ _ _ h => h) (q_load1 one_29 (lk0) (hqs.cell1 hk rfl)) ?_
            refine WX_pick [0, 6] (by kernel_rfl) (by decide) (in2 ?_ ?_)
            ·
             refine WXop_x rfl rfl (x_quiet (q_loadN agg_27 (lk8 rfl <| lk1 rfl <| lk_off rfl <| lk8 rfl <| lk2 rfl <| lk_off rfl <| lk32 rfl <| lk8 rfl <| lk4 rfl <| lk0) rfl rfl (own_whole 0 rfl)).quiet ⟨fun _ _ => (fun _ h => h.drop (.cons_cons _ <| .refl _)), ?_⟩)
             refine WX_x 6 rfl (by kernel_rfl) rfl (x_quiet (q_move (lk8 rfl <| lk2 rfl <| lk_off rfl <| lk8 rfl <| lk2 rfl <| lk_off rfl <| lk32 rfl <| lk8 rfl <| lk4 rfl <| lk1 rfl <| lk_entry rfl)).quiet ⟨fun _ _ => (fun _ h => h.drop (.cons_cons _ <| .refl _)), ?_⟩)
             refine WX_x 7 rfl (by kernel_rfl) rfl (x_call bd_45 lk_func (.cons (lk4 rfl <| lk2 rfl <| lk0) (.cons (lk2 rfl <| lk0) (.cons (lk0) .nil))) (refWithout_ok hl hqn (by omega) q) fun v21 F22 hr23 hF24 => ⟨(fun h => nomatch h), ?_⟩)
             replace hr := hr.mono hF24
             replace hl := hl.mono hF24
             replace hqs := hqs.mono hF24
             replace hqa := hqa.mono hF24
             replace hqn := hqn.mono hF24
             have hwo := hr23
             refine WX_x 8 rfl (by kernel_rfl) rfl (x_call bd_61 lk_func (.cons (lk2 rfl <| lk0) (.cons (lk0) .nil)) (refAll_ok hr hv hwo him (by omega)) fun v25 F26 hr27 hF28 => ⟨(fun h => nomatch h), ?_⟩)
             replace hr := hr.mono hF28
             replace hl := hl.mono hF28
             replace hqs := hqs.mono hF28
             replace hqa := hqa.mono hF28
             replace hqn := hqn.mono hF28
             replace hwo := hwo.mono hF28
             obtain ⟨is3, ws3, n3, rfl, hA3⟩ := hr27
             refine WX_x 9 rfl (by kernel_rfl) rfl (x_quiet (q_field1 pt_105_0 one_4 (lk0) rfl).quiet ⟨(fun h => nomatch h), ?_⟩)
             refine WX_done (by kernel_rfl) ?_ _
             refine then_n ?_
             refine WC_if_true (lk0) (by rw [hA3.is_]; exact hcc) ?_
             refine WC_seq ?_
             refine WC_reg fun ds => ?_
             refine WL_q rfl (q_assign lk_const) ?_
             refine WL_nil ?_
             refine then_n ?_
             refine WC_seq ?_
             refine WC_seq ?_
             refine WC_reg fun ds => ?_
             refine WL_q rfl (q_assign lk_const) ?_
             refine WL_nil ?_
             refine then_n ?_
             refine WC_block ?_
             refine WC_loopN [12, 13, 81, 82, 83, 84, 85, 86, 87, 88, 89, 90, 91, 92, 93, 94, 95, 96, 97, 98, 99, 100, 101, 102] (fun m e σ => ∃ t : Nat, m + t = (qs[k]).2.length ∧ e 13 = .int .i64 t ∧ ∃ v12 R12, e 12 = v12 ∧ Own 3 1 v12 (picked l ((qs[k]).2.take t)).length ((picked l ((qs[k]).2.take t)).flatMap natE) R12 ∧ σ = ⟨F26, (b1, bx 27 [vb, vr, vs, vq]) :: R12⟩) ((qs[k]).2.length) ?_ ?_
             · exact ⟨0, by omega, (lk0), _, _, (lk1 rfl <| lk0), Own.nil, rfl⟩
             ·
              rintro m3 e3 _ ⟨t, hm3, hw13, v12, R12, hw12, ho, rfl⟩
              by_cases ht : t < (qs[k]).2.length
              ·
               refine WC_seq ?_
               refine WC_seq ?_
               refine WC_reg fun ds => ?_
               refine WL_q rfl (q_move (lk_in rfl hw13)) ?_
               refine WL_q rfl (q_move (lk1 rfl <| lk_off rfl <| lk16 rfl <| lk_off rfl <| lk1 rfl <| lk0)) ?_
               refine WL_q rfl (q_move (lk2 rfl <| lk_off rfl <| lk16 rfl <| lk_in rfl ht11)) ?_
               refine WL_q rfl (q_index  sl_126 (lk1 rfl <| lk0) hqs.plain (lk0) rfl hk) ?_
               refine WL_q rfl (q_load1 one_29 (lk0) (hqs.cell1 hk rfl)) ?_
               refine WL_q rfl (q_lenP sl_29 (lk0) hqn.plain) ?_
               refine WL_q rfl (q_lss (lk4 rfl <| lk1 rfl <| lk0) (lk0)) ?_
               refine WL_nil ?_
               refine then_n ?_
               refine WC_if_true (lk0) (by first | rfl | exact decide_eq_true (by omega)) ?_
               have htl := (hpm.2 _ (List.getElem_mem ht)).2
               have hpk : (picked l ((qs[k]).2.take t)).length ≤ (qs[k]).2.length := by unfold picked; simp; omega
               refine WC_skip ?_
               refine then_n ?_
               refine WC_seq ?_
               refine WC_block ?_
               refine WC_reg fun ds => ?_
               refine WL_q rfl (q_move (lk4 rfl <| lk2 rfl <| lk1 rfl <| lk_in rfl hw12)) ?_
               refine WL_q rfl (q_move (lk8 rfl <| lk_off rfl <| lk16 rfl <| lk_off rfl <| lk8 rfl <| lk2 rfl <| lk_off rfl <| lk32 rfl <| lk8 rfl <| lk4 rfl <| lk1 rfl <| lk_entry rfl)) ?_
               refine WL_q rfl (q_move (lk8 rfl <| lk1 rfl <| lk_off rfl <| lk16 rfl <| lk_off rfl <| lk1 rfl <| lk0)) ?_
               refine WL_q rfl (q_move (lk8 rfl <| lk2 rfl <| lk_off rfl <| lk16 rfl <| lk_in rfl ht11)) ?_
               refine WL_q rfl (q_index  sl_126 (lk1 rfl <| lk0) hqs.plain (lk0) rfl hk) ?_
               refine WL_q rfl (q_load1 one_29 (lk0) (hqs.cell1 hk rfl)) ?_
               refine WL_q rfl (q_move (lk8 rfl <| lk4 rfl <| lk1 rfl <| lk_in rfl hw13)) ?_
               refine WL_q rfl (q_index  sl_29 (lk1 rfl <| lk0) hqn.plain (lk0) rfl ht) ?_
               refine WL_q rfl (q_load1 one_3 (lk0) (hqn.cell1 ht rfl)) ?_
               refine WL_q rfl (q_index  sl_29 (lk4 rfl <| lk2 rfl <| lk1 rfl <| lk0) hl.plain (lk0) rfl htl) ?_
               refine WL_q rfl (q_load1 one_3 (lk0) (hl.cell1 htl rfl)) ?_
               refine WL_x rfl (x_build sl_29 zr_3 rfl (.cons (lk0) .nil) rfl rfl (by decide) (by simp [Value.oneCell']) fun b30 hb30 nb30 => ?_)
               refine WL_x rfl (x_append sl_29 el_3 (lk8 rfl <| lk2 rfl <| lk1 rfl <| lk0) ho (lk0) (src_box (s := 1) 0 rfl rfl (by simp [Value.oneCell'])) (by omega) (by omega) (.s <| .s <| .z) .last fun v31 R32 ho33 => ?_)
               have ho2 := ho33.snoc (x := l[(qs[k]).2[t]]) rfl rfl
               refine WL_q rfl (q_assign (lk0)) ?_
               refine WL_nil ?_
               refine block_n (then_n ?_)
               refine WC_imp (fun _ _ h => h.drop (.cons _ <| .cons_cons _ <| .refl _)) ?_
               refine WC_reg fun ds => ?_
               refine WL_q rfl (q_move (lk16 rfl <| lk4 rfl <| lk1 rfl <| lk_in rfl hw13)) ?_
               refine WL_q rfl (q_add (lk0) lk_const rfl (by omega) (by omega)) ?_
               refine WL_q rfl (q_assign (lk0)) ?_
               refine WL_nil ?_
               refine then_n ⟨_, m3 - 1, Off.eq (ou16 rfl <| ou8 rfl <| off_over), by omega, ?_⟩
               exact ⟨t + 1, by omega, (lk0), _, _, (lk2 rfl <| lk1 rfl <| lk0), by rw [picked_take ht htl]; exact ho2, rfl⟩
              ·
               refine WC_seq ?_
               refine WC_seq ?_
               refine WC_reg fun ds => ?_
               refine WL_q rfl (q_move (lk_in rfl hw13)) ?_
               refine WL_q rfl (q_move (lk1 rfl <| lk_off rfl <| lk16 rfl <| lk_off rfl <| lk1 rfl <| lk0)) ?_
               refine WL_q rfl (q_move (lk2 rfl <| lk_off rfl <| lk16 rfl <| lk_in rfl ht11)) ?_
               refine WL_q rfl (q_index  sl_126 (lk1 rfl <| lk0) hqs.plain (lk0) rfl hk) ?_
               refine WL_q rfl (q_load1 one_29 (lk0) (hqs.cell1 hk rfl)) ?_
               refine WL_q rfl (q_lenP sl_29 (lk0) hqn.plain) ?_
               refine WL_q rfl (q_lss (lk4 rfl <| lk1 rfl <| lk0) (lk0)) ?_
               refine WL_nil ?_
               refine then_n ?_
               refine WC_if_false (lk0) (by first | rfl | exact decide_eq_false (by omega)) ?_
               have htk : (qs[k]).2.take t = (qs[k]).2 := List.take_of_length_le (by omega)
               rw [htk] at ho
               have hpk : (picked l (qs[k]).2).length = (qs[k]).2.length := by unfold picked; simp
               refine WC_freezeR (σ := ⟨_, _⟩) (by rfl) ho (.s <| .z) .last fun F34 hF35 hz36 => ?_
               replace hr := hr.mono hF35
               replace hl := hl.mono hF35
               replace hqs := hqs.mono hF35
               replace hqa := hqa.mono hF35
               replace hqn := hqn.mono hF35
               replace hwo := hwo.mono hF35
               have hn2 := ho.sl (fun _ => rfl) hz36 (by omega)
               refine WC_exit ?_
               refine then_x (then_x (exit_here ?_))
               refine then_n ?_
               refine WC_seq ?_
               refine WC_reg fun ds => ?_
               refine WL_q rfl (q_move (lk4 rfl <| lk2 rfl <| lk1 rfl <| lk_in rfl hw12)) ?_
               refine WL_q rfl (q_assign (lk0)) ?_
               refine WL_q rfl (q_assign lk_const) ?_
               refine WL_nil ?_
               refine then_n ?_
               refine WC_ret ?_
               refine block_r (then_r (then_r (block_r (block_r (then_r (then_r (block_r (then_r ?_))))))))
               refine post_ret rfl (.tmp (lk1 rfl <| lk0) (.tmp (lk0) .nil)) ?_
               rw [rgives_ok h0 hin hqm ⟨hc1, hc2⟩, give_found hlt (by omega) hnof hno2 (by rw [← hqk]; exact hcc), ← hqk]
               exact ⟨_, rfl, hn2⟩
            ·
             refine WXop_x rfl rfl (x_quiet (q_move (lk8 rfl <| lk1 rfl <| lk_off rfl <| lk8 rfl <| lk2 rfl <| lk_off rfl <| lk32 rfl <| lk8 rfl <| lk4 rfl <| lk1 rfl <| lk_entry rfl)).quiet ⟨fun _ _ => (fun _ h => h.drop (.cons_cons _ <| .refl _)), ?_⟩)
             refine WX_pick [0, 7] (by kernel_rfl) (by decide) (in2 ?_ ?_)
             ·
              refine WXop_x rfl rfl (x_quiet (q_loadN agg_27 (lk8 rfl <| lk2 rfl <| lk_off rfl <| lk8 rfl <| lk2 rfl <| lk_off rfl <| lk32 rfl <| lk8 rfl <| lk4 rfl <| lk0) rfl rfl (own_whole 0 rfl)).quiet ⟨fun _ _ => (fun _ h => h.drop (.cons_cons _ <| .refl _)), ?_⟩)
              refine WX_x 7 rfl (by kernel_rfl) rfl (x_call bd_45 lk_func (.cons (lk4 rfl <| lk2 rfl <| lk0) (.cons (lk2 rfl <| lk0) (.cons (lk1 rfl <| lk0) .nil))) (refWithout_ok hl hqn (by omega) q) fun v37 F38 hr39 hF40 => ⟨(fun h => nomatch h), ?_⟩)
              replace hr := hr.mono hF40
              replace hl := hl.mono hF40
              replace hqs := hqs.mono hF40
              replace hqa := hqa.mono hF40
              replace hqn := hqn.mono hF40
              have hwo := hr39
              refine WX_x 8 rfl (by kernel_rfl) rfl (x_call bd_61 lk_func (.cons (lk1 rfl <| lk0) (.cons (lk0) .nil)) (refAll_ok hr hv hwo him (by omega)) fun v41 F42 hr43 hF44 => ⟨(fun h => nomatch h), ?_⟩)
              replace hr := hr.mono hF44
              replace hl := hl.mono hF44
              replace hqs := hqs.mono hF44
              replace hqa := hqa.mono hF44
              replace hqn := hqn.mono hF44
              replace hwo := hwo.mono hF44
              obtain ⟨is3, ws3, n3, rfl, hA3⟩ := hr43
              refine WX_x 9 rfl (by kernel_rfl) rfl (x_quiet (q_field1 pt_105_0 one_4 (lk0) rfl).quiet ⟨(fun h => nomatch h), ?_⟩)
              refine WX_done (by kernel_rfl) ?_ _
              refine then_n ?_
              refine WC_if_true (lk0) (by rw [hA3.is_]; exact hcc) ?_
              refine WC_seq ?_
              refine WC_reg fun ds => ?_
              refine WL_q rfl (q_assign lk_const) ?_
              refine WL_nil ?_
              refine then_n ?_
              refine WC_seq ?_
              refine WC_seq ?_
              refine WC_reg fun ds => ?_
              refine WL_q rfl (q_assign lk_const) ?_
              refine WL_nil ?_
              refine then_n ?_
              refine WC_block ?_
              refine WC_loopN [12, 13, 81, 82, 83, 84, 85, 86, 87, 88, 89, 90, 91, 92, 93, 94, 95, 96, 97, 98, 99, 100, 101, 102] (fun m e σ => ∃ t : Nat, m + t = (qs[k]).2.length ∧ e 13 = .int .i64 t ∧ ∃ v12 R12, e 12 = v12 ∧ Own 3 1 v12 (picked l ((qs[k]).2.take t)).length ((picked l ((qs[k]).2.take t)).flatMap natE) R12 ∧ σ = ⟨F42, (b1, bx 27 [vb, vr, vs, vq]) :: R12⟩) ((qs[k]).2.length) ?_ ?_
              · exact ⟨0, by omega, (lk0), _, _, (lk1 rfl <| lk0), Own.nil, rfl⟩
              ·
               rintro m3 e3 _ ⟨t, hm3, hw13, v12, R12, hw12, ho, rfl⟩
               by_cases ht : t < (qs[k]).2.length
               ·
                refine WC_seq ?_
                refine WC_seq ?_
                refine WC_reg fun ds => ?_
                refine WL_q rfl (q_move (lk_in rfl hw13)) ?_
                refine WL_q rfl (q_move (lk1 rfl <| lk_off rfl <| lk16 rfl <| lk_off rfl <| lk1 rfl <| lk0)) ?_
                refine WL_q rfl (q_move (lk2 rfl <| lk_off rfl <| lk16 rfl <| lk_in rfl ht11)) ?_
                refine WL_q rfl (q_index  sl_126 (lk1 rfl <| lk0) hqs.plain (lk0) rfl hk) ?_
                refine WL_q rfl (q_load1 one_29 (lk0) (hqs.cell1 hk rfl)) ?_
                refine WL_q rfl (q_lenP sl_29 (lk0) hqn.plain) ?_
                refine WL_q rfl (q_lss (lk4 rfl <| lk1 rfl <| lk0) (lk0)) ?_
                refine WL_nil ?_
                refine then_n ?_
                refine WC_if_true (lk0) (by first | rfl | exact decide_eq_true (by omega)) ?_
                have htl := (hpm.2 _ (List.getElem_mem ht)).2
                have hpk : (picked l ((qs[k]).2.take t)).length ≤ (qs[k]).2.length := by unfold picked; simp; omega
                refine WC_skip ?_
                refine then_n ?_
                refine WC_seq ?_
                refine WC_block ?_
                refine WC_reg fun ds => ?_
                refine WL_q rfl (q_move (lk4 rfl <| lk2 rfl <| lk1 rfl <| lk_in rfl hw12)) ?_
                refine WL_q rfl (q_move (lk8 rfl <| lk_off rfl <| lk16 rfl <| lk_off rfl <| lk8 rfl <| lk2 rfl <| lk_off rfl <| lk32 rfl <| lk8 rfl <| lk4 rfl <| lk1 rfl <| lk_entry rfl)) ?_
                refine WL_q rfl (q_move (lk8 rfl <| lk1 rfl <| lk_off rfl <| lk16 rfl <| lk_off rfl <| lk1 rfl <| lk0)) ?_
                refine WL_q rfl (q_move (lk8 rfl <| lk2 rfl <| lk_off rfl <| lk16 rfl <| lk_in rfl ht11)) ?_
                refine WL_q rfl (q_index  sl_126 (lk1 rfl <| lk0) hqs.plain (lk0) rfl hk) ?_
                refine WL_q rfl (q_load1 one_29 (lk0) (hqs.cell1 hk rfl)) ?_
                refine WL_q rfl (q_move (lk8 rfl <| lk4 rfl <| lk1 rfl <| lk_in rfl hw13)) ?_
                refine WL_q rfl (q_index  sl_29 (lk1 rfl <| lk0) hqn.plain (lk0) rfl ht) ?_
                refine WL_q rfl (q_load1 one_3 (lk0) (hqn.cell1 ht rfl)) ?_
                refine WL_q rfl (q_index  sl_29 (lk4 rfl <| lk2 rfl <| lk1 rfl <| lk0) hl.plain (lk0) rfl htl) ?_
                refine WL_q rfl (q_load1 one_3 (lk0) (hl.cell1 htl rfl)) ?_
                refine WL_x rfl (x_build sl_29 zr_3 rfl (.cons (lk0) .nil) rfl rfl (by decide) (by simp [Value.oneCell']) fun b46 hb46 nb46 => ?_)
                refine WL_x rfl (x_append sl_29 el_3 (lk8 rfl <| lk2 rfl <| lk1 rfl <| lk0) ho (lk0) (src_box (s := 1) 0 rfl rfl (by simp [Value.oneCell'])) (by omega) (by omega) (.s <| .s <| .z) .last fun v47 R48 ho49 => ?_)
                have ho2 := ho49.snoc (x := l[(qs[k]).2[t]]) rfl rfl
                refine WL_q rfl (q_assign (lk0)) ?_
                refine WL_nil ?_
                refine block_n (then_n ?_)
                refine WC_imp (fun _ _ h => h.drop (.cons _ <| .cons_cons _ <| .refl _)) ?_
                refine WC_reg fun ds => ?_
                refine WL_q rfl (q_move (lk16 rfl <| lk4 rfl <| lk1 rfl <| lk_in rfl hw13)) ?_
                refine WL_q rfl (q_add (lk0) lk_const rfl (by omega) (by omega)) ?_
                refine WL_q rfl (q_assign (lk0)) ?_
                refine WL_nil ?_
                refine then_n ⟨_, m3 - 1, Off.eq (ou16 rfl <| ou8 rfl <| off_over), by omega, ?_⟩
                exact ⟨t + 1, by omega, (lk0), _, _, (lk2 rfl <| lk1 rfl <| lk0), by rw [picked_take ht htl]; exact ho2, rfl⟩
               ·
                refine WC_seq ?_
                refine WC_seq ?_
                refine WC_reg fun ds => ?_
                refine WL_q rfl (q_move (lk_in rfl hw13)) ?_
                refine WL_q rfl (q_move (lk1 rfl <| lk_off rfl <| lk16 rfl <| lk_off rfl <| lk1 rfl <| lk0)) ?_
                refine WL_q rfl (q_move (lk2 rfl <| lk_off rfl <| lk16 rfl <| lk_in rfl ht11)) ?_
                refine WL_q rfl (q_index  sl_126 (lk1 rfl <| lk0) hqs.plain (lk0) rfl hk) ?_
                refine WL_q rfl (q_load1 one_29 (lk0) (hqs.cell1 hk rfl)) ?_
                refine WL_q rfl (q_lenP sl_29 (lk0) hqn.plain) ?_
                refine WL_q rfl (q_lss (lk4 rfl <| lk1 rfl <| lk0) (lk0)) ?_
                refine WL_nil ?_
                refine then_n ?_
                refine WC_if_false (lk0) (by first | rfl | exact decide_eq_false (by omega)) ?_
                have htk : (qs[k]).2.take t = (qs[k]).2 := List.take_of_length_le (by omega)
                rw [htk] at ho
                have hpk : (picked l (qs[k]).2).length = (qs[k]).2.length := by unfold picked; simp
                refine WC_freezeR (σ := ⟨_, _⟩) (by rfl) ho (.s <| .z) .last fun F50 hF51 hz52 => ?_
                replace hr := hr.mono hF51
                replace hl := hl.mono hF51
                replace hqs := hqs.mono hF51
                replace hqa := hqa.mono hF51
                replace hqn := hqn.mono hF51
                replace hwo := hwo.mono hF51
                have hn2 := ho.sl (fun _ => rfl) hz52 (by omega)
                refine WC_exit ?_
                refine then_x (then_x (exit_here ?_))
                refine then_n ?_
                refine WC_seq ?_
                refine WC_reg fun ds => ?_
                refine WL_q rfl (q_move (lk4 rfl <| lk2 rfl <| lk1 rfl <| lk_in rfl hw12)) ?_
                refine WL_q rfl (q_assign (lk0)) ?_
                refine WL_q rfl (q_assign lk_const) ?_
                refine WL_nil ?_
                refine then_n ?_
                refine WC_ret ?_
                refine block_r (then_r (then_r (block_r (block_r (then_r (then_r (block_r (then_r ?_))))))))
                refine post_ret rfl (.tmp (lk1 rfl <| lk0) (.tmp (lk0) .nil)) ?_
                rw [rgives_ok h0 hin hqm ⟨hc1, hc2⟩, give_found hlt (by omega) hnof hno2 (by rw [← hqk]; exact hcc), ← hqk]
                exact ⟨_, rfl, hn2⟩
             ·
              refine WXop_x rfl rfl (x_call bd_45 lk_func (.cons (lk4 rfl <| lk1 rfl <| lk0) (.cons (lk1 rfl <| lk0) (.cons (lk0) .nil))) (refWithout_ok hl hqn (by omega) q) fun v53 F54 hr55 hF56 => ⟨(fun h => nomatch h), ?_⟩)
              replace hr := hr.mono hF56
              replace hl := hl.mono hF56
              replace hqs := hqs.mono hF56
              replace hqa := hqa.mono hF56
              replace hqn := hqn.mono hF56
              have hwo := hr55
              refine WX_x 0 rfl (by kernel_rfl) rfl (x_quiet (q_loadN agg_27 (lk8 rfl <| lk2 rfl <| lk1 rfl <| lk_off rfl <| lk8 rfl <| lk2 rfl <| lk_off rfl <| lk32 rfl <| lk8 rfl <| lk4 rfl <| lk0) rfl rfl (own_whole 0 rfl)).quiet ⟨(fun _ => late (by kernel_rfl)), ?_⟩)
              refine WX_x 8 rfl (by kernel_rfl) rfl (x_call bd_61 lk_func (.cons (lk0) (.cons (lk1 rfl <| lk0) .nil)) (refAll_ok hr hv hwo him (by omega)) fun v57 F58 hr59 hF60 => ⟨(fun h => nomatch h), ?_⟩)
              replace hr := hr.mono hF60
              replace hl := hl.mono hF60
              replace hqs := hqs.mono hF60
              replace hqa := hqa.mono hF60
              replace hqn := hqn.mono hF60
              replace hwo := hwo.mono hF60
              obtain ⟨is3, ws3, n3, rfl, hA3⟩ := hr59
              refine WX_x 9 rfl (by kernel_rfl) rfl (x_quiet (q_field1 pt_105_0 one_4 (lk0) rfl).quiet ⟨(fun h => nomatch h), ?_⟩)
              refine WX_done (by kernel_rfl) ?_ _
              refine then_n ?_
              refine WC_if_true (lk0) (by rw [hA3.is_]; exact hcc) ?_
              refine WC_seq ?_
              refine WC_reg fun ds => ?_
              refine WL_q rfl (q_assign lk_const) ?_
              refine WL_nil ?_
              refine then_n ?_
              refine WC_seq ?_
              refine WC_seq ?_
              refine WC_reg fun ds => ?_
              refine WL_q rfl (q_assign lk_const) ?_
              refine WL_nil ?_
              refine then_n ?_
              refine WC_block ?_
              refine WC_loopN [12, 13, 81, 82, 83, 84, 85, 86, 87, 88, 89, 90, 91, 92, 93, 94, 95, 96, 97, 98, 99, 100, 101, 102] (fun m e σ => ∃ t : Nat, m + t = (qs[k]).2.length ∧ e 13 = .int .i64 t ∧ ∃ v12 R12, e 12 = v12 ∧ Own 3 1 v12 (picked l ((qs[k]).2.take t)).length ((picked l ((qs[k]).2.take t)).flatMap natE) R12 ∧ σ = ⟨F58, (b1, bx 27 [vb, vr, vs, vq]) :: R12⟩) ((qs[k]).2.length) ?_ ?_
              · exact ⟨0, by omega, (lk0), _, _, (lk1 rfl <| lk0), Own.nil, rfl⟩
              ·
               rintro m3 e3 _ ⟨t, hm3, hw13, v12, R12, hw12, ho, rfl⟩
               by_cases ht : t < (qs[k]).2.length
               ·
                refine WC_seq ?_
                refine WC_seq ?_
                refine WC_reg fun ds => ?_
                refine WL_q rfl (q_move (lk_in rfl hw13)) ?_
                refine WL_q rfl (q_move (lk1 rfl <| lk_off rfl <| lk16 rfl <| lk_off rfl <| lk1 rfl <| lk0)) ?_
                refine WL_q rfl (q_move (lk2 rfl <| lk_off rfl <| lk16 rfl <| lk_in rfl ht11)) ?_
                refine WL_q rfl (q_index  sl_126 (lk1 rfl <| lk0) hqs.plain (lk0) rfl hk) ?_
                refine WL_q rfl (q_load1 one_29 (lk0) (hqs.cell1 hk rfl)) ?_
                refine WL_q rfl (q_lenP sl_29 (lk0) hqn.plain) ?_
                refine WL_q rfl (q_lss (lk4 rfl <| lk1 rfl <| lk0) (lk0)) ?_
                refine WL_nil ?_
                refine then_n ?_
                refine WC_if_true (lk0) (by first | rfl | exact decide_eq_true (by omega)) ?_
                have htl := (hpm.2 _ (List.getElem_mem ht)).2
                have hpk : (picked l ((qs[k]).2.take t)).length ≤ (qs[k]).2.length := by unfold picked; simp; omega
                refine WC_skip ?_
                refine then_n ?_
                refine WC_seq ?_
                refine WC_block ?_
                refine WC_reg fun ds => ?_
                refine WL_q rfl (q_move (lk4 rfl <| lk2 rfl <| lk1 rfl <| lk_in rfl hw12)) ?_
                refine WL_q rfl (q_move (lk8 rfl <| lk_off rfl <| lk16 rfl <| lk_off rfl <| lk8 rfl <| lk2 rfl <| lk_off rfl <| lk32 rfl <| lk8 rfl <| lk4 rfl <| lk1 rfl <| lk_entry rfl)) ?_
                refine WL_q rfl (q_move (lk8 rfl <| lk1 rfl <| lk_off rfl <| lk16 rfl <| lk_off rfl <| lk1 rfl <| lk0)) ?_
                refine WL_q rfl (q_move (lk8 rfl <| lk2 rfl <| lk_off rfl <| lk16 rfl <| lk_in rfl ht11)) ?_
                refine WL_q rfl (q_index  sl_126 (lk1 rfl <| lk0) hqs.plain (lk0) rfl hk) ?_
                refine WL_q rfl (q_load1 one_29 (lk0) (hqs.cell1 hk rfl)) ?_
                refine WL_q rfl (q_move (lk8 rfl <| lk4 rfl <| lk1 rfl <| lk_in rfl hw13)) ?_
                refine WL_q rfl (q_index  sl_29 (lk1 rfl <| lk0) hqn.plain (lk0) rfl ht) ?_
                refine WL_q rfl (q_load1 one_3 (lk0) (hqn.cell1 ht rfl)) ?_
                refine WL_q rfl (q_index  sl_29 (lk4 rfl <| lk2 rfl <| lk1 rfl <| lk0) hl.plain (lk0) rfl htl) ?_
                refine WL_q rfl (q_load1 one_3 (lk0) (hl.cell1 htl rfl)) ?_
                refine WL_x rfl (x_build sl_29 zr_3 rfl (.cons (lk0) .nil) rfl rfl (by decide) (by simp [Value.oneCell']) fun b62 hb62 nb62 => ?_)
                refine WL_x rfl (x_append sl_29 el_3 (lk8 rfl <| lk2 rfl <| lk1 rfl <| lk0) ho (lk0) (src_box (s := 1) 0 rfl rfl (by simp [Value.oneCell'])) (by omega) (by omega) (.s <| .s <| .z) .last fun v63 R64 ho65 => ?_)
                have ho2 := ho65.snoc (x := l[(qs[k]).2[t]]) rfl rfl
                refine WL_q rfl (q_assign (lk0)) ?_
                refine WL_nil ?_
                refine block_n (then_n ?_)
                refine WC_imp (fun _ _ h => h.drop (.cons _ <| .cons_cons _ <| .refl _)) ?_
                refine WC_reg fun ds => ?_
                refine WL_q rfl (q_move (lk16 rfl <| lk4 rfl <| lk1 rfl <| lk_in rfl hw13)) ?_
                refine WL_q rfl (q_add (lk0) lk_const rfl (by omega) (by omega)) ?_
                refine WL_q rfl (q_assign (lk0)) ?_
                refine WL_nil ?_
                refine then_n ⟨_, m3 - 1, Off.eq (ou16 rfl <| ou8 rfl <| off_over), by omega, ?_⟩
                exact ⟨t + 1, by omega, (lk0), _, _, (lk2 rfl <| lk1 rfl <| lk0), by rw [picked_take ht htl]; exact ho2, rfl⟩
               ·
                refine WC_seq ?_
                refine WC_seq ?_
                refine WC_reg fun ds => ?_
                refine WL_q rfl (q_move (lk_in rfl hw13)) ?_
                refine WL_q rfl (q_move (lk1 rfl <| lk_off rfl <| lk16 rfl <| lk_off rfl <| lk1 rfl <| lk0)) ?_
                refine WL_q rfl (q_move (lk2 rfl <| lk_off rfl <| lk16 rfl <| lk_in rfl ht11)) ?_
                refine WL_q rfl (q_index  sl_126 (lk1 rfl <| lk0) hqs.plain (lk0) rfl hk) ?_
                refine WL_q rfl (q_load1 one_29 (lk0) (hqs.cell1 hk rfl)) ?_
                refine WL_q rfl (q_lenP sl_29 (lk0) hqn.plain) ?_
                refine WL_q rfl (q_lss (lk4 rfl <| lk1 rfl <| lk0) (lk0)) ?_
                refine WL_nil ?_
                refine then_n ?_
                refine WC_if_false (lk0) (by first | rfl | exact decide_eq_false (by omega)) ?_
                have htk : (qs[k]).2.take t = (qs[k]).2 := List.take_of_length_le (by omega)
                rw [htk] at ho
                have hpk : (picked l (qs[k]).2).length = (qs[k]).2.length := by unfold picked; simp
                refine WC_freezeR (σ := ⟨_, _⟩) (by rfl) ho (.s <| .z) .last fun F66 hF67 hz68 => ?_
                replace hr := hr.mono hF67
                replace hl := hl.mono hF67
                replace hqs := hqs.mono hF67
                replace hqa := hqa.mono hF67
                replace hqn := hqn.mono hF67
                replace hwo := hwo.mono hF67
                have hn2 := ho.sl (fun _ => rfl) hz68 (by omega)
                refine WC_exit ?_
                refine then_x (then_x (exit_here ?_))
                refine then_n ?_
                refine WC_seq ?_
                refine WC_reg fun ds => ?_
                refine WL_q rfl (q_move (lk4 rfl <| lk2 rfl <| lk1 rfl <| lk_in rfl hw12)) ?_
                refine WL_q rfl (q_assign (lk0)) ?_
                refine WL_q rfl (q_assign lk_const) ?_
                refine WL_nil ?_
                refine then_n ?_
                refine WC_ret ?_
                refine block_r (then_r (then_r (block_r (block_r (then_r (then_r (block_r (then_r ?_))))))))
                refine post_ret rfl (.tmp (lk1 rfl <| lk0) (.tmp (lk0) .nil)) ?_
                rw [rgives_ok h0 hin hqm ⟨hc1, hc2⟩, give_found hlt (by omega) hnof hno2 (by rw [← hqk]; exact hcc), ← hqk]
                exact ⟨_, rfl, hn2⟩
           ·
            refine WC_skip ?_
            refine then_n ?_
            refine WC_seq ?_
            refine WC_block ?_
            refine WC_seq ?_
            refine WC_drawS (.inl rfl) (fun _ _ h => h) (.cons_cons _ <| .refl _) [7, 8, 9] (by kernel_rfl) fun ds => ?_
            refine WX_take 1 rfl (by kernel_rfl) (by kernel_rfl) (by kernel_rfl) (by kernel_rfl) rfl rfl (fun _ h => h.drop (.cons_cons _ <| .refl _)) (fun _ _ _ h => h) (q_move (lk4 rfl <| lk_off rfl <| lk8 rfl <| lk2 rfl <| lk_off rfl <| lk32 rfl <| lk8 rfl <| lk4 rfl <| lk1 rfl <| lk_entry rfl)) ?_
            refine WX_take 2 rfl (by kernel_rfl) (by kernel_rfl) (by kernel_rfl) (by kernel_rfl) rfl rfl (fun _ h => h.drop (.cons_cons _ <| .refl _)) (fun _ _ _ h => h) (q_move (lk4 rfl <| lk1 rfl <| lk_off rfl <| lk1 rfl <| lk0)) ?_
            refine WX_take 3 rfl (by kernel_rfl) (by kernel_rfl) (by kernel_rfl) (by kernel_rfl) rfl rfl (fun _ h => h.drop (.cons_cons _ <| .refl _)) (fun _ _ _ h => h) (q_move (lk4 rfl <| lk2 rfl <| lk_in rfl ht11)) ?_
            refine WX_take 4 rfl (by kernel_rfl) (by kernel_rfl) (by kernel_rfl) (by kernel_rfl) rfl rfl (fun _ h => h.drop (.cons_cons _ <| .refl _)) (fun _ _ _ h => h) (q_index  sl_126 (lk1 rfl <| lk0) hqs.plain (lk0) rfl hk) ?_
            refine WX_take 5 rfl (by kernel_rfl) (by kernel_rfl) (by kernel_rfl) (by kernel_rfl) rfl rfl (fun _ h => h.drop (.cons_cons _ <| .refl _)) (fun _ _ _ h => h) (q_load1 one_29 (lk0) (hqs.cell1 hk rfl)) ?_
            refine WX_pick [0, 6] (by kernel_rfl) (by decide) (in2 ?_ ?_)
            ·
             refine WXop_x rfl rfl (x_quiet (q_loadN agg_27 (lk8 rfl <| lk1 rfl <| lk_off rfl <| lk8 rfl <| lk2 rfl <| lk_off rfl <| lk32 rfl <| lk8 rfl <| lk4 rfl <| lk0) rfl rfl (own_whole 0 rfl)).quiet ⟨fun _ _ => (fun _ h => h.drop (.cons_cons _ <| .refl _)), ?_⟩)
             refine WX_x 6 rfl (by kernel_rfl) rfl (x_quiet (q_move (lk8 rfl <| lk2 rfl <| lk_off rfl <| lk8 rfl <| lk2 rfl <| lk_off rfl <| lk32 rfl <| lk8 rfl <| lk4 rfl <| lk1 rfl <| lk_entry rfl)).quiet ⟨fun _ _ => (fun _ h => h.drop (.cons_cons _ <| .refl _)), ?_⟩)
             refine WX_x 7 rfl (by kernel_rfl) rfl (x_call bd_45 lk_func (.cons (lk4 rfl <| lk2 rfl <| lk0) (.cons (lk2 rfl <| lk0) (.cons (lk0) .nil))) (refWithout_ok hl hqn (by omega) q) fun v69 F70 hr71 hF72 => ⟨(fun h => nomatch h), ?_⟩)
             replace hr := hr.mono hF72
             replace hl := hl.mono hF72
             replace hqs := hqs.mono hF72
             replace hqa := hqa.mono hF72
             replace hqn := hqn.mono hF72
             have hwo := hr71
             refine WX_x 8 rfl (by kernel_rfl) rfl (x_call bd_61 lk_func (.cons (lk2 rfl <| lk0) (.cons (lk0) .nil)) (refAll_ok hr hv hwo him (by omega)) fun v73 F74 hr75 hF76 => ⟨(fun h => nomatch h), ?_⟩)
             replace hr := hr.mono hF76
             replace hl := hl.mono hF76
             replace hqs := hqs.mono hF76
             replace hqa := hqa.mono hF76
             replace hqn := hqn.mono hF76
             replace hwo := hwo.mono hF76
             obtain ⟨is3, ws3, n3, rfl, hA3⟩ := hr75
             refine WX_x 9 rfl (by kernel_rfl) rfl (x_quiet (q_field1 pt_105_0 one_4 (lk0) rfl).quiet ⟨(fun h => nomatch h), ?_⟩)
             refine WX_done (by kernel_rfl) ?_ _
             refine then_n ?_
             refine WC_if_false (lk0) (by rw [hA3.is_]; simpa [canB] using hcc) ?_
             refine WC_skip ?_
             refine block_n (then_n ?_)
             refine WC_reg fun ds => ?_
             refine WL_q rfl (q_move (lk8 rfl <| lk4 rfl <| lk2 rfl <| lk_in rfl ht11)) ?_
             refine WL_q rfl (q_add (lk0) lk_const rfl (by omega) (by omega)) ?_
             refine WL_q rfl (q_assign (lk0)) ?_
             refine WL_nil ?_
             refine then_n ⟨_, m2 - 1, Off.eq (ou16 rfl <| ou1 rfl <| off_over), by omega, ?_⟩
             refine ⟨_, hr, hl, hqs, hqa, k + 1, by omega, (lk0), rfl, fun p hp => ?_⟩
             rw [List.take_succ_eq_append_getElem (by omega), ← hqk] at hp
             rcases List.mem_append.1 hp with hp | hp
             · exact hno2 p hp
             · simp at hp; subst hp; simpa using hcc
            ·
             refine WXop_x rfl rfl (x_quiet (q_move (lk8 rfl <| lk1 rfl <| lk_off rfl <| lk8 rfl <| lk2 rfl <| lk_off rfl <| lk32 rfl <| lk8 rfl <| lk4 rfl <| lk1 rfl <| lk_entry rfl)).quiet ⟨fun _ _ => (fun _ h => h.drop (.cons_cons _ <| .refl _)), ?_⟩)
             refine WX_pick [0, 7] (by kernel_rfl) (by decide) (in2 ?_ ?_)
             ·
              refine WXop_x rfl rfl (x_quiet (q_loadN agg_27 (lk8 rfl <| lk2 rfl <| lk_off rfl <| lk8 rfl <| lk2 rfl <| lk_off rfl <| lk32 rfl <| lk8 rfl <| lk4 rfl <| lk0) rfl rfl (own_whole 0 rfl)).quiet ⟨fun _ _ => (fun _ h => h.drop (.cons_cons _ <| .refl _)), ?_⟩)
              refine WX_x 7 rfl (by kernel_rfl) rfl (x_call bd_45 lk_func (.cons (lk4 rfl <| lk2 rfl <| lk0) (.cons (lk2 rfl <| lk0) (.cons (lk1 rfl <| lk0) .nil))) (refWithout_ok hl hqn (by omega) q) fun v77 F78 hr79 hF80 => ⟨(fun h => nomatch h), ?_⟩)
              replace hr := hr.mono hF80
              replace hl := hl.mono hF80
              replace hqs := hqs.mono hF80
              replace hqa := hqa.mono hF80
              replace hqn := hqn.mono hF80
              have hwo := hr79
              refine WX_x 8 rfl (by kernel_rfl) rfl (x_call bd_61 lk_func (.cons (lk1 rfl <| lk0) (.cons (lk0) .nil)) (refAll_ok hr hv hwo him (by omega)) fun v81 F82 hr83 hF84 => ⟨(fun h => nomatch h), ?_⟩)
              replace hr := hr.mono hF84
              replace hl := hl.mono hF84
              replace hqs := hqs.mono hF84
              replace hqa := hqa.mono hF84
              replace hqn := hqn.mono hF84
              replace hwo := hwo.mono hF84
              obtain ⟨is3, ws3, n3, rfl, hA3⟩ := hr83
              refine WX_x 9 rfl (by kernel_rfl) rfl (x_quiet (q_field1 pt_105_0 one_4 (lk0) rfl).quiet ⟨(fun h => nomatch h), ?_⟩)
              refine WX_done (by kernel_rfl) ?_ _
              refine then_n ?_
              refine WC_if_false (lk0) (by rw [hA3.is_]; simpa [canB] using hcc) ?_
              refine WC_skip ?_
              refine block_n (then_n ?_)
              refine WC_reg fun ds => ?_
              refine WL_q rfl (q_move (lk8 rfl <| lk4 rfl <| lk2 rfl <| lk_in rfl ht11)) ?_
              refine WL_q rfl (q_add (lk0) lk_const rfl (by omega) (by omega)) ?_
              refine WL_q rfl (q_assign (lk0)) ?_
              refine WL_nil ?_
              refine then_n ⟨_, m2 - 1, Off.eq (ou16 rfl <| ou1 rfl <| off_over), by omega, ?_⟩
              refine ⟨_, hr, hl, hqs, hqa, k + 1, by omega, (lk0), rfl, fun p hp => ?_⟩
              rw [List.take_succ_eq_append_getElem (by omega), ← hqk] at hp
              rcases List.mem_append.1 hp with hp | hp
              · exact hno2 p hp
              · simp at hp; subst hp; simpa using hcc
             ·
              refine WXop_x rfl rfl (x_call bd_45 lk_func (.cons (lk4 rfl <| lk1 rfl <| lk0) (.cons (lk1 rfl <| lk0) (.cons (lk0) .nil))) (refWithout_ok hl hqn (by omega) q) fun v85 F86 hr87 hF88 => ⟨(fun h => nomatch h), ?_⟩)
              replace hr := hr.mono hF88
              replace hl := hl.mono hF88
              replace hqs := hqs.mono hF88
              replace hqa := hqa.mono hF88
              replace hqn := hqn.mono hF88
              have hwo := hr87
              refine WX_x 0 rfl (by kernel_rfl) rfl (x_quiet (q_loadN agg_27 (lk8 rfl <| lk2 rfl <| lk1 rfl <| lk_off rfl <| lk8 rfl <| lk2 rfl <| lk_off rfl <| lk32 rfl <| lk8 rfl <| lk4 rfl <| lk0) rfl rfl (own_whole 0 rfl)).quiet ⟨(fun _ => late (by kernel_rfl)), ?_⟩)
              refine WX_x 8 rfl (by kernel_rfl) rfl (x_call bd_61 lk_func (.cons (lk0) (.cons (lk1 rfl <| lk0) .nil)) (refAll_ok hr hv hwo him (by omega)) fun v89 F90 hr91 hF92 => ⟨(fun h => nomatch h), ?_⟩)
              replace hr := hr.mono hF92
              replace hl := hl.mono hF92
              replace hqs := hqs.mono hF92
              replace hqa := hqa.mono hF92
              replace hqn := hqn.mono hF92
              replace hwo := hwo.mono hF92
              obtain ⟨is3, ws3, n3, rfl, hA3⟩ := hr91
              refine WX_x 9 rfl (by kernel_rfl) rfl (x_quiet (q_field1 pt_105_0 one_4 (lk0) rfl).quiet ⟨(fun h => nomatch h), ?_⟩)
              refine WX_done (by kernel_rfl) ?_ _
              refine then_n ?_
              refine WC_if_false (lk0) (by rw [hA3.is_]; simpa [canB] using hcc) ?_
              refine WC_skip ?_
              refine block_n (then_n ?_)
              refine WC_reg fun ds => ?_
              refine WL_q rfl (q_move (lk8 rfl <| lk4 rfl <| lk2 rfl <| lk_in rfl ht11)) ?_
              refine WL_q rfl (q_add (lk0) lk_const rfl (by omega) (by omega)) ?_
              refine WL_q rfl (q_assign (lk0)) ?_
              refine WL_nil ?_
              refine then_n ⟨_, m2 - 1, Off.eq (ou16 rfl <| ou1 rfl <| off_over), by omega, ?_⟩
              refine ⟨_, hr, hl, hqs, hqa, k + 1, by omega, (lk0), rfl, fun p hp => ?_⟩
              rw [List.take_succ_eq_append_getElem (by omega), ← hqk] at hp
              rcases List.mem_append.1 hp with hp | hp
              · exact hno2 p hp
              · simp at hp; subst hp; simpa using hcc
          ·
           refine WC_seq ?_
           refine WC_seq ?_
           refine WC_reg fun ds => ?_
           refine WL_q rfl (q_move (lk_in rfl ht11)) ?_
           refine WL_q rfl (q_move (lk1 rfl <| lk_off rfl <| lk1 rfl <| lk0)) ?_
           refine WL_q rfl (q_lenP sl_126 (lk0) hqs.plain) ?_
           refine WL_q rfl (q_lss (lk2 rfl <| lk0) (lk0)) ?_
           refine WL_nil ?_
           refine then_n ?_
           refine WC_if_false (lk0) (by first | rfl | exact decide_eq_false (by omega)) ?_
           have hqq : qs.length = (listsR n 0 l.length).length := by have := congrArg List.length hqv; simpa using this
           obtain rfl : k = qs.length := by omega
           refine WC_exit ?_
           refine then_x (then_x (exit_here ?_))
           refine block_n (then_n ?_)
           refine WC_reg fun ds => ?_
           refine WL_q rfl (q_move (lk4 rfl <| lk_off rfl <| lk8 rfl <| lk2 rfl <| lk_in rfl hs9)) ?_
           refine WL_q rfl (q_add (lk0) lk_const rfl (by omega) (by omega)) ?_
           refine WL_q rfl (q_assign (lk0)) ?_
           refine WL_nil ?_
           refine then_n ⟨_, m - 1, Off.eq (ou4 rfl <| ou2 rfl <| ou1 rfl <| off_in rfl <| ou8 rfl <| ou2 rfl <| off_over), by omega, ?_⟩
           refine ⟨_, hr, hl, n + 1, by omega, (lk0), rfl, fun p hp => ?_⟩
           rw [candsTo_succ] at hp
           rcases List.mem_append.1 hp with hp | hp
           · exact hnof p hp
           · exact hno2 p (by rw [List.take_of_length_le (by omega)]; exact hp)
        ·
         refine WC_seq ?_
         refine WC_seq ?_
         refine WC_reg fun ds => ?_
         refine WL_q rfl (q_move (lk_in rfl hs9)) ?_
         refine WL_q rfl (q_move (lk1 rfl <| lk_off rfl <| lk32 rfl <| lk8 rfl <| lk4 rfl <| lk1 rfl <| lk_entry rfl)) ?_
         refine WL_q rfl (q_lenP sl_29 (lk0) hl.plain) ?_
         refine WL_q rfl (q_lss (lk2 rfl <| lk0) (lk0)) ?_
         refine WL_nil ?_
         refine then_n ?_
         refine WC_if_false (lk0) (by first | rfl | exact decide_eq_false (by omega)) ?_
         obtain rfl : n = l.length := by omega
         refine WC_exit ?_
         refine then_x (then_x (exit_here ?_))
         refine then_n ?_
         refine WC_seq ?_
         refine WC_reg fun ds => ?_
         refine WL_x rfl (x_build sl_29 zr_3 rfl .nil rfl rfl (by decide) (by simp [Value.oneCell']) fun b93 hb93 nb93 => ?_)
         refine WL_q rfl (q_move (lk4 rfl <| lk1 rfl <| lk_off rfl <| lk32 rfl <| lk8 rfl <| lk4 rfl <| lk1 rfl <| lk_entry rfl)) ?_
         refine WL_x rfl (x_append sl_29 el_3 (lk1 rfl <| lk0) (own_box rfl) (lk0) (hl.src (fun _ => rfl) natE_one) (by omega) (by omega) (.z) .box fun v94 R95 ho96 => ?_)
         have ho9 : Own 3 1 v94 l.length (l.flatMap natE) R95 := by simpa using ho96
         refine WL_q rfl (q_assign (lk0)) ?_
         refine WL_freezeR (σ := ⟨_, _⟩) (by rfl) ho9 (.z) .more fun F97 hF98 hz99 => ?_
         replace hr := hr.mono hF98
         replace hl := hl.mono hF98
         have hn9 := ho9.sl (fun _ => rfl) hz99 (by omega)
         refine WL_q rfl (q_assign lk_const) ?_
         refine WL_nil ?_
         refine then_n ?_
         refine WC_ret ?_
         refine post_ret rfl (.tmp (lk1 rfl <| lk0) (.tmp (lk0) .nil)) ?_
         rw [rgives_ok h0 hin hqm ⟨hc1, hc2⟩, give_none hnof]
         exact ⟨_, rfl, hn9⟩
      ·
       refine WC_if_true (lk0) (by rw [hA2.is_, show (allR r [q]).isSome = false by simpa [canB] using hc2]; rfl) ?_
       refine WC_reg fun ds => ?_
       refine WL_q rfl (q_assign lk_const) ?_
       refine WL_nil ?_
       refine then_n ?_
       refine WC_seq ?_
       refine WC_seq ?_
       refine WC_reg fun ds => ?_
       refine WL_q rfl (q_move (lk0)) ?_
       refine WL_q rfl (q_neq (lk0) lk_const) ?_
       refine WL_nil ?_
       refine then_n ?_
       refine WC_if_true (lk0) (by first | rfl | decide) ?_
       refine WC_seq ?_
       refine WC_reg fun ds => ?_
       refine WL_q rfl (q_move (lk2 rfl <| lk0)) ?_
       refine WL_q rfl (q_assign lk_const) ?_
       refine WL_q rfl (q_assign (lk1 rfl <| lk0)) ?_
       refine WL_nil ?_
       refine then_n ?_
       refine WC_ret ?_
       refine then_r ?_
       refine post_ret rfl (.tmp (lk1 rfl <| lk0) (.tmp (lk0) .nil)) ?_
       rw [rgives_down h0 hin hqm (fun h => hc2 h.2)]
       exact ⟨_, rfl, Sl.nil⟩
     ·
      refine WL_pass rfl rfl (lk0) (.inl (congrArg Value.bool (by first | (rw [hA1.is_, show (allR r l).isSome = false by simpa [canB] using hc1]; done) | (rw [hA1.is_, show (allR r l).isSome = false by simpa [canB] using hc1]; rfl)))) rfl ?_
      refine WL_pass rfl rfl (lk1 rfl <| lk0) (.inl (congrArg Value.bool (by first | (rw [hA1.is_, show (allR r l).isSome = false by simpa [canB] using hc1]; done) | (rw [hA1.is_, show (allR r l).isSome = false by simpa [canB] using hc1]; rfl)))) rfl ?_
      refine WL_pass rfl rfl (lk2 rfl <| lk0) (.inl (congrArg Value.bool (by first | (rw [hA1.is_, show (allR r l).isSome = false by simpa [canB] using hc1]; done) | (rw [hA1.is_, show (allR r l).isSome = false by simpa [canB] using hc1]; rfl)))) rfl ?_
      refine WL_pass rfl rfl (lk2 rfl <| lk1 rfl <| lk0) (.inl (congrArg Value.bool (by first | (rw [hA1.is_, show (allR r l).isSome = false by simpa [canB] using hc1]; done) | (rw [hA1.is_, show (allR r l).isSome = false by simpa [canB] using hc1]; rfl)))) rfl ?_
      refine WL_pass rfl rfl (lk4 rfl <| lk0) (.inl (congrArg Value.bool (by first | (rw [hA1.is_, show (allR r l).isSome = false by simpa [canB] using hc1]; done) | (rw [hA1.is_, show (allR r l).isSome = false by simpa [canB] using hc1]; rfl)))) rfl ?_
      refine WL_pass rfl rfl (lk4 rfl <| lk1 rfl <| lk0) (.inl (congrArg Value.bool (by first | (rw [hA1.is_, show (allR r l).isSome = false by simpa [canB] using hc1]; done) | (rw [hA1.is_, show (allR r l).isSome = false by simpa [canB] using hc1]; rfl)))) rfl ?_
      refine WL_want rfl rfl (lk8 rfl <| lk4 rfl <| lk0) (by rw [h0]; rfl) ?_
      refine WL_q rfl (q_pick_true (lk4 rfl <| lk2 rfl <| lk0) (by first | (rw [hA1.is_, show (allR r l).isSome = false by simpa [canB] using hc1]; done) | (rw [hA1.is_, show (allR r l).isSome = false by simpa [canB] using hc1]; rfl)) lk_const) ?_
      refine WL_q rfl (q_pick_true (lk8 rfl <| lk4 rfl <| lk1 rfl <| lk0) (by rw [h0]; rfl) (lk0)) ?_
      refine WL_nil ?_
      refine then_n ?_
      refine WC_if_true (lk0) (by first | rfl | (rw [hA1.is_, show (allR r l).isSome = false by simpa [canB] using hc1]; rfl)) ?_
      refine WC_reg fun ds => ?_
      refine WL_q rfl (q_assign lk_const) ?_
      refine WL_nil ?_
      refine then_n ?_
      refine WC_seq ?_
      refine WC_seq ?_
      refine WC_reg fun ds => ?_
      refine WL_q rfl (q_move (lk0)) ?_
      refine WL_q rfl (q_neq (lk0) lk_const) ?_
      refine WL_nil ?_
      refine then_n ?_
      refine WC_if_true (lk0) (by first | rfl | decide) ?_
      refine WC_seq ?_
      refine WC_reg fun ds => ?_
      refine WL_q rfl (q_move (lk2 rfl <| lk0)) ?_
      refine WL_q rfl (q_assign lk_const) ?_
      refine WL_q rfl (q_assign (lk1 rfl <| lk0)) ?_
      refine WL_nil ?_
      refine then_n ?_
      refine WC_ret ?_
      refine then_r ?_
      refine post_ret rfl (.tmp (lk1 rfl <| lk0) (.tmp (lk0) .nil)) ?_
      rw [rgives_down h0 hin hqm (fun h => hc1 h.1)]
      exact ⟨_, rfl, Sl.nil⟩
   ·
    replace hin : inB 0 (r.reqs.length - 1) x = false := by simpa using hin
    refine WC_if_true (lk0) (by simp [hin]) ?_
    refine WC_reg fun ds => ?_
    refine WL_q rfl (q_assign lk_const) ?_
    refine WL_nil ?_
    refine then_n ?_
    refine WC_seq ?_
    refine WC_seq ?_
    refine WC_reg fun ds => ?_
    refine WL_q rfl (q_move (lk0)) ?_
    refine WL_q rfl (q_eql (lk0) lk_const) ?_
    refine WL_q rfl (q_move (lk0)) ?_
    refine WL_pass rfl rfl (lk0) (.inl (congrArg Value.bool (by first | rfl | decide))) rfl ?_
    refine WL_pass rfl rfl (lk1 rfl <| lk0) (.inl (congrArg Value.bool (by first | rfl | decide))) rfl ?_
    refine WL_pass rfl rfl (lk2 rfl <| lk0) (.inl (congrArg Value.bool (by first | rfl | decide))) rfl ?_
    refine WL_q rfl (q_pick_false (lk2 rfl <| lk1 rfl <| lk0) (by first | rfl | decide) lk_const) ?_
    refine WL_nil ?_
    refine then_n ?_
    refine WC_if_false (lk0) (by first | rfl | decide) ?_
    refine WC_skip ?_
    refine then_n ?_
    refine WC_seq ?_
    refine WC_seq ?_
    refine WC_reg fun ds => ?_
    refine WL_q rfl (q_move (lk4 rfl <| lk2 rfl <| lk1 rfl <| lk0)) ?_
    refine WL_q rfl (q_eql (lk0) lk_const) ?_
    refine WL_q rfl (q_move (lk0)) ?_
    refine WL_pass rfl rfl (lk0) (.inl (congrArg Value.bool (by first | rfl | decide))) rfl ?_
    refine WL_pass rfl rfl (lk1 rfl <| lk0) (.inl (congrArg Value.bool (by first | rfl | decide))) rfl ?_
    refine WL_pass rfl rfl (lk2 rfl <| lk0) (.inl (congrArg Value.bool (by first | rfl | decide))) rfl ?_
    refine WL_pass rfl rfl (lk2 rfl <| lk1 rfl <| lk0) (.inl (congrArg Value.bool (by first | rfl | decide))) rfl ?_
    refine WL_pass rfl rfl (lk4 rfl <| lk0) (.inl (congrArg Value.bool (by first | rfl | decide))) rfl ?_
    refine WL_pass rfl rfl (lk4 rfl <| lk1 rfl <| lk0) (.inl (congrArg Value.bool (by first | rfl | decide))) rfl ?_
    refine WL_pass rfl rfl (lk0) (.inr rfl) rfl ?_
    refine WL_pass rfl rfl (lk1 rfl <| lk0) (.inr rfl) rfl ?_
    refine WL_pass rfl rfl (lk2 rfl <| lk0) (.inr rfl) rfl ?_
    refine WL_pass rfl rfl (lk2 rfl <| lk1 rfl <| lk0) (.inr rfl) rfl ?_
    refine WL_pass rfl rfl (lk4 rfl <| lk0) (.inr rfl) rfl ?_
    refine WL_pass rfl rfl (lk4 rfl <| lk1 rfl <| lk0) (.inr rfl) rfl ?_
    refine WL_pass rfl rfl (lk8 rfl <| lk4 rfl <| lk0) (.inl (congrArg Value.bool (by first | rfl | decide))) rfl ?_
    refine WL_q rfl (q_pick_false (lk8 rfl <| lk4 rfl <| lk1 rfl <| lk0) (by first | rfl | decide) lk_const) ?_
    refine WL_nil ?_
    refine then_n ?_
    refine WC_if_false (lk0) (by first | rfl | decide) ?_
    refine WC_skip ?_
    refine then_n ?_
    refine WC_seq ?_
    refine WC_seq ?_
    refine WC_reg fun ds => ?_
    refine WL_q rfl (q_move (lk16 rfl <| lk8 rfl <| lk0)) ?_
    refine WL_q rfl (q_neq (lk0) lk_const) ?_
    refine WL_nil ?_
    refine then_n ?_
    refine WC_if_true (lk0) (by first | rfl | decide) ?_
    refine WC_seq ?_
    refine WC_reg fun ds => ?_
    refine WL_q rfl (q_move (lk16 rfl <| lk8 rfl <| lk2 rfl <| lk0)) ?_
    refine WL_q rfl (q_assign lk_const) ?_
    refine WL_q rfl (q_assign (lk1 rfl <| lk0)) ?_
    refine WL_nil ?_
    refine then_n ?_
    refine WC_ret ?_
    refine then_r ?_
    refine post_ret rfl (.tmp (lk1 rfl <| lk0) (.tmp (lk0) .nil)) ?_
    rw [rgives_rng h0 hin]
    exact ⟨_, rfl, Sl.nil⟩
  ·
   refine WC_seq ?_
   refine WC_reg fun ds => ?_
   refine WL_x rfl (x_box (lk_entry rfl) rfl fun b100 hb100 nb100 => ?_)
   refine WL_q rfl (q_assign lk_const) ?_
   refine WL_q rfl (q_assign lk_const) ?_
   refine WL_nil ?_
   refine then_n ?_
   refine WC_seq ?_
   refine WC_reg fun ds => ?_
   refine WL_q rfl (q_loadN agg_27 (lk2 rfl <| lk0) rfl rfl (own_whole 0 rfl)) ?_
   refine WL_q rfl (q_move (lk4 rfl <| lk_entry rfl)) ?_
   refine WL_c rfl (q_call bd_43 lk_func (.cons (lk1 rfl <| lk0) (.cons (lk0) .nil)) (refSome_ok hr hx) (fun _ _ h => h)) ?_
   refine WL_q rfl (q_assign (lk0)) ?_
   refine WL_nil ?_
   refine then_n ?_
   refine WC_seq ?_
   refine WC_seq ?_
   refine WC_reg fun ds => ?_
   refine WL_q rfl (q_move (lk0)) ?_
   refine WL_q rfl (q_eql (lk0) lk_const) ?_
   refine WL_q rfl (q_move (lk0)) ?_
   refine WL_pass rfl rfl (lk0) (.inl (congrArg Value.bool (decide_eq_false h0))) rfl ?_
   refine WL_pass rfl rfl (lk1 rfl <| lk0) (.inl (congrArg Value.bool (decide_eq_false h0))) rfl ?_
   refine WL_pass rfl rfl (lk2 rfl <| lk0) (.inl (congrArg Value.bool (decide_eq_false h0))) rfl ?_
   refine WL_pass rfl rfl (lk2 rfl <| lk1 rfl <| lk0) (.inl (congrArg Value.bool (decide_eq_false h0))) rfl ?_
   refine WL_pass rfl rfl (lk4 rfl <| lk0) (.inl (congrArg Value.bool (decide_eq_false h0))) rfl ?_
   refine WL_pass rfl rfl (lk4 rfl <| lk1 rfl <| lk0) (.inl (congrArg Value.bool (decide_eq_false h0))) rfl ?_
   refine WL_pass rfl rfl (lk4 rfl <| lk2 rfl <| lk0) (.inl (congrArg Value.bool (decide_eq_false h0))) rfl ?_
   refine WL_q rfl (q_pick_false (lk4 rfl <| lk2 rfl <| lk1 rfl <| lk0) (decide_eq_false h0) lk_const) ?_
   refine WL_nil ?_
   refine then_n ?_
   refine WC_if_false (lk0) (by first | rfl | decide) ?_
   refine WC_skip ?_
   refine then_n ?_
   refine WC_seq ?_
   refine WC_seq ?_
   refine WC_reg fun ds => ?_
   refine WL_q rfl (q_move (lk8 rfl <| lk2 rfl <| lk1 rfl <| lk0)) ?_
   refine WL_q rfl (q_eql (lk0) lk_const) ?_
   refine WL_q rfl (q_move (lk0)) ?_
   refine WL_pass rfl rfl (lk0) (.inl (congrArg Value.bool (decide_eq_false h0))) rfl ?_
   refine WL_pass rfl rfl (lk1 rfl <| lk0) (.inl (congrArg Value.bool (decide_eq_false h0))) rfl ?_
   refine WL_pass rfl rfl (lk2 rfl <| lk0) (.inl (congrArg Value.bool (decide_eq_false h0))) rfl ?_
   refine WL_q rfl (q_pick_false (lk2 rfl <| lk1 rfl <| lk0) (decide_eq_false h0) lk_const) ?_
   refine WL_nil ?_
   refine then_n ?_
   refine WC_if_false (lk0) (by first | rfl | decide) ?_
   refine WC_skip ?_
   refine then_n ?_
   refine WC_seq ?_
   refine WC_seq ?_
   refine WC_reg fun ds => ?_
   refine WL_q rfl (q_move (lk16 rfl <| lk2 rfl <| lk0)) ?_
   refine WL_q rfl (q_eql (lk0) lk_const) ?_
   refine WL_q rfl (q_move (lk0)) ?_
   refine WL_pass rfl rfl (lk0) (.inl (congrArg Value.bool (decide_eq_false h0))) rfl ?_
   refine WL_pass rfl rfl (lk1 rfl <| lk0) (.inl (congrArg Value.bool (decide_eq_false h0))) rfl ?_
   refine WL_pass rfl rfl (lk2 rfl <| lk0) (.inl (congrArg Value.bool (decide_eq_false h0))) rfl ?_
   refine WL_pass rfl rfl (lk2 rfl <| lk1 rfl <| lk0) (.inl (congrArg Value.bool (decide_eq_false h0))) rfl ?_
   refine WL_pass rfl rfl (lk4 rfl <| lk0) (.inl (congrArg Value.bool (decide_eq_false h0))) rfl ?_
   refine WL_pass rfl rfl (lk4 rfl <| lk1 rfl <| lk0) (.inl (congrArg Value.bool (decide_eq_false h0))) rfl ?_
   refine WL_pass rfl rfl (lk0) (.inr rfl) rfl ?_
   refine WL_pass rfl rfl (lk1 rfl <| lk0) (.inr rfl) rfl ?_
   refine WL_pass rfl rfl (lk2 rfl <| lk0) (.inr rfl) rfl ?_
   refine WL_pass rfl rfl (lk2 rfl <| lk1 rfl <| lk0) (.inr rfl) rfl ?_
   refine WL_pass rfl rfl (lk4 rfl <| lk0) (.inr rfl) rfl ?_
   refine WL_pass rfl rfl (lk4 rfl <| lk1 rfl <| lk0) (.inr rfl) rfl ?_
   refine WL_pass rfl rfl (lk8 rfl <| lk4 rfl <| lk0) (.inl (congrArg Value.bool (decide_eq_false h0))) rfl ?_
   refine WL_q rfl (q_pick_false (lk8 rfl <| lk4 rfl <| lk1 rfl <| lk0) (decide_eq_false h0) lk_const) ?_
   refine WL_nil ?_
   refine then_n ?_
   refine WC_if_false (lk0) (by first | rfl | decide) ?_
   refine WC_skip ?_
   refine then_n ?_
   refine WC_seq ?_
   refine WC_seq ?_
   refine WC_reg fun ds => ?_
   refine WL_q rfl (q_move (lk32 rfl <| lk2 rfl <| lk1 rfl <| lk0)) ?_
   refine WL_q rfl (q_neq (lk0) lk_const) ?_
   refine WL_nil ?_
   refine then_n ?_
   refine WC_if_true (lk0) (decide_eq_true h0) ?_
   refine WC_seq ?_
   refine WC_reg fun ds => ?_
   refine WL_q rfl (q_move (lk32 rfl <| lk4 rfl <| lk1 rfl <| lk0)) ?_
   refine WL_q rfl (q_assign lk_const) ?_
   refine WL_q rfl (q_assign (lk1 rfl <| lk0)) ?_
   refine WL_nil ?_
   refine then_n ?_
   refine WC_ret ?_
   refine then_r ?_
   refine post_ret rfl (.tmp (lk1 rfl <| lk0) (.tmp (lk0) .nil)) ?_
   rw [rgives_bad h0]
   exact ⟨_, rfl, Sl.nil⟩
end Go.Proofs.Ytbcjfkcpfjccdaa
namespace Go.Proofs.Ytbcjfkcpfjccdaa
open Go.RowKit
def dstB (ops : Array Oper) (j : Nat) : Nat := match (ops[j]?).bind (·.dst) with | some d => d | none => 0
def depB (ops : Array Oper) (i j : Nat) : Bool := match ops[i]? with | some o => o.after.any fun x => Region.binds .any x && x.on == j | none => false
/-- All operations ahead of 'k' have places of their own, and wait for earlier ones only; what is behind them is at most one operation, that waits for all. -/
def factB (n : Nat) (ops : Array Oper) (k : Nat) : Bool :=
  (List.range k).all (fun i => match ops[i]? with
    | some o => (match o.dst with | some d => Nat.blt d n | none => false) && o.guard.isNone && o.after.all (fun x => !(Region.binds .any x) || Nat.blt x.on i) && (List.range i).all (fun j => !(Nat.beq (dstB ops j) (dstB ops i)))
    | none => false) &&
  (ops.size == k || (ops.size == k + 1 && (match ops[k]? with
    | some o => o.dst.isNone && o.guard.isNone && o.after.all (fun x => !(Region.binds .any x) || Nat.blt x.on k) && (List.range k).all (depB ops k)
    | none => false)))
def AllTo (H : Nat → Prop) : Nat → Prop
  | 0 => True
  | k + 1 => AllTo H k ∧ H k
theorem AllTo.get {H : Nat → Prop} : ∀ {k : Nat}, AllTo H k → ∀ i, i < k → H i
  | 0, _, i, h => absurd h (by omega)
  | k + 1, h, i, hi => by
    by_cases hk : i = k
    · subst hk; exact h.2
    · exact AllTo.get h.1 i (by omega)
section
variable {P : Program} {n : Nat} {B : Base} {e0 : Env} {σ : St}
/-- What operation 'i' does, told by facts. -/
def Hop (P : Program) (n : Nat) (B : Base) (ops : Array Oper) (k : Nat) (Φ : Nat → Heap → Value → Prop) (e0 : Env) (σ : St) (i : Nat) : Prop :=
  ∀ e F, σ.F.le F → (∀ t, (∀ j, j < k → t ≠ dstB ops j) → e t = e0 t) → (∀ j, depB ops i j = true → j < k → Φ j F (e (dstB ops j))) →
    ∃ d op ty pos af, ops[i]? = some ⟨some d, op, ty, pos, af, none⟩ ∧ OpX P n B ⟨some d, op, ty, pos, af, none⟩ e ⟨F, σ.H⟩ fun v σ' => ∃ F', σ' = ⟨F', σ.H⟩ ∧ F.le F' ∧ Φ i F' v
/-- What the operation behind all others does. -/
def Hend (P : Program) (n : Nat) (B : Base) (ops : Array Oper) (k : Nat) (Φ : Nat → Heap → Value → Prop) (e0 : Env) (σ : St) (Q : Exit → Env → St → Prop) : Prop :=
  ∀ e F, σ.F.le F → (∀ t, (∀ j, j < k → t ≠ dstB ops j) → e t = e0 t) → (∀ j, j < k → Φ j F (e (dstB ops j))) →
    (ops.size = k → Q .normal e ⟨F, σ.H⟩) ∧ (ops.size = k + 1 → ∃ op ty pos af, ops[k]? = some ⟨none, op, ty, pos, af, none⟩ ∧ OpX P n B ⟨none, op, ty, pos, af, none⟩ e ⟨F, σ.H⟩ fun _ σ' => Q .normal e σ')
/-- The same, by whether there is one. -/
def HendT (P : Program) (n : Nat) (B : Base) (ops : Array Oper) (k : Nat) (Φ : Nat → Heap → Value → Prop) (e0 : Env) (σ : St) (Q : Exit → Env → St → Prop) : Bool → Prop
  | false => ∀ e F, σ.F.le F → (∀ t, (∀ j, j < k → t ≠ dstB ops j) → e t = e0 t) → (∀ j, j < k → Φ j F (e (dstB ops j))) → Q .normal e ⟨F, σ.H⟩
  | true => ∀ e F, σ.F.le F → (∀ t, (∀ j, j < k → t ≠ dstB ops j) → e t = e0 t) → (∀ j, j < k → Φ j F (e (dstB ops j))) → ∃ op ty pos af, ops[k]? = some ⟨none, op, ty, pos, af, none⟩ ∧ OpX P n B ⟨none, op, ty, pos, af, none⟩ e ⟨F, σ.H⟩ fun _ σ' => Q .normal e σ'
theorem HendT.to {ops : Array Oper} {k : Nat} {Φ : Nat → Heap → Value → Prop} {Q : Exit → Env → St → Prop} {tail : Bool} (ht : Nat.beq ops.size (k + 1) = tail) (h : HendT P n B ops k Φ e0 σ Q tail) : Hend P n B ops k Φ e0 σ Q := by
  intro e F h1 h2 h3
  cases tail with
  | false => exact ⟨fun _ => h e F h1 h2 h3, fun hs => by rw [hs] at ht; simp at ht⟩
  | true => exact ⟨fun hs => by rw [hs] at ht; simp at ht, fun _ => h e F h1 h2 h3⟩
def freshB (ops : Array Oper) (k t : Nat) : Bool := (List.range k).all fun j => !(Nat.beq t (dstB ops j))
theorem he_of {ops : Array Oper} {k t : Nat} {e : Env} (he : ∀ t, (∀ j, j < k → t ≠ dstB ops j) → e t = e0 t) (h : freshB ops k t = true) : e t = e0 t :=
  he t fun j hj hh => by
    have := List.all_eq_true.1 h j (by simpa using hj)
    rw [← hh] at this
    simp at this
theorem lk_eq {e : Env} {t : Nat} {v : Value} (h : e t = v) : ev e (.tmp t) = v := h
theorem lk_old {e e0 : Env} {t : Nat} {v : Value} (h0 : e t = e0 t) (h : ev e0 (.tmp t) = v) : ev e (.tmp t) = v := h0.trans h
/-- A new block that is written no more. -/
theorem OpX_freeze {o : Oper} {e : Env} {K : Value → St → Prop} (h : OpX P n B o e σ fun v σ' => ∃ b ob, B.w0.heap.size ≤ b ∧ σ' = ⟨σ.F, (b, ob) :: σ.H⟩ ∧ ∀ F', σ.F.le F' → F' b = some ob → K v ⟨F', σ.H⟩) : OpX P n B o e σ K := by
  intro a w ha hw next Qx hnext
  refine h a w ha hw next Qx fun v σ' w' hK hw' => ?_
  obtain ⟨b, ob, hb, rfl, hK⟩ := hK
  have hn := (hw'.own (b, ob) (by simp)).2.1
  have hfz := hw'.freeze (i := 0) rfl hb
  exact hnext v _ w' (hK _ (grown_le hn) grown_here) hfz
theorem sl_box {α : Type} {F : Heap} {b T s m : Nat} {l : List Value} {enc : α → List Value} {xs : List α} (h : F b = some (bx T l)) (hl : l = xs.flatMap enc) (hm : xs.length = m) (hs : ∀ x, (enc x).length = s) (hlt : m < 281474976710656) : Sl F (.slice (some ⟨b, 0, none⟩) m m) s enc xs := by
  subst hl; subst hm
  exact Own.sl (E := T) (R := [(b, bx T (xs.flatMap enc))]) (own_box (flat_len hs xs)) hs (fun p hp => by simp at hp; subst hp; exact h) hlt
theorem depB_of {ops : Array Oper} {i : Nat} {o : Oper} (ho : ops[i]? = some o) {j : Nat} (h : depB ops i j = true) : ∃ x ∈ o.after, Region.binds .any x = true ∧ x.on = j := by
  unfold depB at h
  rw [ho] at h
  obtain ⟨x, hx, hb⟩ := Array.any_eq_true'.1 h
  simp only [Bool.and_eq_true, beq_iff_eq] at hb
  exact ⟨x, hx, hb.1, hb.2⟩
def undone (listed : Array Bool) : Nat := listed.toList.count false
theorem count_set : ∀ {l : List Bool} {i : Nat} (hi : i < l.length), l[i] = false → (l.set i true).count false + 1 = l.count false
  | [], i, hi, _ => by simp at hi
  | a :: l, 0, _, hv => by simp at hv; subst hv; simp
  | a :: l, i + 1, hi, hv => by
    have := count_set (l := l) (i := i) (by simpa using hi) (by simpa using hv)
    simp only [List.set_cons_succ, List.count_cons]
    omega
theorem undone_set {listed : Array Bool} {i : Nat} (h : listed.getD i true = false) : undone (listed.setIfInBounds i true) + 1 = undone listed := by
  have hi : i < listed.size := by
    rcases Nat.lt_or_ge i listed.size with h' | h'
    · exact h'
    · simp [Array.getD, Nat.not_lt.2 h'] at h
  have hv : listed.toList[i]'(by simpa using hi) = false := by simpa [Array.getD, hi] using h
  unfold undone
  rw [Array.toList_setIfInBounds]
  exact count_set (by simpa using hi) hv
theorem factB_op {ops : Array Oper} {k : Nat} (hB : factB n ops k = true) {i : Nat} (hi : i < k) : ∃ o d, ops[i]? = some o ∧ o.dst = some d ∧ d < n ∧ o.guard = none ∧ (∀ x ∈ o.after, Region.binds .any x = true → x.on < i) ∧ ∀ j, j < i → dstB ops j ≠ dstB ops i := by
  unfold factB at hB
  simp only [Bool.and_eq_true] at hB
  have h := List.all_eq_true.1 hB.1 i (by simpa using hi)
  split at h
  · rename_i o ho
    simp only [Bool.and_eq_true] at h
    obtain ⟨⟨⟨h1, h2⟩, h3⟩, h4⟩ := h
    split at h1
    · rename_i d hd
      refine ⟨o, d, ho, hd, by simpa using h1, by simpa using h2, fun x hx hb => ?_, fun j hj he => ?_⟩
      · have := Array.all_eq_true'.1 h3 x hx
        simpa [hb] using this
      · have := List.all_eq_true.1 h4 j (by simpa using hj)
        rw [he] at this
        simp at this
    · cases h1
  · cases h
theorem factB_end {ops : Array Oper} {k : Nat} (hB : factB n ops k = true) : ops.size = k ∨ (ops.size = k + 1 ∧ ∃ o, ops[k]? = some o ∧ o.dst = none ∧ o.guard = none ∧ (∀ x ∈ o.after, Region.binds .any x = true → x.on < k) ∧ ∀ j, j < k → depB ops k j = true) := by
  unfold factB at hB
  simp only [Bool.and_eq_true, Bool.or_eq_true, beq_iff_eq] at hB
  rcases hB.2 with h | ⟨h1, h2⟩
  · exact .inl h
  · refine .inr ⟨h1, ?_⟩
    split at h2
    · rename_i o ho
      simp only [Bool.and_eq_true] at h2
      obtain ⟨⟨⟨q1, q2⟩, q3⟩, q4⟩ := h2
      refine ⟨o, ho, by simpa using q1, by simpa using q2, fun x hx hb => ?_, fun j hj => ?_⟩
      · have := Array.all_eq_true'.1 q3 x hx
        simpa [hb] using this
      · exact List.all_eq_true.1 q4 j (by simpa using hj)
    · cases h2
theorem wpAny_facts {ops : Array Oper} {k : Nat} {Φ : Nat → Heap → Value → Prop} {Q : Exit → Env → St → Prop} (hB : factB n ops k = true) (hm : ∀ i F F' v, F.le F' → Φ i F v → Φ i F' v)
    (hops : AllTo (Hop P n B ops k Φ e0 σ) k) (hend : Hend P n B ops k Φ e0 σ Q) : ∀ (fuel : Nat) (listed : Array Bool) (a : Act) (w : World) (e : Env) (F : Heap), Fits n B a e → Holds B ⟨F, σ.H⟩ w → σ.F.le F →
      (∀ t, (∀ j, j < k → t ≠ dstB ops j) → e t = e0 t) → (∀ j, j < k → listed.getD j false = true → Φ j F (e (dstB ops j))) → listed.size = ops.size → listed.getD k false = false → undone listed = fuel →
      wpAny P .any ops (lift n B Q) fuel listed a w := by
  have hready : ∀ (listed : Array Bool), listed.size = ops.size → undone listed ≠ 0 → ∃ i, i ∈ Region.ready .any ops listed := by
    intro listed hsz hun
    have hex : ∃ i, i < listed.size ∧ listed.getD i false = false := by
      have : false ∈ listed.toList := by
        rw [← List.count_pos_iff]; unfold undone at hun; omega
      obtain ⟨i, hi, he⟩ := List.mem_iff_getElem.1 this
      exact ⟨i, by simpa using hi, by simp at hi; simp [Array.getD, hi]; simpa using he⟩
    obtain ⟨i, ⟨hi, hli⟩, hmin⟩ := least_exists hex
    refine ⟨i, mem_ready.2 ⟨by simp [Array.getD, hi] at hli ⊢; exact hli, ?_⟩⟩
    have hlt : ∀ j, j < i → listed.getD j false = true := fun j hj => by
      cases hc : listed.getD j false with
      | true => rfl
      | false => exact absurd (hmin j ⟨by omega, hc⟩) (by omega)
    by_cases hik : i < k
    · obtain ⟨o, d, h1, -, -, -, h5, -⟩ := factB_op hB hik
      exact ⟨o, h1, fun x hx hb => hlt _ (h5 x hx hb)⟩
    · rcases factB_end hB with h | ⟨h, o, h1, -, -, h4, -⟩
      · omega
      · have : i = k := by omega
        subst this
        exact ⟨o, h1, fun x hx hb => hlt _ (h4 x hx hb)⟩
  intro fuel
  induction fuel with
  | zero =>
    intro listed a w e F hf hw hF he hΦ hsz hk0 hun
    have hall : ∀ j, j < listed.size → listed.getD j false = true := fun j hj => by
      cases hc : listed.getD j false with
      | true => rfl
      | false =>
        have h1 : false ∈ listed.toList := List.mem_iff_getElem.2 ⟨j, by simpa using hj, by simp [Array.getD, hj] at hc; simpa using hc⟩
        rw [← List.count_pos_iff] at h1
        unfold undone at hun; omega
    have hsk : ops.size = k := by
      rcases factB_end hB with h | ⟨h, -⟩
      · exact h
      · have := hall k (by omega); rw [hk0] at this; cases this
    refine ⟨?_, B.ds, e, ⟨F, σ.H⟩, hf, hw, (hend e F hF he fun j hj => hΦ j hj (hall j (by omega))).1 hsk⟩
    cases hr : Region.ready .any ops listed with
    | nil => rfl
    | cons i l =>
      have : i ∈ Region.ready .any ops listed := by rw [hr]; simp
      obtain ⟨h1, o, ho, -⟩ := mem_ready.1 this
      have hi : i < listed.size := by rw [hsz]; exact (Array.getElem?_eq_some_iff.1 ho).1
      have h2 := hall i hi
      simp [Array.getD, hi] at h1 h2
      rw [h1] at h2; cases h2
  | succ fuel ih =>
    intro listed a w e F hf hw hF he hΦ hsz hk0 hun
    obtain ⟨i0, hi0⟩ := hready listed hsz (by omega)
    refine ⟨fun h => (by rw [h] at hi0; cases hi0), fun i hi => ?_⟩
    obtain ⟨h1, o, ho, hdeps⟩ := mem_ready.1 hi
    have hil : i < listed.size := by rw [hsz]; exact (Array.getElem?_eq_some_iff.1 ho).1
    have hun' := undone_set h1
    by_cases hik : i < k
    · obtain ⟨o', d', h2, h3, h4, h5, h6, h7⟩ := factB_op hB hik
      obtain ⟨d, op, ty, pos, af, q1, q2⟩ := hops.get i hik e F hF he fun j hj hjk => by
        obtain ⟨x, hx, hb, rfl⟩ := depB_of ho hj
        exact hΦ _ hjk (hdeps x hx hb)
      rw [q1] at ho
      cases ho
      rw [q1] at h2
      cases h2
      have hdd : dstB ops i = d := by unfold dstB; rw [q1]; rfl
      have hdn : d < n := by
        have : d = d' := by simpa using h3
        subst this; exact h4
      unfold wpOp
      simp only [q1]
      rw [if_pos (by simp [Region.wanted])]
      refine .inl (q2 a w hf hw _ _ fun v σ' w' hK hw' => ?_)
      obtain ⟨F', rfl, hle, hφ⟩ := hK
      refine ih (listed.setIfInBounds i true) _ w' (upd e d v) F' (hf.put hdn v) hw' (Heap.le_trans hF hle) (fun t ht => ?_) (fun j hj hlj => ?_) (by simpa using hsz) ?_ (by omega)
      · unfold upd
        rw [if_neg (fun h => ht i hik (by rw [h, hdd]))]
        exact he t ht
      · by_cases hji : j = i
        · subst hji
          rw [hdd]
          simp only [upd, if_true]
          exact hφ
        · have hne : dstB ops j ≠ d := by
            rw [← hdd]
            rcases Nat.lt_or_ge j i with h | h
            · exact h7 j h
            · obtain ⟨-, -, -, -, -, -, -, h8⟩ := factB_op hB hj
              exact (h8 i (by omega)).symm
          simp only [upd, if_neg hne]
          rw [getD_set_ne false (Ne.symm hji)] at hlj
          exact hm _ _ _ _ hle (hΦ j hj hlj)
      · rw [getD_set_ne false (by omega)]; exact hk0
    · rcases factB_end hB with h | ⟨h, o', q1, q2, q3, q4, q5⟩
      · omega
      · have hie : i = k := by omega
        subst hie
        rw [q1] at ho
        cases ho
        have hfull : ∀ j, j < i → listed.getD j false = true := fun j hj => by
          obtain ⟨x, hx, hb, rfl⟩ := depB_of q1 (q5 j hj)
          exact hdeps x hx hb
        obtain ⟨op, ty, pos, af, p1, p2⟩ := (hend e F hF he fun j hj => hΦ j hj (hfull j hj)).2 h
        rw [q1] at p1
        cases p1
        unfold wpOp
        simp only [q1]
        rw [if_pos (by simp [Region.wanted])]
        refine .inl (p2 a w hf hw _ _ fun v σ' w' hK hw' => ?_)
        have hz : fuel = 0 := by
          have hcnt : undone (listed.setIfInBounds i true) = 0 := by
            have hall : ∀ j, j < (listed.setIfInBounds i true).size → (listed.setIfInBounds i true).getD j false = true := fun j hj => by
              by_cases hji : j = i
              · subst hji; simp [Array.getD, hil]
              · rw [getD_set_ne false (Ne.symm hji)]
                exact hfull j (by simp at hj; omega)
            unfold undone
            rw [List.count_eq_zero]
            intro hmem
            obtain ⟨j, hj, hje⟩ := List.mem_iff_getElem.1 hmem
            have hj' : j < (listed.setIfInBounds i true).size := by simpa using hj
            have h9 := hall j hj'
            simp only [Array.getD, hj', dif_pos] at h9
            rw [Array.getElem_toList] at hje
            have h10 : (listed.setIfInBounds i true)[j]'hj' = true := h9
            rw [h10] at hje; cases hje
          omega
        subst hz
        refine ⟨?_, B.ds, e, σ', hf, hw', hK⟩
        cases hr : Region.ready .any ops (listed.setIfInBounds i true) with
        | nil => rfl
        | cons q l =>
          have hq : q ∈ Region.ready .any ops (listed.setIfInBounds i true) := by rw [hr]; simp
          obtain ⟨h1q, o, hoq, -⟩ := mem_ready.1 hq
          have hqs : q < listed.size := by rw [hsz]; exact (Array.getElem?_eq_some_iff.1 hoq).1
          by_cases hqi : q = i
          · subst hqi; simp [Array.getD, hil] at h1q
          · have h2 := hfull q (by omega)
            rw [getD_set_ne true (Ne.symm hqi)] at h1q
            simp [Array.getD, hqs] at h1q h2
            rw [h1q] at h2; cases h2
def AllMono : List (Heap → Value → Prop) → Prop
  | [] => True
  | p :: l => (∀ F F' v, F.le F' → p F v → p F' v) ∧ AllMono l
def phiOf : List (Heap → Value → Prop) → Nat → Heap → Value → Prop
  | [], _ => fun _ _ => True
  | p :: _, 0 => p
  | _ :: l, i + 1 => phiOf l i
theorem AllMono.phi : ∀ {l : List (Heap → Value → Prop)}, AllMono l → ∀ i F F' v, F.le F' → phiOf l i F v → phiOf l i F' v
  | [], _, _, _, _, _, _, h => h
  | _ :: _, h, 0, _, _, _, hF, hp => h.1 _ _ _ hF hp
  | _ :: _, h, i + 1, _, _, _, hF, hp => h.2.phi i _ _ _ hF hp
theorem WC_drawF {id : Nat} {l : List Oper} {Q : Exit → Env → St → Prop} (k : Nat) (hp : Plainly B.ro l) (hO : ∀ e σ, Q .outgrown e σ → False) (hm : P.follows .mixedOrders = true) (hB : factB n l.toArray k = true) (tail : Bool) (ht : Nat.beq l.toArray.size (k + 1) = tail)
    (φs : List (Heap → Value → Prop)) (hmono : AllMono φs)
    (hops : ∀ ds, AllTo (Hop P n (B.at ds) l.toArray k (phiOf φs) e0 σ) k) (hend : ∀ ds, HendT P n (B.at ds) l.toArray k (phiOf φs) e0 σ Q tail) : WC P n B (.region id l.toArray true) Q e0 σ := by
  intro ds a w ha hw
  refine wpIn_region_any hm (wpAny_in (lift_in hO) (by simpa using hp.mem) _ _ _ _ ?_)
  have := wpAny_facts (P := P) (e0 := e0) (σ := σ) (Q := Q) hB hmono.phi (hops ds) ((hend ds).to ht) l.toArray.size (Array.replicate l.toArray.size false) a _ e0 σ.F ha hw.drew (Heap.le_refl _) (fun _ _ => rfl) (fun j _ h => by simp [Array.getD] at h) (by simp) (by simp [Array.getD]) (by simp [undone, List.count_replicate])
  exact this
end
end Go.Proofs.Ytbcjfkcpfjccdaa
namespace Go.Proofs.Ytbcjfkcpfjccdaa
open Go.RowKit
theorem bd_46 : Body Try.prog 46 := body_of (by kernel_rfl)
theorem bd_79 : Body Try.prog 79 := body_of (by kernel_rfl)
theorem bt_27 : BuildT Try.prog 27 [.slice none 0 0, .slice none 0 0, .slice none 0 0, .slice none 0 0] [(0, 1), (1, 1), (2, 1), (3, 1)] := buildT_of zr_27 (by kernel_rfl) (by decide)
theorem bt_58 : BuildT Try.prog 58 [.int .i64 0, .int .i64 0, .int .i64 0, .int .i64 0] [(0, 1), (1, 1), (2, 1), (3, 1)] := buildT_of zr_58 (by kernel_rfl) (by decide)
theorem bt_62 : BuildT Try.prog 62 [.string ⟨#[]⟩, .int .i64 0, .int .i64 0, .int .i64 0, .bool false] [(0, 1), (1, 1), (2, 2), (4, 1)] := buildT_of zr_62 (by kernel_rfl) (by decide)
theorem bt_64 : BuildT Try.prog 64 [.string ⟨#[]⟩, .int .i64 0] [(0, 1), (1, 1)] := buildT_of zr_64 (by kernel_rfl) (by decide)
theorem bt_66 : BuildT Try.prog 66 [.int .i64 0, .bool false] [(0, 1), (1, 1)] := buildT_of zr_66 (by kernel_rfl) (by decide)
set_option maxRecDepth 100000 in
theorem span_ok {F : Heap} (a b : Int) : Ok Try.prog 46 [.int .i64 a, .int .i64 b].toArray F fun r _ => r = .agg #[.int .i64 a, .int .i64 b] := by
  refine Ok.intro Try.func46 rfl Try.ntmps46 rfl fun w0 => ?_
  refine WC_seq ?_
  refine WC_reg fun ds => ?_
  refine WL_x rfl (x_alloc zr_60 rfl fun b1 hb1 nb1 => ?_)
  refine WL_nil ?_
  refine then_n ?_
  refine WC_seq ?_
  refine WC_reg fun ds => ?_
  refine WL_q rfl (q_move (lk1 rfl <| lk_entry rfl)) ?_
  refine WL_q rfl (q_move (lk2 rfl <| lk_entry rfl)) ?_
  refine WL_q rfl (q_build bt_60 (.cons (lk1 rfl <| lk0) rfl (.cons (lk0) rfl .nil)) (.cons rfl rfl (Nat.le_of_ble_eq_true rfl) (.cons (.here) .nil) (.cons rfl rfl (Nat.le_of_ble_eq_true rfl) (.cons (.next <| .here) .nil) .nil))) ?_
  refine WL_x0 (x_storeA sz_60 (lk2 rfl <| lk1 rfl <| lk0) (lk0) (i := 0) rfl rfl rfl rfl (by simp [Value.oneCell']) (.here) ?_)
  refine WL_nil ?_
  refine then_n ?_
  refine WC_ret ?_
  refine post_ret rfl (.agg agg_60 (lk2 rfl <| lk1 rfl <| lk0) rfl rfl (own_whole 0 rfl) .nil) ?_
  rfl
set_option maxRecDepth 100000 in
theorem request_ok {F : Heap} (a b c d : Int) : Ok Try.prog 79 [.int .i64 a, .int .i64 b, .int .i64 c, .int .i64 d].toArray F fun r _ => r = .agg #[.int .i64 a, .int .i64 b, .int .i64 c, .int .i64 d] := by
  refine Ok.intro Try.func79 rfl Try.ntmps79 rfl fun w0 => ?_
  refine WC_seq ?_
  refine WC_reg fun ds => ?_
  refine WL_x rfl (x_alloc zr_58 rfl fun b1 hb1 nb1 => ?_)
  refine WL_nil ?_
  refine then_n ?_
  refine WC_seq ?_
  refine WC_reg fun ds => ?_
  refine WL_q rfl (q_move (lk1 rfl <| lk_entry rfl)) ?_
  refine WL_q rfl (q_move (lk2 rfl <| lk_entry rfl)) ?_
  refine WL_q rfl (q_move (lk2 rfl <| lk1 rfl <| lk_entry rfl)) ?_
  refine WL_q rfl (q_move (lk4 rfl <| lk_entry rfl)) ?_
  refine WL_q rfl (q_build bt_58 (.cons (lk2 rfl <| lk1 rfl <| lk0) rfl (.cons (lk2 rfl <| lk0) rfl (.cons (lk1 rfl <| lk0) rfl (.cons (lk0) rfl .nil)))) (.cons rfl rfl (Nat.le_of_ble_eq_true rfl) (.cons (.here) .nil) (.cons rfl rfl (Nat.le_of_ble_eq_true rfl) (.cons (.next <| .here) .nil) (.cons rfl rfl (Nat.le_of_ble_eq_true rfl) (.cons (.next <| .next <| .here) .nil) (.cons rfl rfl (Nat.le_of_ble_eq_true rfl) (.cons (.next <| .next <| .next <| .here) .nil) .nil))))) ?_
  refine WL_x0 (x_storeA sz_58 (lk4 rfl <| lk1 rfl <| lk0) (lk0) (i := 0) rfl rfl rfl rfl (by simp [Value.oneCell']) (.here) ?_)
  refine WL_nil ?_
  refine then_n ?_
  refine WC_ret ?_
  refine post_ret rfl (.agg agg_58 (lk4 rfl <| lk1 rfl <| lk0) rfl rfl (own_whole 0 rfl) .nil) ?_
  rfl
set_option maxRecDepth 100000 in
theorem room_ok {F : Heap} {n : Nat} (hn : n ≤ seats3.length) : Ok Try.prog 36 [.int .i64 (n : Int)].toArray F fun u F' => ∃ vb vr vs vq, u = .agg #[vb, vr, vs, vq] ∧ RoomR F' vb vr vs vq (roomX n) := by
  refine Ok.intro Try.func36 rfl Try.ntmps36 rfl fun w0 => ?_
  refine WC_seq ?_
  refine WC_reg fun ds => ?_
  refine WL_x rfl (x_alloc zr_27 rfl fun b1 hb1 nb1 => ?_)
  refine WL_nil ?_
  refine then_n ?_
  refine WC_seq ?_
  refine WC_drawF 23 (.inl rfl) (fun _ _ h => h) (by kernel_rfl) (by kernel_rfl) true rfl ([fun F v => v = .agg #[.int .i64 40, .int .i64 60], fun F v => v = .agg (Book.enc bkA).toArray, fun F v => v = .agg #[.int .i64 10, .int .i64 10], fun F v => v = .agg (Book.enc bkP).toArray, fun F v => v = .agg #[.int .i64 200, .int .i64 200], fun F v => v = .agg (Book.enc bkN).toArray, fun F v => Sl F v 5 Book.enc [bkA, bkP, bkN], fun F v => v = .agg (Rdr.enc rdA).toArray, fun F v => v = .agg (Rdr.enc rdB).toArray, fun F v => Sl F v 2 Rdr.enc [rdA, rdB], fun F v => v = .agg (Seat.enc ⟨10, false⟩).toArray, fun F v => v = .agg (Seat.enc ⟨4, true⟩).toArray, fun F v => v = .agg (Seat.enc ⟨5, false⟩).toArray, fun F v => Sl F v 2 Seat.enc seats3, fun F v => v = .int .i64 (n : Int), fun F v => Sl F v 2 Seat.enc (seats3.take n), fun F v => v = .agg #[.int .i64 0, .int .i64 0, .int .i64 6, .int .i64 20], fun F v => v = .agg #[.int .i64 1, .int .i64 1, .int .i64 2, .int .i64 30], fun F v => v = .agg #[.int .i64 0, .int .i64 2, .int .i64 8, .int .i64 10], fun F v => v = .agg #[.int .i64 0, .int .i64 1, .int .i64 1, .int .i64 50], fun F v => v = .agg #[.int .i64 1, .int .i64 0, .int .i64 4, .int .i64 15], fun F v => Sl F v 4 Req.enc reqs5, fun F v => ∃ vb vr vs vq, v = .agg #[vb, vr, vs, vq] ∧ RoomR F vb vr vs vq (roomX n)]) (⟨fun F F2 v hF h => h, fun F F2 v hF h => h, fun F F2 v hF h => h, fun F F2 v hF h => h, fun F F2 v hF h => h, fun F F2 v hF h => h, fun F F2 v hF h => h.mono hF, fun F F2 v hF h => h, fun F F2 v hF h => h, fun F F2 v hF h => h.mono hF, fun F F2 v hF h => h, fun F F2 v hF h => h, fun F F2 v hF h => h, fun F F2 v hF h => h.mono hF, fun F F2 v hF h => h, fun F F2 v hF h => h.mono hF, fun F F2 v hF h => h, fun F F2 v hF h => h, fun F F2 v hF h => h, fun F F2 v hF h => h, fun F F2 v hF h => h, fun F F2 v hF h => h.mono hF, fun F F2 v hF h => h.imp fun vb h => h.imp fun vr h => h.imp fun vs h => h.imp fun vq h => ⟨h.1, h.2.mono hF⟩, trivial⟩) (fun ds => ?_) (fun ds => ?_)
  ·
   refine ⟨⟨⟨⟨⟨⟨⟨⟨⟨⟨⟨⟨⟨⟨⟨⟨⟨⟨⟨⟨⟨⟨⟨trivial, ?_⟩, ?_⟩, ?_⟩, ?_⟩, ?_⟩, ?_⟩, ?_⟩, ?_⟩, ?_⟩, ?_⟩, ?_⟩, ?_⟩, ?_⟩, ?_⟩, ?_⟩, ?_⟩, ?_⟩, ?_⟩, ?_⟩, ?_⟩, ?_⟩, ?_⟩, ?_⟩
   ·
    intro e1 F1 hF1 he hj
    refine ⟨_, _, _, _, _, rfl, ?_⟩
    refine x_quiet (q_call bd_46 lk_func (.cons lk_const (.cons lk_const .nil)) (span_ok _ _) (fun _ _ h => h)) ⟨_, rfl, Heap.le_refl _, rfl⟩
   ·
    intro e1 F1 hF1 he hj
    have g3 : (e1 3) = .agg #[.int .i64 40, .int .i64 60] := hj 0 (by kernel_rfl) (by decide)
    refine ⟨_, _, _, _, _, rfl, ?_⟩
    refine x_quiet (q_build bt_62 (.cons lk_const rfl (.cons lk_const rfl (.cons (lk_eq g3) rfl (.cons lk_const rfl .nil)))) (.cons rfl rfl (Nat.le_of_ble_eq_true rfl) (.cons (.here) .nil) (.cons rfl rfl (Nat.le_of_ble_eq_true rfl) (.cons (.next <| .here) .nil) (.cons rfl rfl (Nat.le_of_ble_eq_true rfl) (.cons (.next <| .next <| .here) (.cons (.next <| .next <| .next <| .here) .nil)) (.cons rfl rfl (Nat.le_of_ble_eq_true rfl) (.cons (.next <| .next <| .next <| .next <| .here) .nil) .nil))))).quiet ⟨_, rfl, Heap.le_refl _, rfl⟩
   ·
    intro e1 F1 hF1 he hj
    have g3 : (e1 3) = .agg #[.int .i64 40, .int .i64 60] := hj 0 (by kernel_rfl) (by decide)
    refine ⟨_, _, _, _, _, rfl, ?_⟩
    refine x_quiet (q_call bd_46 lk_func (.cons lk_const (.cons lk_const .nil)) (span_ok _ _) (fun _ _ h => h)) ⟨_, rfl, Heap.le_refl _, rfl⟩
   ·
    intro e1 F1 hF1 he hj
    have g5 : (e1 5) = .agg #[.int .i64 10, .int .i64 10] := hj 2 (by kernel_rfl) (by decide)
    refine ⟨_, _, _, _, _, rfl, ?_⟩
    refine x_quiet (q_build bt_62 (.cons lk_const rfl (.cons lk_const rfl (.cons (lk_eq g5) rfl .nil))) (.cons rfl rfl (Nat.le_of_ble_eq_true rfl) (.cons (.here) .nil) (.cons rfl rfl (Nat.le_of_ble_eq_true rfl) (.cons (.next <| .here) .nil) (.cons rfl rfl (Nat.le_of_ble_eq_true rfl) (.cons (.next <| .next <| .here) (.cons (.next <| .next <| .next <| .here) .nil)) .nil)))).quiet ⟨_, rfl, Heap.le_refl _, rfl⟩
   ·
    intro e1 F1 hF1 he hj
    have g5 : (e1 5) = .agg #[.int .i64 10, .int .i64 10] := hj 2 (by kernel_rfl) (by decide)
    refine ⟨_, _, _, _, _, rfl, ?_⟩
    refine x_quiet (q_call bd_46 lk_func (.cons lk_const (.cons lk_const .nil)) (span_ok _ _) (fun _ _ h => h)) ⟨_, rfl, Heap.le_refl _, rfl⟩
   ·
    intro e1 F1 hF1 he hj
    have g7 : (e1 7) = .agg #[.int .i64 200, .int .i64 200] := hj 4 (by kernel_rfl) (by decide)
    refine ⟨_, _, _, _, _, rfl, ?_⟩
    refine x_quiet (q_build bt_62 (.cons lk_const rfl (.cons lk_const rfl (.cons (lk_eq g7) rfl .nil))) (.cons rfl rfl (Nat.le_of_ble_eq_true rfl) (.cons (.here) .nil) (.cons rfl rfl (Nat.le_of_ble_eq_true rfl) (.cons (.next <| .here) .nil) (.cons rfl rfl (Nat.le_of_ble_eq_true rfl) (.cons (.next <| .next <| .here) (.cons (.next <| .next <| .next <| .here) .nil)) .nil)))).quiet ⟨_, rfl, Heap.le_refl _, rfl⟩
   ·
    intro e1 F1 hF1 he hj
    have g4 : (e1 4) = .agg (Book.enc bkA).toArray := hj 1 (by kernel_rfl) (by decide)
    have g6 : (e1 6) = .agg (Book.enc bkP).toArray := hj 3 (by kernel_rfl) (by decide)
    have g8 : (e1 8) = .agg (Book.enc bkN).toArray := hj 5 (by kernel_rfl) (by decide)
    refine ⟨_, _, _, _, _, rfl, ?_⟩
    refine OpX_freeze (x_buildN (offs := [(0, 5), (5, 5), (10, 5)]) (zl := [.string ⟨#[]⟩, .int .i64 0, .int .i64 0, .int .i64 0, .bool false, .string ⟨#[]⟩, .int .i64 0, .int .i64 0, .int .i64 0, .bool false, .string ⟨#[]⟩, .int .i64 0, .int .i64 0, .int .i64 0, .bool false]) sl_22 zr_62 rfl (.cons (lk_eq g4) rfl (.cons (lk_eq g6) rfl (.cons (lk_eq g8) rfl .nil))) (by intro i p h; rcases i with _ | _ | _ | i <;> simp at h <;> subst h <;> rfl) (.cons rfl rfl (Nat.le_of_ble_eq_true rfl) (.cons (.here) (.cons (.next <| .here) (.cons (.next <| .next <| .here) (.cons (.next <| .next <| .next <| .here) (.cons (.next <| .next <| .next <| .next <| .here) .nil))))) (.cons rfl rfl (Nat.le_of_ble_eq_true rfl) (.cons (.next <| .next <| .next <| .next <| .next <| .here) (.cons (.next <| .next <| .next <| .next <| .next <| .next <| .here) (.cons (.next <| .next <| .next <| .next <| .next <| .next <| .next <| .here) (.cons (.next <| .next <| .next <| .next <| .next <| .next <| .next <| .next <| .here) (.cons (.next <| .next <| .next <| .next <| .next <| .next <| .next <| .next <| .next <| .here) .nil))))) (.cons rfl rfl (Nat.le_of_ble_eq_true rfl) (.cons (.next <| .next <| .next <| .next <| .next <| .next <| .next <| .next <| .next <| .next <| .here) (.cons (.next <| .next <| .next <| .next <| .next <| .next <| .next <| .next <| .next <| .next <| .next <| .here) (.cons (.next <| .next <| .next <| .next <| .next <| .next <| .next <| .next <| .next <| .next <| .next <| .next <| .here) (.cons (.next <| .next <| .next <| .next <| .next <| .next <| .next <| .next <| .next <| .next <| .next <| .next <| .next <| .here) (.cons (.next <| .next <| .next <| .next <| .next <| .next <| .next <| .next <| .next <| .next <| .next <| .next <| .next <| .next <| .here) .nil))))) .nil))) (by decide) (by decide) fun b hb nb => ⟨b, _, hb, rfl, fun F2 hF2 hz => ⟨F2, rfl, hF2, (sl_box (xs := [bkA, bkP, bkN]) hz rfl rfl (fun _ => rfl) (by decide))⟩⟩)
   ·
    intro e1 F1 hF1 he hj
    refine ⟨_, _, _, _, _, rfl, ?_⟩
    refine x_quiet (q_build bt_64 (.cons lk_const rfl (.cons lk_const rfl .nil)) (.cons rfl rfl (Nat.le_of_ble_eq_true rfl) (.cons (.here) .nil) (.cons rfl rfl (Nat.le_of_ble_eq_true rfl) (.cons (.next <| .here) .nil) .nil))).quiet ⟨_, rfl, Heap.le_refl _, rfl⟩
   ·
    intro e1 F1 hF1 he hj
    refine ⟨_, _, _, _, _, rfl, ?_⟩
    refine x_quiet (q_build bt_64 (.cons lk_const rfl (.cons lk_const rfl .nil)) (.cons rfl rfl (Nat.le_of_ble_eq_true rfl) (.cons (.here) .nil) (.cons rfl rfl (Nat.le_of_ble_eq_true rfl) (.cons (.next <| .here) .nil) .nil))).quiet ⟨_, rfl, Heap.le_refl _, rfl⟩
   ·
    intro e1 F1 hF1 he hj
    have g10 : (e1 10) = .agg (Rdr.enc rdA).toArray := hj 7 (by kernel_rfl) (by decide)
    have g11 : (e1 11) = .agg (Rdr.enc rdB).toArray := hj 8 (by kernel_rfl) (by decide)
    refine ⟨_, _, _, _, _, rfl, ?_⟩
    refine OpX_freeze (x_buildN (offs := [(0, 2), (2, 2)]) (zl := [.string ⟨#[]⟩, .int .i64 0, .string ⟨#[]⟩, .int .i64 0]) sl_23 zr_64 rfl (.cons (lk_eq g10) rfl (.cons (lk_eq g11) rfl .nil)) (by intro i p h; rcases i with _ | _ | i <;> simp at h <;> subst h <;> rfl) (.cons rfl rfl (Nat.le_of_ble_eq_true rfl) (.cons (.here) (.cons (.next <| .here) .nil)) (.cons rfl rfl (Nat.le_of_ble_eq_true rfl) (.cons (.next <| .next <| .here) (.cons (.next <| .next <| .next <| .here) .nil)) .nil)) (by decide) (by decide) fun b hb nb => ⟨b, _, hb, rfl, fun F2 hF2 hz => ⟨F2, rfl, hF2, (sl_box (xs := [rdA, rdB]) hz rfl rfl (fun _ => rfl) (by decide))⟩⟩)
   ·
    intro e1 F1 hF1 he hj
    refine ⟨_, _, _, _, _, rfl, ?_⟩
    refine x_quiet (q_build bt_66 (.cons lk_const rfl .nil) (.cons rfl rfl (Nat.le_of_ble_eq_true rfl) (.cons (.here) .nil) .nil)).quiet ⟨_, rfl, Heap.le_refl _, rfl⟩
   ·
    intro e1 F1 hF1 he hj
    refine ⟨_, _, _, _, _, rfl, ?_⟩
    refine x_quiet (q_build bt_66 (.cons lk_const rfl (.cons lk_const rfl .nil)) (.cons rfl rfl (Nat.le_of_ble_eq_true rfl) (.cons (.here) .nil) (.cons rfl rfl (Nat.le_of_ble_eq_true rfl) (.cons (.next <| .here) .nil) .nil))).quiet ⟨_, rfl, Heap.le_refl _, rfl⟩
   ·
    intro e1 F1 hF1 he hj
    refine ⟨_, _, _, _, _, rfl, ?_⟩
    refine x_quiet (q_build bt_66 (.cons lk_const rfl .nil) (.cons rfl rfl (Nat.le_of_ble_eq_true rfl) (.cons (.here) .nil) .nil)).quiet ⟨_, rfl, Heap.le_refl _, rfl⟩
   ·
    intro e1 F1 hF1 he hj
    have g13 : (e1 13) = .agg (Seat.enc ⟨10, false⟩).toArray := hj 10 (by kernel_rfl) (by decide)
    have g14 : (e1 14) = .agg (Seat.enc ⟨4, true⟩).toArray := hj 11 (by kernel_rfl) (by decide)
    have g15 : (e1 15) = .agg (Seat.enc ⟨5, false⟩).toArray := hj 12 (by kernel_rfl) (by decide)
    refine ⟨_, _, _, _, _, rfl, ?_⟩
    refine OpX_freeze (x_buildN (offs := [(0, 2), (2, 2), (4, 2)]) (zl := [.int .i64 0, .bool false, .int .i64 0, .bool false, .int .i64 0, .bool false]) sl_24 zr_66 rfl (.cons (lk_eq g13) rfl (.cons (lk_eq g14) rfl (.cons (lk_eq g15) rfl .nil))) (by intro i p h; rcases i with _ | _ | _ | i <;> simp at h <;> subst h <;> rfl) (.cons rfl rfl (Nat.le_of_ble_eq_true rfl) (.cons (.here) (.cons (.next <| .here) .nil)) (.cons rfl rfl (Nat.le_of_ble_eq_true rfl) (.cons (.next <| .next <| .here) (.cons (.next <| .next <| .next <| .here) .nil)) (.cons rfl rfl (Nat.le_of_ble_eq_true rfl) (.cons (.next <| .next <| .next <| .next <| .here) (.cons (.next <| .next <| .next <| .next <| .next <| .here) .nil)) .nil))) (by decide) (by decide) fun b hb nb => ⟨b, _, hb, rfl, fun F2 hF2 hz => ⟨F2, rfl, hF2, (sl_box (xs := seats3) hz rfl rfl (fun _ => rfl) (by decide))⟩⟩)
   ·
    intro e1 F1 hF1 he hj
    refine ⟨_, _, _, _, _, rfl, ?_⟩
    refine x_quiet (q_move (lk_old (he_of he (by kernel_rfl)) <| lk1 rfl <| lk_entry rfl)).quiet ⟨_, rfl, Heap.le_refl _, rfl⟩
   ·
    intro e1 F1 hF1 he hj
    have g16 : Sl F1 (e1 16) 2 Seat.enc seats3 := hj 13 (by kernel_rfl) (by decide)
    have g17 : (e1 17) = .int .i64 (n : Int) := hj 14 (by kernel_rfl) (by decide)
    refine ⟨_, _, _, _, _, rfl, ?_⟩
    refine x_quiet (q_sliceTo sl_24 (lk_eq rfl) g16.plain (lk_eq g17) (k := n) rfl hn).quiet ⟨_, rfl, Heap.le_refl _, (g16.to (k := n) hn)⟩
   ·
    intro e1 F1 hF1 he hj
    have g7 : (e1 7) = .agg #[.int .i64 200, .int .i64 200] := hj 4 (by kernel_rfl) (by decide)
    refine ⟨_, _, _, _, _, rfl, ?_⟩
    refine x_quiet (q_call bd_79 lk_func (.cons lk_const (.cons lk_const (.cons lk_const (.cons lk_const .nil)))) (request_ok _ _ _ _) (fun _ _ h => h)) ⟨_, rfl, Heap.le_refl _, rfl⟩
   ·
    intro e1 F1 hF1 he hj
    have g19 : (e1 19) = .agg #[.int .i64 0, .int .i64 0, .int .i64 6, .int .i64 20] := hj 16 (by kernel_rfl) (by decide)
    refine ⟨_, _, _, _, _, rfl, ?_⟩
    refine x_quiet (q_call bd_79 lk_func (.cons lk_const (.cons lk_const (.cons lk_const (.cons lk_const .nil)))) (request_ok _ _ _ _) (fun _ _ h => h)) ⟨_, rfl, Heap.le_refl _, rfl⟩
   ·
    intro e1 F1 hF1 he hj
    have g20 : (e1 20) = .agg #[.int .i64 1, .int .i64 1, .int .i64 2, .int .i64 30] := hj 17 (by kernel_rfl) (by decide)
    refine ⟨_, _, _, _, _, rfl, ?_⟩
    refine x_quiet (q_call bd_79 lk_func (.cons lk_const (.cons lk_const (.cons lk_const (.cons lk_const .nil)))) (request_ok _ _ _ _) (fun _ _ h => h)) ⟨_, rfl, Heap.le_refl _, rfl⟩
   ·
    intro e1 F1 hF1 he hj
    have g21 : (e1 21) = .agg #[.int .i64 0, .int .i64 2, .int .i64 8, .int .i64 10] := hj 18 (by kernel_rfl) (by decide)
    refine ⟨_, _, _, _, _, rfl, ?_⟩
    refine x_quiet (q_call bd_79 lk_func (.cons lk_const (.cons lk_const (.cons lk_const (.cons lk_const .nil)))) (request_ok _ _ _ _) (fun _ _ h => h)) ⟨_, rfl, Heap.le_refl _, rfl⟩
   ·
    intro e1 F1 hF1 he hj
    have g22 : (e1 22) = .agg #[.int .i64 0, .int .i64 1, .int .i64 1, .int .i64 50] := hj 19 (by kernel_rfl) (by decide)
    refine ⟨_, _, _, _, _, rfl, ?_⟩
    refine x_quiet (q_call bd_79 lk_func (.cons lk_const (.cons lk_const (.cons lk_const (.cons lk_const .nil)))) (request_ok _ _ _ _) (fun _ _ h => h)) ⟨_, rfl, Heap.le_refl _, rfl⟩
   ·
    intro e1 F1 hF1 he hj
    have g19 : (e1 19) = .agg #[.int .i64 0, .int .i64 0, .int .i64 6, .int .i64 20] := hj 16 (by kernel_rfl) (by decide)
    have g20 : (e1 20) = .agg #[.int .i64 1, .int .i64 1, .int .i64 2, .int .i64 30] := hj 17 (by kernel_rfl) (by decide)
    have g21 : (e1 21) = .agg #[.int .i64 0, .int .i64 2, .int .i64 8, .int .i64 10] := hj 18 (by kernel_rfl) (by decide)
    have g22 : (e1 22) = .agg #[.int .i64 0, .int .i64 1, .int .i64 1, .int .i64 50] := hj 19 (by kernel_rfl) (by decide)
    have g23 : (e1 23) = .agg #[.int .i64 1, .int .i64 0, .int .i64 4, .int .i64 15] := hj 20 (by kernel_rfl) (by decide)
    refine ⟨_, _, _, _, _, rfl, ?_⟩
    refine OpX_freeze (x_buildN (offs := [(0, 4), (4, 4), (8, 4), (12, 4), (16, 4)]) (zl := [.int .i64 0, .int .i64 0, .int .i64 0, .int .i64 0, .int .i64 0, .int .i64 0, .int .i64 0, .int .i64 0, .int .i64 0, .int .i64 0, .int .i64 0, .int .i64 0, .int .i64 0, .int .i64 0, .int .i64 0, .int .i64 0, .int .i64 0, .int .i64 0, .int .i64 0, .int .i64 0]) sl_25 zr_58 rfl (.cons (lk_eq g19) rfl (.cons (lk_eq g20) rfl (.cons (lk_eq g21) rfl (.cons (lk_eq g22) rfl (.cons (lk_eq g23) rfl .nil))))) (by intro i p h; rcases i with _ | _ | _ | _ | _ | i <;> simp at h <;> subst h <;> rfl) (.cons rfl rfl (Nat.le_of_ble_eq_true rfl) (.cons (.here) (.cons (.next <| .here) (.cons (.next <| .next <| .here) (.cons (.next <| .next <| .next <| .here) .nil)))) (.cons rfl rfl (Nat.le_of_ble_eq_true rfl) (.cons (.next <| .next <| .next <| .next <| .here) (.cons (.next <| .next <| .next <| .next <| .next <| .here) (.cons (.next <| .next <| .next <| .next <| .next <| .next <| .here) (.cons (.next <| .next <| .next <| .next <| .next <| .next <| .next <| .here) .nil)))) (.cons rfl rfl (Nat.le_of_ble_eq_true rfl) (.cons (.next <| .next <| .next <| .next <| .next <| .next <| .next <| .next <| .here) (.cons (.next <| .next <| .next <| .next <| .next <| .next <| .next <| .next <| .next <| .here) (.cons (.next <| .next <| .next <| .next <| .next <| .next <| .next <| .next <| .next <| .next <| .here) (.cons (.next <| .next <| .next <| .next <| .next <| .next <| .next <| .next <| .next <| .next <| .next <| .here) .nil)))) (.cons rfl rfl (Nat.le_of_ble_eq_true rfl) (.cons (.next <| .next <| .next <| .next <| .next <| .next <| .next <| .next <| .next <| .next <| .next <| .next <| .here) (.cons (.next <| .next <| .next <| .next <| .next <| .next <| .next <| .next <| .next <| .next <| .next <| .next <| .next <| .here) (.cons (.next <| .next <| .next <| .next <| .next <| .next <| .next <| .next <| .next <| .next <| .next <| .next <| .next <| .next <| .here) (.cons (.next <| .next <| .next <| .next <| .next <| .next <| .next <| .next <| .next <| .next <| .next <| .next <| .next <| .next <| .next <| .here) .nil)))) (.cons rfl rfl (Nat.le_of_ble_eq_true rfl) (.cons (.next <| .next <| .next <| .next <| .next <| .next <| .next <| .next <| .next <| .next <| .next <| .next <| .next <| .next <| .next <| .next <| .here) (.cons (.next <| .next <| .next <| .next <| .next <| .next <| .next <| .next <| .next <| .next <| .next <| .next <| .next <| .next <| .next <| .next <| .next <| .here) (.cons (.next <| .next <| .next <| .next <| .next <| .next <| .next <| .next <| .next <| .next <| .next <| .next <| .next <| .next <| .next <| .next <| .next <| .next <| .here) (.cons (.next <| .next <| .next <| .next <| .next <| .next <| .next <| .next <| .next <| .next <| .next <| .next <| .next <| .next <| .next <| .next <| .next <| .next <| .next <| .here) .nil)))) .nil))))) (by decide) (by decide) fun b hb nb => ⟨b, _, hb, rfl, fun F2 hF2 hz => ⟨F2, rfl, hF2, (sl_box (xs := reqs5) hz rfl rfl (fun _ => rfl) (by decide))⟩⟩)
   ·
    intro e1 F1 hF1 he hj
    have g9 : Sl F1 (e1 9) 5 Book.enc [bkA, bkP, bkN] := hj 6 (by kernel_rfl) (by decide)
    have g12 : Sl F1 (e1 12) 2 Rdr.enc [rdA, rdB] := hj 9 (by kernel_rfl) (by decide)
    have g18 : Sl F1 (e1 18) 2 Seat.enc (seats3.take n) := hj 15 (by kernel_rfl) (by decide)
    have g24 : Sl F1 (e1 24) 4 Req.enc reqs5 := hj 21 (by kernel_rfl) (by decide)
    refine ⟨_, _, _, _, _, rfl, ?_⟩
    refine x_quiet (q_build bt_27 (.cons (lk_eq rfl) (cells_one g9.plain.one) (.cons (lk_eq rfl) (cells_one g12.plain.one) (.cons (lk_eq rfl) (cells_one g18.plain.one) (.cons (lk_eq rfl) (cells_one g24.plain.one) .nil)))) (.cons rfl rfl (Nat.le_of_ble_eq_true rfl) (.cons (.here) .nil) (.cons rfl rfl (Nat.le_of_ble_eq_true rfl) (.cons (.next <| .here) .nil) (.cons rfl rfl (Nat.le_of_ble_eq_true rfl) (.cons (.next <| .next <| .here) .nil) (.cons rfl rfl (Nat.le_of_ble_eq_true rfl) (.cons (.next <| .next <| .next <| .here) .nil) .nil))))).quiet ⟨_, rfl, Heap.le_refl _, ⟨_, _, _, _, rfl, ⟨g9, g12, g18, g24⟩⟩⟩
  intro e5 F2 hF3 he4 hj
  have g3 : (e5 3) = .agg #[.int .i64 40, .int .i64 60] := hj 0 (by decide)
  have g4 : (e5 4) = .agg (Book.enc bkA).toArray := hj 1 (by decide)
  have g5 : (e5 5) = .agg #[.int .i64 10, .int .i64 10] := hj 2 (by decide)
  have g6 : (e5 6) = .agg (Book.enc bkP).toArray := hj 3 (by decide)
  have g7 : (e5 7) = .agg #[.int .i64 200, .int .i64 200] := hj 4 (by decide)
  have g8 : (e5 8) = .agg (Book.enc bkN).toArray := hj 5 (by decide)
  have g9 : Sl F2 (e5 9) 5 Book.enc [bkA, bkP, bkN] := hj 6 (by decide)
  have g10 : (e5 10) = .agg (Rdr.enc rdA).toArray := hj 7 (by decide)
  have g11 : (e5 11) = .agg (Rdr.enc rdB).toArray := hj 8 (by decide)
  have g12 : Sl F2 (e5 12) 2 Rdr.enc [rdA, rdB] := hj 9 (by decide)
  have g13 : (e5 13) = .agg (Seat.enc ⟨10, false⟩).toArray := hj 10 (by decide)
  have g14 : (e5 14) = .agg (Seat.enc ⟨4, true⟩).toArray := hj 11 (by decide)
  have g15 : (e5 15) = .agg (Seat.enc ⟨5, false⟩).toArray := hj 12 (by decide)
  have g16 : Sl F2 (e5 16) 2 Seat.enc seats3 := hj 13 (by decide)
  have g17 : (e5 17) = .int .i64 (n : Int) := hj 14 (by decide)
  have g18 : Sl F2 (e5 18) 2 Seat.enc (seats3.take n) := hj 15 (by decide)
  have g19 : (e5 19) = .agg #[.int .i64 0, .int .i64 0, .int .i64 6, .int .i64 20] := hj 16 (by decide)
  have g20 : (e5 20) = .agg #[.int .i64 1, .int .i64 1, .int .i64 2, .int .i64 30] := hj 17 (by decide)
  have g21 : (e5 21) = .agg #[.int .i64 0, .int .i64 2, .int .i64 8, .int .i64 10] := hj 18 (by decide)
  have g22 : (e5 22) = .agg #[.int .i64 0, .int .i64 1, .int .i64 1, .int .i64 50] := hj 19 (by decide)
  have g23 : (e5 23) = .agg #[.int .i64 1, .int .i64 0, .int .i64 4, .int .i64 15] := hj 20 (by decide)
  have g24 : Sl F2 (e5 24) 4 Req.enc reqs5 := hj 21 (by decide)
  have g25 : ∃ vb vr vs vq, (e5 25) = .agg #[vb, vr, vs, vq] ∧ RoomR F2 vb vr vs vq (roomX n) := hj 22 (by decide)
  obtain ⟨vb, vr, vs, vq, g25, hrm⟩ := g25
  refine ⟨_, _, _, _, rfl, ?_⟩
  refine x_storeA sz_27 (lk_old (he_of he4 (by kernel_rfl)) <| lk0) (lk_eq g25) (i := 0) rfl rfl rfl rfl hrm.ones (.here) ?_
  refine then_n ?_
  refine WC_ret ?_
  refine post_ret rfl (.agg agg_27 (lk_old (he_of he4 (by kernel_rfl)) <| lk0) rfl rfl (own_whole 0 rfl) .nil) ?_
  exact ⟨_, _, _, _, rfl, hrm⟩
end Go.Proofs.Ytbcjfkcpfjccdaa
namespace Go.Proofs.Ytbcjfkcpfjccdaa
open Go.RowKit
theorem ev_w1 : whyE (roomX 3) 0 0 = (3, 0) := by kernel_rfl
theorem ev_w2 : whyE (roomX 3) 3 1 = (1, 0) := by kernel_rfl
theorem ev_c1 : canV (roomX 3) [0, 1] = .tuple #[.bool true, .int .i64 0] := by kernel_rfl
theorem ev_c2 : canV (roomX 3) [0, 4] = .tuple #[.bool false, .int .i64 0] := by kernel_rfl
theorem ev_s1 : seatsE (roomX 3) [1, 2] = ([2, 1], 42, 0) := by kernel_rfl
theorem ev_l1 : leftE (roomX 3) [0, 1] [2, 1] = ([(10, 30), (2, 2), (200, 200)], 0) := by kernel_rfl
theorem ev_t1 : turnE (roomX 3) = ([0, 1], 0) := by kernel_rfl
theorem ev_b1 : bestE (roomX 3) = ([0, 1], 50, 0) := by kernel_rfl
theorem ev_g1 : givesE (roomX 3) [0, 1] 4 = ([0, 1], 0) := by kernel_rfl
theorem ev_g2 : givesE (roomX 3) [0, 1] 3 = ([], 9) := by kernel_rfl
theorem ev_a1 : askE (roomX 1) = (0, 5, 0) := by kernel_rfl
end Go.Proofs.Ytbcjfkcpfjccdaa
namespace Go.Proofs.Ytbcjfkcpfjccdaa
open Go.RowKit
theorem bd_17 : Body Try.prog 17 := body_of (by kernel_rfl)
theorem bd_19 : Body Try.prog 19 := body_of (by kernel_rfl)
theorem bd_22 : Body Try.prog 22 := body_of (by kernel_rfl)
theorem bd_24 : Body Try.prog 24 := body_of (by kernel_rfl)
theorem bd_25 : Body Try.prog 25 := body_of (by kernel_rfl)
theorem bd_27 : Body Try.prog 27 := body_of (by kernel_rfl)
theorem bd_28 : Body Try.prog 28 := body_of (by kernel_rfl)
theorem bd_30 : Body Try.prog 30 := body_of (by kernel_rfl)
theorem bd_32 : Body Try.prog 32 := body_of (by kernel_rfl)
theorem bd_34 : Body Try.prog 34 := body_of (by kernel_rfl)
theorem bd_36 : Body Try.prog 36 := body_of (by kernel_rfl)
theorem spans_box3 {F : Heap} {b T : Nat} {a1 a2 b1 b2 c1 c2 : Int} (h : F b = some (bx T [.int .i64 a1, .int .i64 a2, .int .i64 b1, .int .i64 b2, .int .i64 c1, .int .i64 c2])) : Sl F (.slice (some ⟨b, 0, none⟩) 3 3) 2 spanE [(a1, a2), (b1, b2), (c1, c2)] :=
  sl_box (xs := [(a1, a2), (b1, b2), (c1, c2)]) h rfl rfl (fun _ => rfl) (by decide)
set_option maxRecDepth 100000 in
theorem awake_ok {F : Heap} : Ok Try.prog 21 [].toArray F fun u _ => u = .bool true := by
  refine Ok.intro Try.func21 rfl Try.ntmps21 rfl fun w0 => ?_
  refine WC_seq ?_
  refine WC_reg fun ds => ?_
  refine WL_q rfl (q_assign lk_const) ?_
  refine WL_nil ?_
  refine then_n ?_
  refine WC_seq ?_
  refine WC_reg fun ds => ?_
  refine WL_x rfl (x_call bd_36 lk_func (.cons lk_const .nil) (room_ok (n := 3) (by decide)) fun v1 F2 hr3 hF4 => ?_)
  obtain ⟨vb, vr, vs, vq, rfl, hrm⟩ := hr3
  refine WL_x rfl (x_alloc zr_27 rfl fun b5 hb5 nb5 => ?_)
  refine WL_x0 (x_storeA sz_27 (lk0) (lk1 rfl <| lk0) (i := 0) rfl rfl rfl rfl hrm.ones (.here) ?_)
  refine WL_nil ?_
  refine then_n ?_
  refine WC_seq ?_
  refine WC_reg fun ds => ?_
  refine WL_q rfl (q_loadN agg_27 (lk0) rfl rfl (own_whole 0 rfl)) ?_
  refine WL_c rfl (q_call bd_17 lk_func (.cons (lk0) (.cons lk_const (.cons lk_const .nil))) (why_top_ok hrm 0 0) (fun _ _ h => h.trans (show pairV (whyE (roomX 3) 0 0) = .tuple #[.int .i64 3, .int .i64 0] by rw [ev_w1]; rfl))) ?_
  refine WL_q rfl (q_move (lk0)) ?_
  refine WL_q rfl (q_extract (lk0) rfl) ?_
  refine WL_q rfl (q_extract (lk1 rfl <| lk0) rfl) ?_
  refine WL_q rfl (q_assign (lk1 rfl <| lk0)) ?_
  refine WL_q rfl (q_assign (lk1 rfl <| lk0)) ?_
  refine WL_nil ?_
  refine then_n ?_
  refine WC_seq ?_
  refine WC_reg fun ds => ?_
  refine WL_q rfl (q_loadN agg_27 (lk4 rfl <| lk2 rfl <| lk1 rfl <| lk0) rfl rfl (own_whole 0 rfl)) ?_
  refine WL_c rfl (q_call bd_17 lk_func (.cons (lk0) (.cons lk_const (.cons lk_const .nil))) (why_top_ok hrm 3 1) (fun _ _ h => h.trans (show pairV (whyE (roomX 3) 3 1) = .tuple #[.int .i64 1, .int .i64 0] by rw [ev_w2]; rfl))) ?_
  refine WL_q rfl (q_move (lk0)) ?_
  refine WL_q rfl (q_extract (lk0) rfl) ?_
  refine WL_q rfl (q_extract (lk1 rfl <| lk0) rfl) ?_
  refine WL_q rfl (q_assign (lk1 rfl <| lk0)) ?_
  refine WL_q rfl (q_assign (lk1 rfl <| lk0)) ?_
  refine WL_nil ?_
  refine then_n ?_
  refine WC_seq ?_
  refine WC_reg fun ds => ?_
  refine WL_q rfl (q_loadN agg_27 (lk8 rfl <| lk4 rfl <| lk2 rfl <| lk0) rfl rfl (own_whole 0 rfl)) ?_
  refine WL_x rfl (x_build sl_29 zr_3 rfl (.cons lk_const (.cons lk_const .nil)) rfl rfl (by decide) (by simp [Value.oneCell']) fun b6 hb6 nb6 => ?_)
  refine WL_freeze (i := 0) rfl hb6 .here fun F7 hF8 hz9 => ?_
  replace hrm := hrm.mono hF8
  have hsl10 := ints_box2 hz9
  refine WL_c rfl (q_call bd_19 lk_func (.cons (lk1 rfl <| lk0) (.cons (lk0) .nil)) (can_top_ok hrm hsl10) (fun _ _ h => h.trans (show canV (roomX 3) [0, 1] = .tuple #[.bool true, .int .i64 0] from ev_c1))) ?_
  refine WL_q rfl (q_move (lk0)) ?_
  refine WL_q rfl (q_extract (lk0) rfl) ?_
  refine WL_q rfl (q_extract (lk1 rfl <| lk0) rfl) ?_
  refine WL_q rfl (q_assign (lk1 rfl <| lk0)) ?_
  refine WL_q rfl (q_assign (lk1 rfl <| lk0)) ?_
  refine WL_nil ?_
  refine then_n ?_
  refine WC_seq ?_
  refine WC_reg fun ds => ?_
  refine WL_q rfl (q_loadN agg_27 (lk16 rfl <| lk4 rfl <| lk2 rfl <| lk0) rfl rfl (own_whole 0 rfl)) ?_
  refine WL_x rfl (x_build sl_29 zr_3 rfl (.cons lk_const (.cons lk_const .nil)) rfl rfl (by decide) (by simp [Value.oneCell']) fun b11 hb11 nb11 => ?_)
  refine WL_freeze (i := 0) rfl hb11 .here fun F12 hF13 hz14 => ?_
  replace hrm := hrm.mono hF13
  replace hsl10 := hsl10.mono hF13
  have hsl15 := ints_box2 hz14
  refine WL_c rfl (q_call bd_19 lk_func (.cons (lk1 rfl <| lk0) (.cons (lk0) .nil)) (can_top_ok hrm hsl15) (fun _ _ h => h.trans (show canV (roomX 3) [0, 4] = .tuple #[.bool false, .int .i64 0] from ev_c2))) ?_
  refine WL_q rfl (q_move (lk0)) ?_
  refine WL_q rfl (q_extract (lk0) rfl) ?_
  refine WL_q rfl (q_extract (lk1 rfl <| lk0) rfl) ?_
  refine WL_q rfl (q_assign (lk1 rfl <| lk0)) ?_
  refine WL_q rfl (q_assign (lk1 rfl <| lk0)) ?_
  refine WL_nil ?_
  refine then_n ?_
  refine WC_seq ?_
  refine WC_reg fun ds => ?_
  refine WL_q rfl (q_loadN agg_27 (lk16 rfl <| lk8 rfl <| lk4 rfl <| lk2 rfl <| lk0) rfl rfl (own_whole 0 rfl)) ?_
  refine WL_x rfl (x_build sl_29 zr_3 rfl (.cons lk_const (.cons lk_const .nil)) rfl rfl (by decide) (by simp [Value.oneCell']) fun b16 hb16 nb16 => ?_)
  refine WL_freeze (i := 0) rfl hb16 .here fun F17 hF18 hz19 => ?_
  replace hrm := hrm.mono hF18
  replace hsl10 := hsl10.mono hF18
  replace hsl15 := hsl15.mono hF18
  have hsl20 := ints_box2 hz19
  refine WL_x rfl (x_call bd_22 lk_func (.cons (lk1 rfl <| lk0) (.cons (lk0) .nil)) ((seats_top_ok hrm hsl20).mono fun u F2 _ h => (by rw [ev_s1] at h; exact h : ∃ ws, u = .tuple #[ws, .int .i64 42, .int .i64 0] ∧ Nats F2 ws [2, 1])) fun v21 F22 hr23 hF24 => ?_)
  replace hrm := hrm.mono hF24
  replace hsl10 := hsl10.mono hF24
  replace hsl15 := hsl15.mono hF24
  replace hsl20 := hsl20.mono hF24
  obtain ⟨hq1_, rfl, hq1⟩ := hr23
  refine WL_q rfl (q_move (lk0)) ?_
  refine WL_q rfl (q_extract (lk0) rfl) ?_
  refine WL_q rfl (q_extract (lk1 rfl <| lk0) rfl) ?_
  refine WL_q rfl (q_extract (lk2 rfl <| lk0) rfl) ?_
  refine WL_q rfl (q_assign (lk2 rfl <| lk0)) ?_
  refine WL_q rfl (q_assign (lk2 rfl <| lk0)) ?_
  refine WL_q rfl (q_assign (lk2 rfl <| lk0)) ?_
  refine WL_nil ?_
  refine then_n ?_
  refine WC_seq ?_
  refine WC_reg fun ds => ?_
  refine WL_q rfl (q_loadN agg_27 (lk32 rfl <| lk8 rfl <| lk0) rfl rfl (own_whole 0 rfl)) ?_
  refine WL_x rfl (x_build sl_29 zr_3 rfl (.cons lk_const (.cons lk_const .nil)) rfl rfl (by decide) (by simp [Value.oneCell']) fun b25 hb25 nb25 => ?_)
  refine WL_freeze (i := 0) rfl hb25 .here fun F26 hF27 hz28 => ?_
  replace hrm := hrm.mono hF27
  replace hsl10 := hsl10.mono hF27
  replace hsl15 := hsl15.mono hF27
  replace hsl20 := hsl20.mono hF27
  replace hq1 := hq1.mono hF27
  have hsl29 := ints_box2 hz28
  refine WL_x rfl (x_build sl_29 zr_3 rfl (.cons lk_const (.cons lk_const .nil)) rfl rfl (by decide) (by simp [Value.oneCell']) fun b30 hb30 nb30 => ?_)
  refine WL_freeze (i := 0) rfl hb30 .here fun F31 hF32 hz33 => ?_
  replace hrm := hrm.mono hF32
  replace hsl10 := hsl10.mono hF32
  replace hsl15 := hsl15.mono hF32
  replace hsl20 := hsl20.mono hF32
  replace hq1 := hq1.mono hF32
  replace hsl29 := hsl29.mono hF32
  have hsl34 := ints_box2 hz33
  refine WL_x rfl (x_call bd_25 lk_func (.cons (lk2 rfl <| lk0) (.cons (lk1 rfl <| lk0) (.cons (lk0) .nil))) ((left_top_ok hrm hsl29 hsl34).mono fun u F2 _ h => (by rw [ev_l1] at h; exact h : ∃ ws, u = .tuple #[ws, .int .i64 0] ∧ Sl F2 ws 2 spanE [(10, 30), (2, 2), (200, 200)])) fun v35 F36 hr37 hF38 => ?_)
  replace hrm := hrm.mono hF38
  replace hsl10 := hsl10.mono hF38
  replace hsl15 := hsl15.mono hF38
  replace hsl20 := hsl20.mono hF38
  replace hq1 := hq1.mono hF38
  replace hsl29 := hsl29.mono hF38
  replace hsl34 := hsl34.mono hF38
  obtain ⟨hq2_, rfl, hq2⟩ := hr37
  refine WL_q rfl (q_move (lk0)) ?_
  refine WL_q rfl (q_extract (lk0) rfl) ?_
  refine WL_q rfl (q_extract (lk1 rfl <| lk0) rfl) ?_
  refine WL_q rfl (q_assign (lk1 rfl <| lk0)) ?_
  refine WL_q rfl (q_assign (lk1 rfl <| lk0)) ?_
  refine WL_nil ?_
  refine then_n ?_
  refine WC_seq ?_
  refine WC_reg fun ds => ?_
  refine WL_q rfl (q_loadN agg_27 (lk32 rfl <| lk16 rfl <| lk1 rfl <| lk0) rfl rfl (own_whole 0 rfl)) ?_
  refine WL_x rfl (x_call bd_28 lk_func (.cons (lk0) .nil) ((turn_top_ok hrm).mono fun u F2 _ h => (by rw [ev_t1] at h; exact h : ∃ ws, u = .tuple #[ws, .int .i64 0] ∧ Nats F2 ws [0, 1])) fun v39 F40 hr41 hF42 => ?_)
  replace hrm := hrm.mono hF42
  replace hsl10 := hsl10.mono hF42
  replace hsl15 := hsl15.mono hF42
  replace hsl20 := hsl20.mono hF42
  replace hq1 := hq1.mono hF42
  replace hsl29 := hsl29.mono hF42
  replace hsl34 := hsl34.mono hF42
  replace hq2 := hq2.mono hF42
  obtain ⟨hq3_, rfl, hq3⟩ := hr41
  refine WL_q rfl (q_move (lk0)) ?_
  refine WL_q rfl (q_extract (lk0) rfl) ?_
  refine WL_q rfl (q_extract (lk1 rfl <| lk0) rfl) ?_
  refine WL_q rfl (q_assign (lk1 rfl <| lk0)) ?_
  refine WL_q rfl (q_assign (lk1 rfl <| lk0)) ?_
  refine WL_nil ?_
  refine then_n ?_
  refine WC_seq ?_
  refine WC_reg fun ds => ?_
  refine WL_q rfl (q_loadN agg_27 (lk32 rfl <| lk16 rfl <| lk8 rfl <| lk0) rfl rfl (own_whole 0 rfl)) ?_
  refine WL_x rfl (x_call bd_30 lk_func (.cons (lk0) .nil) ((best_top_ok hrm).mono fun u F2 _ h => (by rw [ev_b1] at h; exact h : ∃ ws, u = .tuple #[ws, .int .i64 50, .int .i64 0] ∧ Nats F2 ws [0, 1])) fun v43 F44 hr45 hF46 => ?_)
  replace hrm := hrm.mono hF46
  replace hsl10 := hsl10.mono hF46
  replace hsl15 := hsl15.mono hF46
  replace hsl20 := hsl20.mono hF46
  replace hq1 := hq1.mono hF46
  replace hsl29 := hsl29.mono hF46
  replace hsl34 := hsl34.mono hF46
  replace hq2 := hq2.mono hF46
  replace hq3 := hq3.mono hF46
  obtain ⟨hq4_, rfl, hq4⟩ := hr45
  refine WL_q rfl (q_move (lk0)) ?_
  refine WL_q rfl (q_extract (lk0) rfl) ?_
  refine WL_q rfl (q_extract (lk1 rfl <| lk0) rfl) ?_
  refine WL_q rfl (q_extract (lk2 rfl <| lk0) rfl) ?_
  refine WL_q rfl (q_assign (lk2 rfl <| lk0)) ?_
  refine WL_q rfl (q_assign (lk2 rfl <| lk0)) ?_
  refine WL_q rfl (q_assign (lk2 rfl <| lk0)) ?_
  refine WL_nil ?_
  refine then_n ?_
  refine WC_seq ?_
  refine WC_reg fun ds => ?_
  refine WL_q rfl (q_loadN agg_27 (lk32 rfl <| lk32 rfl <| lk1 rfl <| lk0) rfl rfl (own_whole 0 rfl)) ?_
  refine WL_x rfl (x_build sl_29 zr_3 rfl (.cons lk_const (.cons lk_const .nil)) rfl rfl (by decide) (by simp [Value.oneCell']) fun b47 hb47 nb47 => ?_)
  refine WL_freeze (i := 0) rfl hb47 .here fun F48 hF49 hz50 => ?_
  replace hrm := hrm.mono hF49
  replace hsl10 := hsl10.mono hF49
  replace hsl15 := hsl15.mono hF49
  replace hsl20 := hsl20.mono hF49
  replace hq1 := hq1.mono hF49
  replace hsl29 := hsl29.mono hF49
  replace hsl34 := hsl34.mono hF49
  replace hq2 := hq2.mono hF49
  replace hq3 := hq3.mono hF49
  replace hq4 := hq4.mono hF49
  have hsl51 := ints_box2 hz50
  refine WL_x rfl (x_call bd_32 lk_func (.cons (lk1 rfl <| lk0) (.cons (lk0) (.cons lk_const .nil))) ((gives_top_ok hrm hsl51 4).mono fun u F2 _ h => (by rw [ev_g1] at h; exact h : ∃ ws, u = .tuple #[ws, .int .i64 0] ∧ Nats F2 ws [0, 1])) fun v52 F53 hr54 hF55 => ?_)
  replace hrm := hrm.mono hF55
  replace hsl10 := hsl10.mono hF55
  replace hsl15 := hsl15.mono hF55
  replace hsl20 := hsl20.mono hF55
  replace hq1 := hq1.mono hF55
  replace hsl29 := hsl29.mono hF55
  replace hsl34 := hsl34.mono hF55
  replace hq2 := hq2.mono hF55
  replace hq3 := hq3.mono hF55
  replace hq4 := hq4.mono hF55
  replace hsl51 := hsl51.mono hF55
  obtain ⟨hq5_, rfl, hq5⟩ := hr54
  refine WL_q rfl (q_move (lk0)) ?_
  refine WL_q rfl (q_extract (lk0) rfl) ?_
  refine WL_q rfl (q_extract (lk1 rfl <| lk0) rfl) ?_
  refine WL_q rfl (q_assign (lk1 rfl <| lk0)) ?_
  refine WL_q rfl (q_assign (lk1 rfl <| lk0)) ?_
  refine WL_nil ?_
  refine then_n ?_
  refine WC_seq ?_
  refine WC_reg fun ds => ?_
  refine WL_q rfl (q_loadN agg_27 (lk32 rfl <| lk32 rfl <| lk8 rfl <| lk1 rfl <| lk0) rfl rfl (own_whole 0 rfl)) ?_
  refine WL_x rfl (x_build sl_29 zr_3 rfl (.cons lk_const (.cons lk_const .nil)) rfl rfl (by decide) (by simp [Value.oneCell']) fun b56 hb56 nb56 => ?_)
  refine WL_freeze (i := 0) rfl hb56 .here fun F57 hF58 hz59 => ?_
  replace hrm := hrm.mono hF58
  replace hsl10 := hsl10.mono hF58
  replace hsl15 := hsl15.mono hF58
  replace hsl20 := hsl20.mono hF58
  replace hq1 := hq1.mono hF58
  replace hsl29 := hsl29.mono hF58
  replace hsl34 := hsl34.mono hF58
  replace hq2 := hq2.mono hF58
  replace hq3 := hq3.mono hF58
  replace hq4 := hq4.mono hF58
  replace hsl51 := hsl51.mono hF58
  replace hq5 := hq5.mono hF58
  have hsl60 := ints_box2 hz59
  refine WL_x rfl (x_call bd_32 lk_func (.cons (lk1 rfl <| lk0) (.cons (lk0) (.cons lk_const .nil))) ((gives_top_ok hrm hsl60 3).mono fun u F2 _ h => (by rw [ev_g2] at h; exact h : ∃ ws, u = .tuple #[ws, .int .i64 9] ∧ Nats F2 ws [])) fun v61 F62 hr63 hF64 => ?_)
  replace hrm := hrm.mono hF64
  replace hsl10 := hsl10.mono hF64
  replace hsl15 := hsl15.mono hF64
  replace hsl20 := hsl20.mono hF64
  replace hq1 := hq1.mono hF64
  replace hsl29 := hsl29.mono hF64
  replace hsl34 := hsl34.mono hF64
  replace hq2 := hq2.mono hF64
  replace hq3 := hq3.mono hF64
  replace hq4 := hq4.mono hF64
  replace hsl51 := hsl51.mono hF64
  replace hq5 := hq5.mono hF64
  replace hsl60 := hsl60.mono hF64
  obtain ⟨hq6_, rfl, hq6⟩ := hr63
  refine WL_q rfl (q_move (lk0)) ?_
  refine WL_q rfl (q_extract (lk0) rfl) ?_
  refine WL_q rfl (q_extract (lk1 rfl <| lk0) rfl) ?_
  refine WL_q rfl (q_assign (lk1 rfl <| lk0)) ?_
  refine WL_q rfl (q_assign (lk1 rfl <| lk0)) ?_
  refine WL_nil ?_
  refine then_n ?_
  refine WC_seq ?_
  refine WC_reg fun ds => ?_
  refine WL_x rfl (x_call bd_36 lk_func (.cons lk_const .nil) (room_ok (n := 1) (by decide)) fun v65 F66 hr67 hF68 => ?_)
  replace hrm := hrm.mono hF68
  replace hsl10 := hsl10.mono hF68
  replace hsl15 := hsl15.mono hF68
  replace hsl20 := hsl20.mono hF68
  replace hq1 := hq1.mono hF68
  replace hsl29 := hsl29.mono hF68
  replace hsl34 := hsl34.mono hF68
  replace hq2 := hq2.mono hF68
  replace hq3 := hq3.mono hF68
  replace hq4 := hq4.mono hF68
  replace hsl51 := hsl51.mono hF68
  replace hq5 := hq5.mono hF68
  replace hsl60 := hsl60.mono hF68
  replace hq6 := hq6.mono hF68
  obtain ⟨wb, wr, ws, wq, rfl, hrm1⟩ := hr67
  refine WL_c rfl (q_call bd_34 lk_func (.cons (lk0) .nil) (ask_top_ok hrm1) (fun _ _ h => h.trans (show trip (askE (roomX 1)) = .tuple #[.int .i64 0, .int .i64 5, .int .i64 0] by rw [ev_a1]; rfl))) ?_
  refine WL_q rfl (q_move (lk0)) ?_
  refine WL_q rfl (q_extract (lk0) rfl) ?_
  refine WL_q rfl (q_extract (lk1 rfl <| lk0) rfl) ?_
  refine WL_q rfl (q_extract (lk2 rfl <| lk0) rfl) ?_
  refine WL_q rfl (q_assign (lk2 rfl <| lk0)) ?_
  refine WL_q rfl (q_assign (lk2 rfl <| lk0)) ?_
  refine WL_q rfl (q_assign (lk2 rfl <| lk0)) ?_
  refine WL_nil ?_
  refine then_n ?_
  refine WC_seq ?_
  refine WC_reg fun ds => ?_
  refine WL_q rfl (q_move (lk32 rfl <| lk32 rfl <| lk16 rfl <| lk2 rfl <| lk1 rfl <| lk0)) ?_
  refine WL_q rfl (q_eql (lk0) lk_const) ?_
  refine WL_q rfl (q_move (lk0)) ?_
  refine WL_want rfl rfl (lk0) (by first | rfl | decide) ?_
  refine WL_q rfl (q_move (lk32 rfl <| lk32 rfl <| lk8 rfl <| lk4 rfl <| lk2 rfl <| lk1 rfl <| lk0)) ?_
  refine WL_want rfl rfl (lk1 rfl <| lk0) (by first | rfl | decide) ?_
  refine WL_q rfl (q_eql (lk0) lk_const) ?_
  refine WL_q rfl (q_pick_true (lk2 rfl <| lk0) (by first | rfl | decide) (lk0)) ?_
  refine WL_q rfl (q_move (lk0)) ?_
  refine WL_want rfl rfl (lk0) (by first | rfl | decide) ?_
  refine WL_q rfl (q_move (lk32 rfl <| lk32 rfl <| lk8 rfl <| lk2 rfl <| lk1 rfl <| lk0)) ?_
  refine WL_want rfl rfl (lk1 rfl <| lk0) (by first | rfl | decide) ?_
  refine WL_q rfl (q_eql (lk0) lk_const) ?_
  refine WL_q rfl (q_pick_true (lk2 rfl <| lk0) (by first | rfl | decide) (lk0)) ?_
  refine WL_q rfl (q_move (lk0)) ?_
  refine WL_want rfl rfl (lk0) (by first | rfl | decide) ?_
  refine WL_q rfl (q_move (lk32 rfl <| lk32 rfl <| lk4 rfl <| lk2 rfl <| lk1 rfl <| lk0)) ?_
  refine WL_want rfl rfl (lk1 rfl <| lk0) (by first | rfl | decide) ?_
  refine WL_q rfl (q_eql (lk0) lk_const) ?_
  refine WL_q rfl (q_pick_true (lk2 rfl <| lk0) (by first | rfl | decide) (lk0)) ?_
  refine WL_q rfl (q_move (lk0)) ?_
  refine WL_want rfl rfl (lk0) (by first | rfl | decide) ?_
  refine WL_q rfl (q_move (lk32 rfl <| lk32 rfl <| lk1 rfl <| lk0)) ?_
  refine WL_want rfl rfl (lk1 rfl <| lk0) (by first | rfl | decide) ?_
  refine WL_q rfl (q_eql (lk0) lk_const) ?_
  refine WL_q rfl (q_pick_true (lk2 rfl <| lk0) (by first | rfl | decide) (lk0)) ?_
  refine WL_q rfl (q_move (lk0)) ?_
  refine WL_want rfl rfl (lk0) (by first | rfl | decide) ?_
  refine WL_q rfl (q_move (lk32 rfl <| lk16 rfl <| lk8 rfl <| lk4 rfl <| lk0)) ?_
  refine WL_want rfl rfl (lk1 rfl <| lk0) (by first | rfl | decide) ?_
  refine WL_q rfl (q_eql (lk0) lk_const) ?_
  refine WL_q rfl (q_pick_true (lk2 rfl <| lk0) (by first | rfl | decide) (lk0)) ?_
  refine WL_q rfl (q_move (lk0)) ?_
  refine WL_want rfl rfl (lk0) (by first | rfl | decide) ?_
  refine WL_q rfl (q_move (lk32 rfl <| lk16 rfl <| lk8 rfl <| lk1 rfl <| lk0)) ?_
  refine WL_want rfl rfl (lk1 rfl <| lk0) (by first | rfl | decide) ?_
  refine WL_q rfl (q_eql (lk0) lk_const) ?_
  refine WL_q rfl (q_pick_true (lk2 rfl <| lk0) (by first | rfl | decide) (lk0)) ?_
  refine WL_q rfl (q_move (lk0)) ?_
  refine WL_want rfl rfl (lk0) (by first | rfl | decide) ?_
  refine WL_q rfl (q_move (lk32 rfl <| lk16 rfl <| lk4 rfl <| lk0)) ?_
  refine WL_want rfl rfl (lk1 rfl <| lk0) (by first | rfl | decide) ?_
  refine WL_q rfl (q_eql (lk0) lk_const) ?_
  refine WL_q rfl (q_pick_true (lk2 rfl <| lk0) (by first | rfl | decide) (lk0)) ?_
  refine WL_q rfl (q_move (lk0)) ?_
  refine WL_want rfl rfl (lk0) (by first | rfl | decide) ?_
  refine WL_q rfl (q_move (lk32 rfl <| lk16 rfl <| lk0)) ?_
  refine WL_want rfl rfl (lk1 rfl <| lk0) (by first | rfl | decide) ?_
  refine WL_q rfl (q_eql (lk0) lk_const) ?_
  refine WL_q rfl (q_pick_true (lk2 rfl <| lk0) (by first | rfl | decide) (lk0)) ?_
  refine WL_q rfl (q_move (lk0)) ?_
  refine WL_want rfl rfl (lk0) (by first | rfl | decide) ?_
  refine WL_q rfl (q_move (lk32 rfl <| lk2 rfl <| lk1 rfl <| lk0)) ?_
  refine WL_want rfl rfl (lk1 rfl <| lk0) (by first | rfl | decide) ?_
  refine WL_q rfl (q_eql (lk0) lk_const) ?_
  refine WL_q rfl (q_pick_true (lk2 rfl <| lk0) (by first | rfl | decide) (lk0)) ?_
  refine WL_q rfl (q_move (lk0)) ?_
  refine WL_want rfl rfl (lk0) (by first | rfl | decide) ?_
  refine WL_q rfl (q_move (lk32 rfl <| lk16 rfl <| lk0)) ?_
  refine WL_want rfl rfl (lk1 rfl <| lk0) (by first | rfl | decide) ?_
  refine WL_q rfl (q_eql (lk0) lk_const) ?_
  refine WL_q rfl (q_pick_true (lk2 rfl <| lk0) (by first | rfl | decide) (lk0)) ?_
  refine WL_q rfl (q_move (lk0)) ?_
  refine WL_want rfl rfl (lk0) (by first | rfl | decide) ?_
  refine WL_q rfl (q_move (lk32 rfl <| lk32 rfl <| lk32 rfl <| lk16 rfl <| lk8 rfl <| lk4 rfl <| lk2 rfl <| lk1 rfl <| lk0)) ?_
  refine WL_want rfl rfl (lk1 rfl <| lk0) (by first | rfl | decide) ?_
  refine WL_q rfl (q_eql (lk0) lk_const) ?_
  refine WL_q rfl (q_pick_true (lk2 rfl <| lk0) (by first | rfl | decide) (lk0)) ?_
  refine WL_q rfl (q_move (lk0)) ?_
  refine WL_want rfl rfl (lk0) (by first | rfl | decide) ?_
  refine WL_q rfl (q_move (lk32 rfl <| lk32 rfl <| lk32 rfl <| lk16 rfl <| lk8 rfl <| lk4 rfl <| lk0)) ?_
  refine WL_want rfl rfl (lk1 rfl <| lk0) (by first | rfl | decide) ?_
  refine WL_q rfl (q_eql (lk0) lk_const) ?_
  refine WL_q rfl (q_pick_true (lk2 rfl <| lk0) (by first | rfl | decide) (lk0)) ?_
  refine WL_q rfl (q_move (lk0)) ?_
  refine WL_want rfl rfl (lk0) (by first | rfl | decide) ?_
  refine WL_q rfl (q_move (lk32 rfl <| lk32 rfl <| lk32 rfl <| lk16 rfl <| lk8 rfl <| lk0)) ?_
  refine WL_q rfl (q_pick_true (lk1 rfl <| lk0) (by first | rfl | decide) (lk0)) ?_
  refine WL_q rfl (q_move (lk0)) ?_
  refine WL_want rfl rfl (lk0) (by first | rfl | decide) ?_
  refine WL_q rfl (q_move (lk32 rfl <| lk32 rfl <| lk32 rfl <| lk16 rfl <| lk2 rfl <| lk1 rfl <| lk0)) ?_
  refine WL_want rfl rfl (lk1 rfl <| lk0) (by first | rfl | decide) ?_
  refine WL_q rfl (q_not (lk0)) ?_
  refine WL_q rfl (q_pick_true (lk2 rfl <| lk0) (by first | rfl | decide) (lk0)) ?_
  refine WL_q rfl (q_move (lk0)) ?_
  refine WL_want rfl rfl (lk0) (by first | rfl | decide) ?_
  refine WL_q rfl (q_move (lk32 rfl <| lk32 rfl <| lk32 rfl <| lk8 rfl <| lk4 rfl <| lk2 rfl <| lk0)) ?_
  refine WL_want rfl rfl (lk1 rfl <| lk0) (by first | rfl | decide) ?_
  refine WL_x rfl (x_build sl_29 zr_3 rfl (.cons lk_const (.cons lk_const .nil)) rfl rfl (by decide) (by simp [Value.oneCell']) fun b69 hb69 nb69 => ?_)
  refine WL_freeze (i := 0) rfl hb69 .here fun F70 hF71 hz72 => ?_
  replace hrm := hrm.mono hF71
  replace hsl10 := hsl10.mono hF71
  replace hsl15 := hsl15.mono hF71
  replace hsl20 := hsl20.mono hF71
  replace hq1 := hq1.mono hF71
  replace hsl29 := hsl29.mono hF71
  replace hsl34 := hsl34.mono hF71
  replace hq2 := hq2.mono hF71
  replace hq3 := hq3.mono hF71
  replace hq4 := hq4.mono hF71
  replace hsl51 := hsl51.mono hF71
  replace hq5 := hq5.mono hF71
  replace hsl60 := hsl60.mono hF71
  replace hq6 := hq6.mono hF71
  replace hrm1 := hrm1.mono hF71
  have hsl73 := ints_box2 hz72
  refine WL_want rfl rfl (lk2 rfl <| lk0) (by first | rfl | decide) ?_
  refine WL_c rfl (q_call bd_24 lk_func (.cons (lk1 rfl <| lk0) (.cons (lk0) .nil)) (refInts_ok (Nats.ints hq1) hsl73) (fun _ _ h => h)) ?_
  refine WL_q rfl (q_pick_true (lk2 rfl <| lk1 rfl <| lk0) (by first | rfl | decide) (lk0)) ?_
  refine WL_q rfl (q_move (lk0)) ?_
  refine WL_want rfl rfl (lk0) (by first | rfl | decide) ?_
  refine WL_q rfl (q_move (lk32 rfl <| lk32 rfl <| lk32 rfl <| lk16 rfl <| lk2 rfl <| lk0)) ?_
  refine WL_want rfl rfl (lk1 rfl <| lk0) (by first | rfl | decide) ?_
  refine WL_q rfl (q_eql (lk0) lk_const) ?_
  refine WL_q rfl (q_pick_true (lk2 rfl <| lk0) (by first | rfl | decide) (lk0)) ?_
  refine WL_q rfl (q_move (lk0)) ?_
  refine WL_want rfl rfl (lk0) (by first | rfl | decide) ?_
  refine WL_q rfl (q_move (lk32 rfl <| lk32 rfl <| lk32 rfl <| lk8 rfl <| lk4 rfl <| lk1 rfl <| lk0)) ?_
  refine WL_want rfl rfl (lk1 rfl <| lk0) (by first | rfl | decide) ?_
  refine WL_c rfl (q_call bd_46 lk_func (.cons lk_const (.cons lk_const .nil)) (span_ok _ _) (fun _ _ h => h)) ?_
  refine WL_want rfl rfl (lk2 rfl <| lk0) (by first | rfl | decide) ?_
  refine WL_c rfl (q_call bd_46 lk_func (.cons lk_const (.cons lk_const .nil)) (span_ok _ _) (fun _ _ h => h)) ?_
  refine WL_want rfl rfl (lk2 rfl <| lk1 rfl <| lk0) (by first | rfl | decide) ?_
  refine WL_c rfl (q_call bd_46 lk_func (.cons lk_const (.cons lk_const .nil)) (span_ok _ _) (fun _ _ h => h)) ?_
  refine WL_want rfl rfl (lk4 rfl <| lk0) (by first | rfl | decide) ?_
  refine WL_x rfl (x_buildN (offs := [(0, 2), (2, 2), (4, 2)]) (zl := [.int .i64 0, .int .i64 0, .int .i64 0, .int .i64 0, .int .i64 0, .int .i64 0]) sl_42 zr_60 rfl (.cons (lk2 rfl <| lk0) rfl (.cons (lk1 rfl <| lk0) rfl (.cons (lk0) rfl .nil))) (by intro i p h; rcases i with _ | _ | _ | i <;> simp at h <;> subst h <;> rfl) (.cons rfl rfl (Nat.le_of_ble_eq_true rfl) (.cons (.here) (.cons (.next <| .here) .nil)) (.cons rfl rfl (Nat.le_of_ble_eq_true rfl) (.cons (.next <| .next <| .here) (.cons (.next <| .next <| .next <| .here) .nil)) (.cons rfl rfl (Nat.le_of_ble_eq_true rfl) (.cons (.next <| .next <| .next <| .next <| .here) (.cons (.next <| .next <| .next <| .next <| .next <| .here) .nil)) .nil))) (by decide) (by decide) fun b74 hb74 nb74 => ?_)
  refine WL_freeze (i := 0) rfl hb74 .here fun F75 hF76 hz77 => ?_
  replace hrm := hrm.mono hF76
  replace hsl10 := hsl10.mono hF76
  replace hsl15 := hsl15.mono hF76
  replace hsl20 := hsl20.mono hF76
  replace hq1 := hq1.mono hF76
  replace hsl29 := hsl29.mono hF76
  replace hsl34 := hsl34.mono hF76
  replace hq2 := hq2.mono hF76
  replace hq3 := hq3.mono hF76
  replace hq4 := hq4.mono hF76
  replace hsl51 := hsl51.mono hF76
  replace hq5 := hq5.mono hF76
  replace hsl60 := hsl60.mono hF76
  replace hq6 := hq6.mono hF76
  replace hrm1 := hrm1.mono hF76
  replace hsl73 := hsl73.mono hF76
  have hsl78 := spans_box3 hz77
  refine WL_want rfl rfl (lk4 rfl <| lk1 rfl <| lk0) (by first | rfl | decide) ?_
  refine WL_c rfl (q_call bd_27 lk_func (.cons (lk4 rfl <| lk0) (.cons (lk0) .nil)) (refSpans_ok hq2 hsl78) (fun _ _ h => h)) ?_
  refine WL_q rfl (q_pick_true (lk4 rfl <| lk2 rfl <| lk0) (by first | rfl | decide) (lk0)) ?_
  refine WL_q rfl (q_move (lk0)) ?_
  refine WL_want rfl rfl (lk0) (by first | rfl | decide) ?_
  refine WL_q rfl (q_move (lk32 rfl <| lk32 rfl <| lk32 rfl <| lk8 rfl <| lk4 rfl <| lk2 rfl <| lk0)) ?_
  refine WL_want rfl rfl (lk1 rfl <| lk0) (by first | rfl | decide) ?_
  refine WL_x rfl (x_build sl_29 zr_3 rfl (.cons lk_const (.cons lk_const .nil)) rfl rfl (by decide) (by simp [Value.oneCell']) fun b79 hb79 nb79 => ?_)
  refine WL_freeze (i := 0) rfl hb79 .here fun F80 hF81 hz82 => ?_
  replace hrm := hrm.mono hF81
  replace hsl10 := hsl10.mono hF81
  replace hsl15 := hsl15.mono hF81
  replace hsl20 := hsl20.mono hF81
  replace hq1 := hq1.mono hF81
  replace hsl29 := hsl29.mono hF81
  replace hsl34 := hsl34.mono hF81
  replace hq2 := hq2.mono hF81
  replace hq3 := hq3.mono hF81
  replace hq4 := hq4.mono hF81
  replace hsl51 := hsl51.mono hF81
  replace hq5 := hq5.mono hF81
  replace hsl60 := hsl60.mono hF81
  replace hq6 := hq6.mono hF81
  replace hrm1 := hrm1.mono hF81
  replace hsl73 := hsl73.mono hF81
  replace hsl78 := hsl78.mono hF81
  have hsl83 := ints_box2 hz82
  refine WL_want rfl rfl (lk2 rfl <| lk0) (by first | rfl | decide) ?_
  refine WL_c rfl (q_call bd_24 lk_func (.cons (lk1 rfl <| lk0) (.cons (lk0) .nil)) (refInts_ok (Nats.ints hq3) hsl83) (fun _ _ h => h)) ?_
  refine WL_q rfl (q_pick_true (lk2 rfl <| lk1 rfl <| lk0) (by first | rfl | decide) (lk0)) ?_
  refine WL_q rfl (q_move (lk0)) ?_
  refine WL_want rfl rfl (lk0) (by first | rfl | decide) ?_
  refine WL_q rfl (q_move (lk32 rfl <| lk32 rfl <| lk32 rfl <| lk8 rfl <| lk2 rfl <| lk1 rfl <| lk0)) ?_
  refine WL_want rfl rfl (lk1 rfl <| lk0) (by first | rfl | decide) ?_
  refine WL_x rfl (x_build sl_29 zr_3 rfl (.cons lk_const (.cons lk_const .nil)) rfl rfl (by decide) (by simp [Value.oneCell']) fun b84 hb84 nb84 => ?_)
  refine WL_freeze (i := 0) rfl hb84 .here fun F85 hF86 hz87 => ?_
  replace hrm := hrm.mono hF86
  replace hsl10 := hsl10.mono hF86
  replace hsl15 := hsl15.mono hF86
  replace hsl20 := hsl20.mono hF86
  replace hq1 := hq1.mono hF86
  replace hsl29 := hsl29.mono hF86
  replace hsl34 := hsl34.mono hF86
  replace hq2 := hq2.mono hF86
  replace hq3 := hq3.mono hF86
  replace hq4 := hq4.mono hF86
  replace hsl51 := hsl51.mono hF86
  replace hq5 := hq5.mono hF86
  replace hsl60 := hsl60.mono hF86
  replace hq6 := hq6.mono hF86
  replace hrm1 := hrm1.mono hF86
  replace hsl73 := hsl73.mono hF86
  replace hsl78 := hsl78.mono hF86
  replace hsl83 := hsl83.mono hF86
  have hsl88 := ints_box2 hz87
  refine WL_want rfl rfl (lk2 rfl <| lk0) (by first | rfl | decide) ?_
  refine WL_c rfl (q_call bd_24 lk_func (.cons (lk1 rfl <| lk0) (.cons (lk0) .nil)) (refInts_ok (Nats.ints hq4) hsl88) (fun _ _ h => h)) ?_
  refine WL_q rfl (q_pick_true (lk2 rfl <| lk1 rfl <| lk0) (by first | rfl | decide) (lk0)) ?_
  refine WL_q rfl (q_move (lk0)) ?_
  refine WL_want rfl rfl (lk0) (by first | rfl | decide) ?_
  refine WL_q rfl (q_move (lk32 rfl <| lk32 rfl <| lk32 rfl <| lk8 rfl <| lk4 rfl <| lk2 rfl <| lk1 rfl <| lk0)) ?_
  refine WL_want rfl rfl (lk1 rfl <| lk0) (by first | rfl | decide) ?_
  refine WL_q rfl (q_eql (lk0) lk_const) ?_
  refine WL_q rfl (q_pick_true (lk2 rfl <| lk0) (by first | rfl | decide) (lk0)) ?_
  refine WL_q rfl (q_move (lk0)) ?_
  refine WL_want rfl rfl (lk0) (by first | rfl | decide) ?_
  refine WL_q rfl (q_move (lk32 rfl <| lk32 rfl <| lk32 rfl <| lk8 rfl <| lk2 rfl <| lk1 rfl <| lk0)) ?_
  refine WL_want rfl rfl (lk1 rfl <| lk0) (by first | rfl | decide) ?_
  refine WL_x rfl (x_build sl_29 zr_3 rfl (.cons lk_const (.cons lk_const .nil)) rfl rfl (by decide) (by simp [Value.oneCell']) fun b89 hb89 nb89 => ?_)
  refine WL_freeze (i := 0) rfl hb89 .here fun F90 hF91 hz92 => ?_
  replace hrm := hrm.mono hF91
  replace hsl10 := hsl10.mono hF91
  replace hsl15 := hsl15.mono hF91
  replace hsl20 := hsl20.mono hF91
  replace hq1 := hq1.mono hF91
  replace hsl29 := hsl29.mono hF91
  replace hsl34 := hsl34.mono hF91
  replace hq2 := hq2.mono hF91
  replace hq3 := hq3.mono hF91
  replace hq4 := hq4.mono hF91
  replace hsl51 := hsl51.mono hF91
  replace hq5 := hq5.mono hF91
  replace hsl60 := hsl60.mono hF91
  replace hq6 := hq6.mono hF91
  replace hrm1 := hrm1.mono hF91
  replace hsl73 := hsl73.mono hF91
  replace hsl78 := hsl78.mono hF91
  replace hsl83 := hsl83.mono hF91
  replace hsl88 := hsl88.mono hF91
  have hsl93 := ints_box2 hz92
  refine WL_want rfl rfl (lk2 rfl <| lk0) (by first | rfl | decide) ?_
  refine WL_c rfl (q_call bd_24 lk_func (.cons (lk1 rfl <| lk0) (.cons (lk0) .nil)) (refInts_ok (Nats.ints hq5) hsl93) (fun _ _ h => h)) ?_
  refine WL_q rfl (q_pick_true (lk2 rfl <| lk1 rfl <| lk0) (by first | rfl | decide) (lk0)) ?_
  refine WL_q rfl (q_move (lk0)) ?_
  refine WL_want rfl rfl (lk0) (by first | rfl | decide) ?_
  refine WL_q rfl (q_move (lk32 rfl <| lk32 rfl <| lk32 rfl <| lk0)) ?_
  refine WL_want rfl rfl (lk1 rfl <| lk0) (by first | rfl | decide) ?_
  refine WL_q rfl (q_eql (lk0) lk_const) ?_
  refine WL_q rfl (q_pick_true (lk2 rfl <| lk0) (by first | rfl | decide) (lk0)) ?_
  refine WL_q rfl (q_move (lk0)) ?_
  refine WL_want rfl rfl (lk0) (by first | rfl | decide) ?_
  refine WL_q rfl (q_move (lk32 rfl <| lk32 rfl <| lk32 rfl <| lk2 rfl <| lk1 rfl <| lk0)) ?_
  refine WL_want rfl rfl (lk1 rfl <| lk0) (by first | rfl | decide) ?_
  refine WL_q rfl (q_eql (lk0) lk_const) ?_
  refine WL_q rfl (q_pick_true (lk2 rfl <| lk0) (by first | rfl | decide) (lk0)) ?_
  refine WL_q rfl (q_assign (lk0)) ?_
  refine WL_nil ?_
  refine then_n ?_
  refine WC_ret ?_
  refine post_ret rfl (.tmp (lk0) .nil) ?_
  show _ = _
  first | rfl | decide
end Go.Proofs.Ytbcjfkcpfjccdaa
namespace Go.Proofs.Ytbcjfkcpfjccdaa
open Go.RowKit
theorem bd_21 : Body Try.prog 21 := body_of (by kernel_rfl)
end Go.Proofs.Ytbcjfkcpfjccdaa
namespace Go.Proofs.Ytbcjfkcpfjccdaa
open Go.RowKit
theorem bd_29 : Body Try.prog 29 := body_of (by kernel_rfl)
theorem bd_33 : Body Try.prog 33 := body_of (by kernel_rfl)
theorem bd_35 : Body Try.prog 35 := body_of (by kernel_rfl)
theorem refBestL_ok {F : Heap} {vb vr vs vq : Value} {r : Room} (hr : RoomR F vb vr vs vq r) : Ok Try.prog 31 [.agg #[vb, vr, vs, vq]].toArray F fun u F' => ∃ ws, u = .tuple #[ws, .int .i64 (bestE r).2.1, .int .i64 (bestE r).2.2] ∧ Nats F' ws (bestE r).1 := by
  rw [bestE_eq]; exact refBest_ok hr
theorem refGivesL_ok {F : Heap} {vb vr vs vq : Value} {r : Room} (hr : RoomR F vb vr vs vq r) {v : Value} {xs : List Int} (hx : Ints F v xs) (x : Int) : Ok Try.prog 33 [.agg #[vb, vr, vs, vq], v, .int .i64 x].toArray F fun u F' => ∃ ws, u = .tuple #[ws, .int .i64 (givesE r xs x).2] ∧ Nats F' ws (givesE r xs x).1 := by
  rw [givesE_eq]; exact refGives_ok hr hx x
theorem refAskL_ok {F : Heap} {vb vr vs vq : Value} {r : Room} (hr : RoomR F vb vr vs vq r) : Ok Try.prog 35 [.agg #[vb, vr, vs, vq]].toArray F fun u _ => u = trip (askE r) := by
  rw [askE_eq]; exact refAsk_ok hr
set_option maxRecDepth 100000 in
theorem bestLaw_ok {F : Heap} {vb vr vs vq : Value} {r : Room} (hr : RoomR F vb vr vs vq r) {v : Value} {xs : List Int} (hx : Ints F v xs) (x : Int) : Ok Try.prog 5 [.agg #[vb, vr, vs, vq], v, .int .i64 x].toArray F fun u _ => u = .bool true := by
  refine Ok.intro Try.func5 rfl Try.ntmps5 rfl fun w0 => ?_
  refine WC_seq ?_
  refine WC_reg fun ds => ?_
  refine WL_x rfl (x_box (lk_entry rfl) rfl fun b1 hb1 nb1 => ?_)
  refine WL_q rfl (q_assign lk_const) ?_
  refine WL_nil ?_
  refine then_n ?_
  refine WC_seq ?_
  refine WC_reg fun ds => ?_
  refine WL_q rfl (q_loadN agg_27 (lk1 rfl <| lk0) rfl rfl (own_whole 0 rfl)) ?_
  refine WL_x rfl (x_call bd_28 lk_func (.cons (lk0) .nil) (turn_top_ok hr) fun v2 F3 hr4 hF5 => ?_)
  replace hr := hr.mono hF5
  replace hx := hx.mono hF5
  obtain ⟨ws1, rfl, hq1⟩ := hr4
  refine WL_q rfl (q_move (lk0)) ?_
  refine WL_q rfl (q_extract (lk0) rfl) ?_
  refine WL_q rfl (q_extract (lk1 rfl <| lk0) rfl) ?_
  refine WL_q rfl (q_assign (lk1 rfl <| lk0)) ?_
  refine WL_q rfl (q_assign (lk1 rfl <| lk0)) ?_
  refine WL_nil ?_
  refine then_n ?_
  refine WC_seq ?_
  refine WC_reg fun ds => ?_
  refine WL_q rfl (q_loadN agg_27 (lk8 rfl <| lk0) rfl rfl (own_whole 0 rfl)) ?_
  refine WL_x rfl (x_call bd_29 lk_func (.cons (lk0) .nil) (refTurn_ok hr) fun v6 F7 hr8 hF9 => ?_)
  replace hr := hr.mono hF9
  replace hx := hx.mono hF9
  replace hq1 := hq1.mono hF9
  obtain ⟨ws2, rfl, hq2⟩ := hr8
  refine WL_q rfl (q_move (lk0)) ?_
  refine WL_q rfl (q_extract (lk0) rfl) ?_
  refine WL_q rfl (q_extract (lk1 rfl <| lk0) rfl) ?_
  refine WL_q rfl (q_assign (lk1 rfl <| lk0)) ?_
  refine WL_q rfl (q_assign (lk1 rfl <| lk0)) ?_
  refine WL_nil ?_
  refine then_n ?_
  refine WC_seq ?_
  refine WC_seq ?_
  refine WC_reg fun ds => ?_
  refine WL_q rfl (q_move (lk8 rfl <| lk0)) ?_
  refine WL_q rfl (q_move (lk2 rfl <| lk0)) ?_
  refine WL_c rfl (q_call bd_24 lk_func (.cons (lk1 rfl <| lk0) (.cons (lk0) .nil)) (refInts_ok (Nats.ints hq1) (Nats.ints hq2)) (fun _ _ h => h)) ?_
  refine WL_q rfl (q_not (lk0)) ?_
  refine WL_q rfl (q_move (lk0)) ?_
  refine WL_want rfl rfl (lk0) (by simp) ?_
  refine WL_q rfl (q_move (lk8 rfl <| lk4 rfl <| lk0)) ?_
  refine WL_want rfl rfl (lk1 rfl <| lk0) (by simp) ?_
  refine WL_q rfl (q_move (lk4 rfl <| lk2 rfl <| lk0)) ?_
  refine WL_want rfl rfl (lk2 rfl <| lk0) (by simp) ?_
  refine WL_q rfl (q_neq (lk1 rfl <| lk0) (lk0)) ?_
  refine WL_q rfl (q_pick_false (lk2 rfl <| lk1 rfl <| lk0) (by simp) (lk0)) ?_
  refine WL_nil ?_
  refine then_n ?_
  refine WC_if_false (lk0) (by simp) ?_
  refine WC_skip ?_
  refine then_n ?_
  refine WC_seq ?_
  refine WC_reg fun ds => ?_
  refine WL_q rfl (q_loadN agg_27 (lk16 rfl <| lk8 rfl <| lk0) rfl rfl (own_whole 0 rfl)) ?_
  refine WL_x rfl (x_call bd_30 lk_func (.cons (lk0) .nil) (best_top_ok hr) fun v10 F11 hr12 hF13 => ?_)
  replace hr := hr.mono hF13
  replace hx := hx.mono hF13
  replace hq1 := hq1.mono hF13
  replace hq2 := hq2.mono hF13
  obtain ⟨ws3, rfl, hq3⟩ := hr12
  refine WL_q rfl (q_move (lk0)) ?_
  refine WL_q rfl (q_extract (lk0) rfl) ?_
  refine WL_q rfl (q_extract (lk1 rfl <| lk0) rfl) ?_
  refine WL_q rfl (q_extract (lk2 rfl <| lk0) rfl) ?_
  refine WL_q rfl (q_assign (lk2 rfl <| lk0)) ?_
  refine WL_q rfl (q_assign (lk2 rfl <| lk0)) ?_
  refine WL_q rfl (q_assign (lk2 rfl <| lk0)) ?_
  refine WL_nil ?_
  refine then_n ?_
  refine WC_seq ?_
  refine WC_reg fun ds => ?_
  refine WL_q rfl (q_loadN agg_27 (lk32 rfl <| lk1 rfl <| lk0) rfl rfl (own_whole 0 rfl)) ?_
  refine WL_x rfl (x_call bd_31 lk_func (.cons (lk0) .nil) (refBestL_ok hr) fun v14 F15 hr16 hF17 => ?_)
  replace hr := hr.mono hF17
  replace hx := hx.mono hF17
  replace hq1 := hq1.mono hF17
  replace hq2 := hq2.mono hF17
  replace hq3 := hq3.mono hF17
  obtain ⟨ws4, rfl, hq4⟩ := hr16
  refine WL_q rfl (q_move (lk0)) ?_
  refine WL_q rfl (q_extract (lk0) rfl) ?_
  refine WL_q rfl (q_extract (lk1 rfl <| lk0) rfl) ?_
  refine WL_q rfl (q_extract (lk2 rfl <| lk0) rfl) ?_
  refine WL_q rfl (q_assign (lk2 rfl <| lk0)) ?_
  refine WL_q rfl (q_assign (lk2 rfl <| lk0)) ?_
  refine WL_q rfl (q_assign (lk2 rfl <| lk0)) ?_
  refine WL_nil ?_
  refine then_n ?_
  refine WC_seq ?_
  refine WC_seq ?_
  refine WC_reg fun ds => ?_
  refine WL_q rfl (q_move (lk8 rfl <| lk2 rfl <| lk1 rfl <| lk0)) ?_
  refine WL_q rfl (q_move (lk2 rfl <| lk1 rfl <| lk0)) ?_
  refine WL_c rfl (q_call bd_24 lk_func (.cons (lk1 rfl <| lk0) (.cons (lk0) .nil)) (refInts_ok (Nats.ints hq3) (Nats.ints hq4)) (fun _ _ h => h)) ?_
  refine WL_q rfl (q_not (lk0)) ?_
  refine WL_q rfl (q_move (lk0)) ?_
  refine WL_want rfl rfl (lk0) (by simp) ?_
  refine WL_q rfl (q_move (lk8 rfl <| lk4 rfl <| lk2 rfl <| lk1 rfl <| lk0)) ?_
  refine WL_want rfl rfl (lk1 rfl <| lk0) (by simp) ?_
  refine WL_q rfl (q_move (lk4 rfl <| lk2 rfl <| lk1 rfl <| lk0)) ?_
  refine WL_want rfl rfl (lk2 rfl <| lk0) (by simp) ?_
  refine WL_q rfl (q_neq (lk1 rfl <| lk0) (lk0)) ?_
  refine WL_q rfl (q_pick_false (lk2 rfl <| lk1 rfl <| lk0) (by simp) (lk0)) ?_
  refine WL_q rfl (q_move (lk0)) ?_
  refine WL_want rfl rfl (lk0) (by simp) ?_
  refine WL_q rfl (q_move (lk16 rfl <| lk2 rfl <| lk1 rfl <| lk0)) ?_
  refine WL_want rfl rfl (lk1 rfl <| lk0) (by simp) ?_
  refine WL_q rfl (q_move (lk8 rfl <| lk2 rfl <| lk1 rfl <| lk0)) ?_
  refine WL_want rfl rfl (lk2 rfl <| lk0) (by simp) ?_
  refine WL_q rfl (q_neq (lk1 rfl <| lk0) (lk0)) ?_
  refine WL_q rfl (q_pick_false (lk2 rfl <| lk1 rfl <| lk0) (by simp) (lk0)) ?_
  refine WL_nil ?_
  refine then_n ?_
  refine WC_if_false (lk0) (by simp) ?_
  refine WC_skip ?_
  refine then_n ?_
  refine WC_seq ?_
  refine WC_reg fun ds => ?_
  refine WL_q rfl (q_loadN agg_27 (lk32 rfl <| lk16 rfl <| lk8 rfl <| lk0) rfl rfl (own_whole 0 rfl)) ?_
  refine WL_q rfl (q_move (lk32 rfl <| lk16 rfl <| lk8 rfl <| lk2 rfl <| lk_entry rfl)) ?_
  refine WL_q rfl (q_move (lk32 rfl <| lk16 rfl <| lk8 rfl <| lk2 rfl <| lk1 rfl <| lk_entry rfl)) ?_
  refine WL_x rfl (x_call bd_32 lk_func (.cons (lk2 rfl <| lk0) (.cons (lk1 rfl <| lk0) (.cons (lk0) .nil))) (gives_top_ok hr hx x) fun v18 F19 hr20 hF21 => ?_)
  replace hr := hr.mono hF21
  replace hx := hx.mono hF21
  replace hq1 := hq1.mono hF21
  replace hq2 := hq2.mono hF21
  replace hq3 := hq3.mono hF21
  replace hq4 := hq4.mono hF21
  obtain ⟨ws5, rfl, hq5⟩ := hr20
  refine WL_q rfl (q_move (lk0)) ?_
  refine WL_q rfl (q_extract (lk0) rfl) ?_
  refine WL_q rfl (q_extract (lk1 rfl <| lk0) rfl) ?_
  refine WL_q rfl (q_assign (lk1 rfl <| lk0)) ?_
  refine WL_q rfl (q_assign (lk1 rfl <| lk0)) ?_
  refine WL_nil ?_
  refine then_n ?_
  refine WC_seq ?_
  refine WC_reg fun ds => ?_
  refine WL_q rfl (q_loadN agg_27 (lk32 rfl <| lk32 rfl <| lk1 rfl <| lk0) rfl rfl (own_whole 0 rfl)) ?_
  refine WL_q rfl (q_move (lk32 rfl <| lk32 rfl <| lk2 rfl <| lk1 rfl <| lk_entry rfl)) ?_
  refine WL_q rfl (q_move (lk32 rfl <| lk32 rfl <| lk4 rfl <| lk_entry rfl)) ?_
  refine WL_x rfl (x_call bd_33 lk_func (.cons (lk2 rfl <| lk0) (.cons (lk1 rfl <| lk0) (.cons (lk0) .nil))) (refGivesL_ok hr hx x) fun v22 F23 hr24 hF25 => ?_)
  replace hr := hr.mono hF25
  replace hx := hx.mono hF25
  replace hq1 := hq1.mono hF25
  replace hq2 := hq2.mono hF25
  replace hq3 := hq3.mono hF25
  replace hq4 := hq4.mono hF25
  replace hq5 := hq5.mono hF25
  obtain ⟨ws6, rfl, hq6⟩ := hr24
  refine WL_q rfl (q_move (lk0)) ?_
  refine WL_q rfl (q_extract (lk0) rfl) ?_
  refine WL_q rfl (q_extract (lk1 rfl <| lk0) rfl) ?_
  refine WL_q rfl (q_assign (lk1 rfl <| lk0)) ?_
  refine WL_q rfl (q_assign (lk1 rfl <| lk0)) ?_
  refine WL_nil ?_
  refine then_n ?_
  refine WC_seq ?_
  refine WC_seq ?_
  refine WC_reg fun ds => ?_
  refine WL_q rfl (q_move (lk8 rfl <| lk2 rfl <| lk0)) ?_
  refine WL_q rfl (q_move (lk2 rfl <| lk0)) ?_
  refine WL_c rfl (q_call bd_24 lk_func (.cons (lk1 rfl <| lk0) (.cons (lk0) .nil)) (refInts_ok (Nats.ints hq5) (Nats.ints hq6)) (fun _ _ h => h)) ?_
  refine WL_q rfl (q_not (lk0)) ?_
  refine WL_q rfl (q_move (lk0)) ?_
  refine WL_want rfl rfl (lk0) (by simp) ?_
  refine WL_q rfl (q_move (lk8 rfl <| lk4 rfl <| lk2 rfl <| lk0)) ?_
  refine WL_want rfl rfl (lk1 rfl <| lk0) (by simp) ?_
  refine WL_q rfl (q_move (lk4 rfl <| lk2 rfl <| lk0)) ?_
  refine WL_want rfl rfl (lk2 rfl <| lk0) (by simp) ?_
  refine WL_q rfl (q_neq (lk1 rfl <| lk0) (lk0)) ?_
  refine WL_q rfl (q_pick_false (lk2 rfl <| lk1 rfl <| lk0) (by simp) (lk0)) ?_
  refine WL_nil ?_
  refine then_n ?_
  refine WC_if_false (lk0) (by simp) ?_
  refine WC_skip ?_
  refine then_n ?_
  refine WC_seq ?_
  refine WC_reg fun ds => ?_
  refine WL_q rfl (q_loadN agg_27 (lk32 rfl <| lk32 rfl <| lk16 rfl <| lk2 rfl <| lk1 rfl <| lk0) rfl rfl (own_whole 0 rfl)) ?_
  refine WL_c rfl (q_call bd_34 lk_func (.cons (lk0) .nil) (ask_top_ok hr) (fun _ _ h => h.trans (show trip (askE r) = .tuple #[.int .i64 (askE r).1, .int .i64 (askE r).2.1, .int .i64 (askE r).2.2] from rfl))) ?_
  refine WL_q rfl (q_move (lk0)) ?_
  refine WL_q rfl (q_extract (lk0) rfl) ?_
  refine WL_q rfl (q_extract (lk1 rfl <| lk0) rfl) ?_
  refine WL_q rfl (q_extract (lk2 rfl <| lk0) rfl) ?_
  refine WL_q rfl (q_assign (lk2 rfl <| lk0)) ?_
  refine WL_q rfl (q_assign (lk2 rfl <| lk0)) ?_
  refine WL_q rfl (q_assign (lk2 rfl <| lk0)) ?_
  refine WL_nil ?_
  refine then_n ?_
  refine WC_seq ?_
  refine WC_reg fun ds => ?_
  refine WL_q rfl (q_loadN agg_27 (lk32 rfl <| lk32 rfl <| lk16 rfl <| lk8 rfl <| lk4 rfl <| lk0) rfl rfl (own_whole 0 rfl)) ?_
  refine WL_c rfl (q_call bd_35 lk_func (.cons (lk0) .nil) (refAskL_ok hr) (fun _ _ h => h.trans (show trip (askE r) = .tuple #[.int .i64 (askE r).1, .int .i64 (askE r).2.1, .int .i64 (askE r).2.2] from rfl))) ?_
  refine WL_q rfl (q_move (lk0)) ?_
  refine WL_q rfl (q_extract (lk0) rfl) ?_
  refine WL_q rfl (q_extract (lk1 rfl <| lk0) rfl) ?_
  refine WL_q rfl (q_extract (lk2 rfl <| lk0) rfl) ?_
  refine WL_q rfl (q_assign (lk2 rfl <| lk0)) ?_
  refine WL_q rfl (q_assign (lk2 rfl <| lk0)) ?_
  refine WL_q rfl (q_assign (lk2 rfl <| lk0)) ?_
  refine WL_nil ?_
  refine then_n ?_
  refine WC_seq ?_
  refine WC_reg fun ds => ?_
  refine WL_q rfl (q_move (lk8 rfl <| lk2 rfl <| lk1 rfl <| lk0)) ?_
  refine WL_q rfl (q_move (lk2 rfl <| lk1 rfl <| lk0)) ?_
  refine WL_q rfl (q_eql (lk1 rfl <| lk0) (lk0)) ?_
  refine WL_q rfl (q_move (lk0)) ?_
  refine WL_want rfl rfl (lk0) (by simp) ?_
  refine WL_q rfl (q_move (lk8 rfl <| lk4 rfl <| lk2 rfl <| lk0)) ?_
  refine WL_want rfl rfl (lk1 rfl <| lk0) (by simp) ?_
  refine WL_q rfl (q_move (lk4 rfl <| lk2 rfl <| lk0)) ?_
  refine WL_want rfl rfl (lk2 rfl <| lk0) (by simp) ?_
  refine WL_q rfl (q_eql (lk1 rfl <| lk0) (lk0)) ?_
  refine WL_q rfl (q_pick_true (lk2 rfl <| lk1 rfl <| lk0) (by simp) (lk0)) ?_
  refine WL_q rfl (q_move (lk0)) ?_
  refine WL_want rfl rfl (lk0) (by simp) ?_
  refine WL_q rfl (q_move (lk16 rfl <| lk2 rfl <| lk0)) ?_
  refine WL_want rfl rfl (lk1 rfl <| lk0) (by simp) ?_
  refine WL_q rfl (q_move (lk8 rfl <| lk2 rfl <| lk0)) ?_
  refine WL_want rfl rfl (lk2 rfl <| lk0) (by simp) ?_
  refine WL_q rfl (q_eql (lk1 rfl <| lk0) (lk0)) ?_
  refine WL_q rfl (q_pick_true (lk2 rfl <| lk1 rfl <| lk0) (by simp) (lk0)) ?_
  refine WL_q rfl (q_move (lk0)) ?_
  refine WL_want rfl rfl (lk0) (by simp) ?_
  refine WL_c rfl (q_call bd_21 lk_func .nil awake_ok (fun _ _ h => h)) ?_
  refine WL_q rfl (q_pick_true (lk1 rfl <| lk0) (by simp) (lk0)) ?_
  refine WL_q rfl (q_assign (lk0)) ?_
  refine WL_nil ?_
  refine then_n ?_
  refine WC_ret ?_
  refine post_ret rfl (.tmp (lk0) .nil) ?_
  rfl
end Go.Proofs.Ytbcjfkcpfjccdaa
namespace Go.Proofs.Ytbcjfkcpfjccdaa
open Go.ChangeShapes Go.WideShapes Go.ChangeAt Go.RowKit
set_option maxRecDepth 100000 in
theorem readerBestLifted (os : Os) (started : os.Started) (H : Type) (enc : TypeId × Value → H) :
    ReturnsInHanded {} Try.checked os 5 .any (Rows.readerBestSpec.pre6 enc Try.prog Try.f5 Rows.readerBestRow.domain false) (Rows.readerBestSpec.post enc Try.prog Try.f5 false true false false) := by
  refine returnsInHanded_of_change_sized (C := Try.checked) ownKnob0 started (by kernel_rfl) Try.func5
    (ChangeSpec.witness6 (enc := enc) (C := Try.checked) false ⟨#[], #[.agg #[.slice none 0 0, .slice none 0 0, .slice none 0 0, .slice none 0 0], .slice none 0 0, .int .i64 0], []⟩ 8 (by kernel_rfl) (by kernel_rfl) (by kernel_rfl) (by kernel_rfl)) ?_
  intro W base args ds gs before hval0 hW hcnd hsz _
  have hval : ∀ (j : Nat) t v, Try.f5.params[j]? = some t → args[j]? = some v → Value.okWide Try.prog W .any base t v := hval0
  have hW' := hW
  obtain ⟨p, q, hA0, hV, rfl, hfz, hnd⟩ := hW
  have hA : DataW.TrodAll enc Try.prog W 0 (fun _ => true) true Try.f5.params.toList args.toList ds p := hA0
  rw [Try.params5] at hA hval
  obtain ⟨v0, vs0, d0, ds0, p0, q0, hargs, rfl, rfl, h0, r0⟩ := trodAll_cons hA
  obtain ⟨v1, vs1, d1, ds1, p1, q1, rfl, rfl, rfl, h1, r1⟩ := trodAll_cons r0
  obtain ⟨v2, vs2, d2, ds2, p2, q2, rfl, rfl, rfl, h2, r2⟩ := trodAll_cons r1
  obtain ⟨rfl, rfl, rfl⟩ := trodAll_nil r2
  obtain rfl : args = #[v0, v1, v2] := by cases args; simp_all
  obtain ⟨rfl, rfl⟩ := trodVars_none hV
  have hsz' : (DataW.weightsEach Try.prog (Try.f5.params.toList ++ []) ([d0, d1, d2] ++ [])).all (· ≤ reachBytes) = true := hsz
  rw [Try.params5] at hsz'
  have k0 := h0
  have lt0 : ∀ x ∈ p0, x.block < W.heap.size := by obtain ⟨m, hm⟩ := k0; exact DataW.trod_lt m _ _ _ hm
  have k1 := h1
  have lt1 : ∀ x ∈ p1, x.block < W.heap.size := by obtain ⟨m, hm⟩ := k1; exact DataW.trod_lt m _ _ _ hm
  have k2 := h2
  have lt2 : ∀ x ∈ p2, x.block < W.heap.size := by obtain ⟨m, hm⟩ := k2; exact DataW.trod_lt m _ _ _ hm
  obtain ⟨vb, vr, vs, vq, r, rfl, hr, hrw⟩ := arg_room (hval 0 27 v0 rfl rfl) h0 (weights_at hsz' (j := 0) rfl rfl)
  obtain ⟨xs, hx, wxs⟩ := arg_ints (hval 1 29 v1 rfl rfl) h1 (weights_at hsz' (j := 1) rfl rfl)
  obtain ⟨x, rfl, wx⟩ := arg_int Try.underlying3 (hval 2 3 v2 rfl rfl) h2 (weights_at hsz' (j := 2) rfl rfl)
  clear hA0 hval0
  refine (Ok.law (bestLaw_ok hr hx x)).mono fun e W' ⟨he, bel⟩ => ?_
  subst he
  exact ⟨_, rfl, _, _, _, [], _, [], hW', trodAll_mk1 (shut_bool Try.underlying4 _), (trodAll_cons_mk (Below.trod laidOut (by kernel_rfl) (of_decide_eq_true (by kernel_rfl)) k0 bel lt0) (trodAll_cons_mk (Below.trod laidOut (by kernel_rfl) (of_decide_eq_true (by kernel_rfl)) k1 bel lt1) (trodAll_cons_mk (Below.trod laidOut (by kernel_rfl) (of_decide_eq_true (by kernel_rfl)) k2 bel lt2) trodAll_mk0))), rfl, bel.frame _, fun h => by cases h⟩
theorem readerBest : Rows.ReaderBestSaid :=
  OpenClaim.holds_of_wide 5 Try.f5 rfl rfl rfl rfl rfl rfl rfl ⟨rfl, rfl, rfl, rfl, rfl⟩ rfl rfl rfl rfl rfl (by kernel_rfl) Try.func5 (by kernel_rfl)
    (of_decide_eq_true (by kernel_rfl)) (by unfold Func.isWrapper; first | (rw [if_pos (by decide +kernel)]; kernel_rfl) | (rw [if_neg (by decide +kernel)]; exact ⟨rfl, rfl⟩))
    (fun os started H enc _ => readerBestLifted os started H enc)
#print axioms readerBest
end Go.Proofs.Ytbcjfkcpfjccdaa
