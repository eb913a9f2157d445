/-
  ReaderLight returns true of any room, bits and numbers, and leaves what it is handed as it was. No conditions.
-/
import Derived.Test.YtbcjfkcpfjccdaaPae
namespace Go.Proofs.Ytbcjfkcpfjccdaa
open Go.RowKit
theorem bd_40 : Body Try.prog 40 := body_of (by kernel_rfl)
theorem one_67 : OneT Try.prog 67 := oneT_of (by kernel_rfl)
theorem sl_53 : SliceT Try.prog 53 67 1 := sliceT_of (by kernel_rfl)
theorem seatsV_ok {F : Heap} {vb vr vs vq : Value} {r : Room} (hr : RoomR F vb vr vs vq r) {v : Value} {xs : List Int} (hx : Ints F v xs) {ls : List Nat} {n c : Int} (hg : seatsE r xs = (ls, n, c)) : Ok Try.prog 22 [.agg #[vb, vr, vs, vq], v].toArray F fun u F' => ∃ ws, u = .tuple #[ws, .int .i64 n, .int .i64 c] ∧ Nats F' ws ls := by
  have := seats_top_ok hr hx
  rw [hg] at this; exact this
theorem leftV_ok {F : Heap} {vb vr vs vq : Value} {r : Room} (hr : RoomR F vb vr vs vq r) {v : Value} {xs : List Int} (hx : Ints F v xs) {v2 : Value} {ss : List Int} (hs : Ints F v2 ss) {ls : List (Int × Int)} {c : Int} (hg : leftE r xs ss = (ls, c)) : Ok Try.prog 25 [.agg #[vb, vr, vs, vq], v, v2].toArray F fun u F' => ∃ ws, u = .tuple #[ws, .int .i64 c] ∧ Sl F' ws 2 spanE ls := by
  have := left_top_ok hr hx hs
  rw [hg] at this; exact this
set_option maxRecDepth 100000 in
theorem lightLaw_ok {F : Heap} {vb vr vs vq : Value} {r : Room} (hr : RoomR F vb vr vs vq r) {bits : Nat} {vy : Value} {ys : List Nat} (hy : Sl F vy 1 u16E ys) (hy16 : ∀ x ∈ ys, x < 65536) : Ok Try.prog 7 [.agg #[vb, vr, vs, vq], .int .u8 (bits : Int), vy].toArray F fun u _ => u = .bool true := by
  refine Ok.intro Try.func7 rfl Try.ntmps7 rfl fun w0 => ?_
  by_cases h0 : (check r).2.2 = 0
  ·
   have hv := valid_of h0
   have hE := chosen_err h0 (bits := bits)
   have hn8 := asc_length hv (chosen_lt (bits := bits)) chosen_asc
   have hL1 := hr.books.plain.lt
   have hb8 := hv.nb
   have hs6 := hv.ns
   rcases hal : allR r (chosenL r bits) with _ | ⟨s, n⟩
   ·
    refine WC_seq ?_
    refine WC_reg fun ds => ?_
    refine WL_x rfl (x_box (lk_entry rfl) rfl fun b1 hb1 nb1 => ?_)
    refine WL_q rfl (q_assign lk_const) ?_
    refine WL_nil ?_
    refine then_n ?_
    refine WC_seq ?_
    refine WC_seq ?_
    refine WC_reg fun ds => ?_
    refine WL_q rfl (q_loadN agg_27 (lk1 rfl <| lk0) rfl rfl (own_whole 0 rfl)) ?_
    refine WL_c rfl (q_call bd_37 lk_func (.cons (lk0) .nil) (valid_ok hr) (fun _ _ h => h)) ?_
    refine WL_q rfl (q_not (lk0)) ?_
    refine WL_nil ?_
    refine then_n ?_
    refine WC_if_false (lk0) (by simp [h0]) ?_
    refine WC_skip ?_
    refine then_n ?_
    refine WC_seq ?_
    refine WC_reg fun ds => ?_
    refine WL_q rfl (q_loadN agg_27 (lk4 rfl <| lk0) rfl rfl (own_whole 0 rfl)) ?_
    refine WL_q rfl (q_move (lk4 rfl <| lk2 rfl <| lk_entry rfl)) ?_
    refine WL_x rfl (x_call bd_38 lk_func (.cons (lk1 rfl <| lk0) (.cons (lk0) .nil)) (chosen_ok hr) fun v2 F3 hr4 hF5 => ?_)
    replace hr := hr.mono hF5
    replace hy := hy.mono hF5
    have hl := hr4
    refine WL_q rfl (q_assign (lk0)) ?_
    refine WL_nil ?_
    refine then_n ?_
    refine WC_seq ?_
    refine WC_reg fun ds => ?_
    refine WL_q rfl (q_loadN agg_27 (lk8 rfl <| lk0) rfl rfl (own_whole 0 rfl)) ?_
    refine WL_q rfl (q_move (lk1 rfl <| lk0)) ?_
    refine WL_x rfl (x_call bd_22 lk_func (.cons (lk1 rfl <| lk0) (.cons (lk0) .nil)) (seatsV_ok hr (Nats.ints hl) (seatsE_none hE hal)) fun v6 F7 hr8 hF9 => ?_)
    replace hr := hr.mono hF9
    replace hy := hy.mono hF9
    replace hl := hl.mono hF9
    obtain ⟨ws, rfl, hq⟩ := hr8
    refine WL_q rfl (q_move (lk0)) ?_
    refine WL_q rfl (q_extract (lk0) rfl) ?_
    refine WL_q rfl (q_extract (lk1 rfl <| lk0) rfl) ?_
    refine WL_q rfl (q_extract (lk2 rfl <| lk0) rfl) ?_
    refine WL_q rfl (q_assign (lk2 rfl <| lk0)) ?_
    refine WL_q rfl (q_assign (lk2 rfl <| lk0)) ?_
    refine WL_q rfl (q_assign (lk2 rfl <| lk0)) ?_
    refine WL_nil ?_
    refine then_n ?_
    refine WC_seq ?_
    refine WC_seq ?_
    refine WC_reg fun ds => ?_
    refine WL_q rfl (q_move (lk0)) ?_
    refine WL_q rfl (q_neq (lk0) lk_const) ?_
    refine WL_nil ?_
    refine then_n ?_
    refine WC_if_true (lk0) rfl ?_
    refine WC_seq ?_
    refine WC_reg fun ds => ?_
    refine WL_q rfl (q_move (lk2 rfl <| lk0)) ?_
    refine WL_q rfl (q_eql (lk0) lk_const) ?_
    refine WL_q rfl (q_move (lk0)) ?_
    refine WL_want rfl rfl (lk0) rfl ?_
    refine WL_q rfl (q_move (lk4 rfl <| lk2 rfl <| lk1 rfl <| lk0)) ?_
    refine WL_want rfl rfl (lk1 rfl <| lk0) rfl ?_
    refine WL_q rfl (q_lenP sl_29 (lk0) hq.plain) ?_
    refine WL_want rfl rfl (lk2 rfl <| lk0) rfl ?_
    refine WL_q rfl (q_eql (lk0) lk_const) ?_
    refine WL_q rfl (q_pick_true (lk2 rfl <| lk1 rfl <| lk0) rfl (lk0)) ?_
    refine WL_q rfl (q_move (lk0)) ?_
    refine WL_want rfl rfl (lk0) rfl ?_
    refine WL_q rfl (q_move (lk8 rfl <| lk2 rfl <| lk1 rfl <| lk0)) ?_
    refine WL_want rfl rfl (lk1 rfl <| lk0) rfl ?_
    refine WL_q rfl (q_eql (lk0) lk_const) ?_
    refine WL_q rfl (q_pick_true (lk2 rfl <| lk0) rfl (lk0)) ?_
    refine WL_q rfl (q_move (lk0)) ?_
    refine WL_want rfl rfl (lk0) rfl ?_
    refine WL_c rfl (q_call bd_21 lk_func .nil awake_ok (fun _ _ h => h)) ?_
    refine WL_q rfl (q_pick_true (lk1 rfl <| lk0) rfl (lk0)) ?_
    refine WL_q rfl (q_assign (lk0)) ?_
    refine WL_nil ?_
    refine then_n ?_
    refine WC_ret ?_
    refine then_r ?_
    refine post_ret rfl (.tmp (lk0) .nil) ?_
    rfl
   ·
    obtain ⟨hS, hn, hA, hmin⟩ := all_some hal
    obtain ⟨hlen, hput⟩ := put_get.1 hS.1
    have hsit : sitsE r (chosenL r bits) (castL s) = 0 := sitsE_iff.2 ⟨hA, s, rfl, hS⟩
    refine WC_seq ?_
    refine WC_reg fun ds => ?_
    refine WL_x rfl (x_box (lk_entry rfl) rfl fun b10 hb10 nb10 => ?_)
    refine WL_q rfl (q_assign lk_const) ?_
    refine WL_nil ?_
    refine then_n ?_
    refine WC_seq ?_
    refine WC_seq ?_
    refine WC_reg fun ds => ?_
    refine WL_q rfl (q_loadN agg_27 (lk1 rfl <| lk0) rfl rfl (own_whole 0 rfl)) ?_
    refine WL_c rfl (q_call bd_37 lk_func (.cons (lk0) .nil) (valid_ok hr) (fun _ _ h => h)) ?_
    refine WL_q rfl (q_not (lk0)) ?_
    refine WL_nil ?_
    refine then_n ?_
    refine WC_if_false (lk0) (by simp [h0]) ?_
    refine WC_skip ?_
    refine then_n ?_
    refine WC_seq ?_
    refine WC_reg fun ds => ?_
    refine WL_q rfl (q_loadN agg_27 (lk4 rfl <| lk0) rfl rfl (own_whole 0 rfl)) ?_
    refine WL_q rfl (q_move (lk4 rfl <| lk2 rfl <| lk_entry rfl)) ?_
    refine WL_x rfl (x_call bd_38 lk_func (.cons (lk1 rfl <| lk0) (.cons (lk0) .nil)) (chosen_ok hr) fun v11 F12 hr13 hF14 => ?_)
    replace hr := hr.mono hF14
    replace hy := hy.mono hF14
    have hl := hr13
    refine WL_q rfl (q_assign (lk0)) ?_
    refine WL_nil ?_
    refine then_n ?_
    refine WC_seq ?_
    refine WC_reg fun ds => ?_
    refine WL_q rfl (q_loadN agg_27 (lk8 rfl <| lk0) rfl rfl (own_whole 0 rfl)) ?_
    refine WL_q rfl (q_move (lk1 rfl <| lk0)) ?_
    refine WL_x rfl (x_call bd_22 lk_func (.cons (lk1 rfl <| lk0) (.cons (lk0) .nil)) (seatsV_ok hr (Nats.ints hl) (seatsE_some hE hal)) fun v15 F16 hr17 hF18 => ?_)
    replace hr := hr.mono hF18
    replace hy := hy.mono hF18
    replace hl := hl.mono hF18
    obtain ⟨ws, rfl, hq⟩ := hr17
    refine WL_q rfl (q_move (lk0)) ?_
    refine WL_q rfl (q_extract (lk0) rfl) ?_
    refine WL_q rfl (q_extract (lk1 rfl <| lk0) rfl) ?_
    refine WL_q rfl (q_extract (lk2 rfl <| lk0) rfl) ?_
    refine WL_q rfl (q_assign (lk2 rfl <| lk0)) ?_
    refine WL_q rfl (q_assign (lk2 rfl <| lk0)) ?_
    refine WL_q rfl (q_assign (lk2 rfl <| lk0)) ?_
    refine WL_nil ?_
    refine then_n ?_
    refine WC_seq ?_
    refine WC_seq ?_
    refine WC_reg fun ds => ?_
    refine WL_q rfl (q_move (lk0)) ?_
    refine WL_q rfl (q_neq (lk0) lk_const) ?_
    refine WL_nil ?_
    refine then_n ?_
    refine WC_if_false (lk0) rfl ?_
    refine WC_skip ?_
    refine then_n ?_
    refine WC_seq ?_
    refine WC_reg fun ds => ?_
    refine WL_q rfl (q_loadN agg_27 (lk16 rfl <| lk4 rfl <| lk0) rfl rfl (own_whole 0 rfl)) ?_
    refine WL_q rfl (q_move (lk8 rfl <| lk4 rfl <| lk1 rfl <| lk0)) ?_
    refine WL_q rfl (q_move (lk4 rfl <| lk2 rfl <| lk0)) ?_
    refine WL_x rfl (x_call bd_25 lk_func (.cons (lk2 rfl <| lk0) (.cons (lk1 rfl <| lk0) (.cons (lk0) .nil))) (leftV_ok hr (Nats.ints hl) (Nats.ints hq) (leftE_ok hE hsit)) fun v19 F20 hr21 hF22 => ?_)
    replace hr := hr.mono hF22
    replace hy := hy.mono hF22
    replace hl := hl.mono hF22
    replace hq := hq.mono hF22
    obtain ⟨wl, rfl, hlf⟩ := hr21
    change Sl _ _ 2 spanE (leftL r (chosenL r bits) (castL s) (chosenL r bits).length r.books.length) at hlf
    refine WL_q rfl (q_move (lk0)) ?_
    refine WL_q rfl (q_extract (lk0) rfl) ?_
    refine WL_q rfl (q_extract (lk1 rfl <| lk0) rfl) ?_
    refine WL_q rfl (q_assign (lk1 rfl <| lk0)) ?_
    refine WL_q rfl (q_assign (lk1 rfl <| lk0)) ?_
    refine WL_nil ?_
    refine then_n ?_
    refine WC_seq ?_
    refine WC_seq ?_
    refine WC_reg fun ds => ?_
    refine WL_q rfl (q_move (lk8 rfl <| lk4 rfl <| lk1 rfl <| lk0)) ?_
    refine WL_q rfl (q_lenP sl_29 (lk0) hq.plain) ?_
    refine WL_q rfl (q_move (lk16 rfl <| lk4 rfl <| lk2 rfl <| lk1 rfl <| lk0)) ?_
    refine WL_q rfl (q_lenP sl_29 (lk0) hl.plain) ?_
    refine WL_q rfl (q_neq (lk2 rfl <| lk0) (lk0)) ?_
    refine WL_q rfl (q_move (lk0)) ?_
    refine WL_want rfl rfl (lk0) (decide_eq_false (by omega)) ?_
    refine WL_q rfl (q_move (lk4 rfl <| lk2 rfl <| lk0)) ?_
    refine WL_want rfl rfl (lk1 rfl <| lk0) (decide_eq_false (by omega)) ?_
    refine WL_q rfl (q_neq (lk0) lk_const) ?_
    refine WL_q rfl (q_pick_false (lk2 rfl <| lk0) (decide_eq_false (by omega)) (lk0)) ?_
    refine WL_q rfl (q_move (lk0)) ?_
    refine WL_want rfl rfl (lk0) rfl ?_
    refine WL_q rfl (q_move (lk8 rfl <| lk2 rfl <| lk1 rfl <| lk0)) ?_
    refine WL_want rfl rfl (lk1 rfl <| lk0) rfl ?_
    refine WL_q rfl (q_lenP sl_42 (lk0) hlf.plain) ?_
    refine WL_want rfl rfl (lk2 rfl <| lk0) rfl ?_
    refine WL_q rfl (q_fieldAddrB fd_27_0 (lk32 rfl <| lk8 rfl <| lk1 rfl <| lk0)) ?_
    refine WL_want rfl rfl (lk2 rfl <| lk1 rfl <| lk0) rfl ?_
    refine WL_q rfl (q_load1 one_22 (lk0) (Cell.own 0 rfl rfl)) ?_
    refine WL_want rfl rfl (lk4 rfl <| lk0) rfl ?_
    refine WL_q rfl (q_lenP sl_22 (lk0) hr.books.plain) ?_
    refine WL_want rfl rfl (lk4 rfl <| lk1 rfl <| lk0) rfl ?_
    refine WL_q rfl (q_neq (lk2 rfl <| lk1 rfl <| lk0) (lk0)) ?_
    refine WL_q rfl (q_pick_false (lk4 rfl <| lk2 rfl <| lk0) rfl (lk0)) ?_
    refine WL_nil ?_
    refine then_n ?_
    refine WC_if_false (lk0) (by simp [leftL_length]) ?_
    refine WC_skip ?_
    refine then_n ?_
    refine WC_seq ?_
    refine WC_reg fun ds => ?_
    refine WL_q rfl (q_assign lk_const) ?_
    refine WL_nil ?_
    refine then_n ?_
    refine WC_seq ?_
    refine WC_reg fun ds => ?_
    refine WL_q rfl (q_fieldAddrB fd_27_0 (lk32 rfl <| lk8 rfl <| lk4 rfl <| lk2 rfl <| lk1 rfl <| lk0)) ?_
    refine WL_q rfl (q_load1 one_22 (lk0) (Cell.own 0 rfl rfl)) ?_
    refine WL_q rfl (q_lenP sl_22 (lk0) hr.books.plain) ?_
    refine WL_x rfl (x_make (k := r.books.length) sl_29 el_3 rfl rfl (lk0) (lk0) rfl (by omega) (by omega) fun b23 hb23 nb23 => ?_)
    refine WL_q rfl (q_assign (lk0)) ?_
    refine WL_nil ?_
    refine then_n ?_
    refine WC_seq ?_
    refine WC_seq ?_
    refine WC_reg fun ds => ?_
    refine WL_q rfl (q_assign lk_const) ?_
    refine WL_nil ?_
    refine then_n ?_
    refine WC_block ?_
    refine WC_loopN [6, 16, 18, 19, 20, 21, 93, 94, 95, 96, 97, 98, 99, 100, 101, 102, 103, 104, 105, 106, 107, 108, 109, 110, 111, 112, 113, 114, 115, 116, 117, 118, 119, 120, 121, 122, 123, 124, 125, 126, 127, 128, 129, 130, 131, 132, 133, 134, 135, 136, 137, 138, 139, 140, 141, 142, 143, 144, 145, 146, 147, 148, 149, 150, 151, 152, 153, 154, 155, 156, 157, 158, 159, 160, 161, 162, 163, 164, 165, 166, 167, 168, 169, 170, 171, 172, 173, 174, 175, 176, 177, 178, 179, 180, 181, 182, 183, 184, 185, 186, 187, 188, 189, 190, 191, 192, 193, 194, 195, 196, 197, 198, 199, 200, 201, 202, 203, 204, 205, 206, 207, 208, 209, 210, 211, 212, 213, 214, 215, 216, 217, 218, 219, 220, 221, 222, 223, 224] (fun m e σ => ∃ k : Nat, m + k = (chosenL r bits).length ∧ e 18 = .int .i64 (k : Int) ∧ e 16 = .int .i64 (costTo r (chosenL r bits) s k) ∧ σ = ⟨F20, [(b23, bx 3 (rdL r (chosenL r bits) s k)), (b10, bx 27 [vb, vr, vs, vq])]⟩) ((chosenL r bits).length) ?_ ?_
    · exact ⟨0, by omega, (lk0), (lk4 rfl <| lk2 rfl <| lk0), by rw [rdL_zero]⟩
    ·
     rintro m e _ ⟨k, hm, hs18, hs16, rfl⟩
     by_cases hlt : k < (chosenL r bits).length
     ·
      have hk2 : k < s.length := by omega
      have hlk := chosen_lt (bits := bits) _ (List.getElem_mem hlt)
      obtain ⟨hsk, hre⟩ := hput k hlt hk2
      obtain ⟨hr1, hr2, hr3⟩ := reason_zero.1 hre
      obtain ⟨eB, lB⟩ := hv.book hlk
      obtain ⟨eR, lR⟩ := hv.reader hlk
      have hQ := hv.rq _ hlk
      rw [← req_at hlk] at hQ
      have hSt := hv.st _ hsk
      rw [← seat_at hsk] at hSt
      have hmb := hs_bound (h := (r.reqs[(chosenL r bits)[k]]'hlk).hours) (S := (r.seats[s[k]]'hsk).light) (by omega) (by omega) (by omega) (by omega)
      have hcb := costTo_bound hv (chosen_lt (bits := bits)) (put_lt hS.1) k (by omega) (by omega)
      have hu0 := used_zero (ss := castL s) hA hlt k (Nat.le_refl _)
      have hnot : s[k] ∉ s.take k := fun h => by obtain ⟨j, hj, e⟩ := List.getElem_of_mem h; rw [List.length_take] at hj; rw [List.getElem_take] at e; exact (List.pairwise_iff_getElem.1 hS.2.1 j k (by omega) hk2 (by omega)) e
      rw [← bk_at lB, ← rd_at lR] at hr1
      rw [← bk_at lB, ← seat_at hsk] at hr2
      refine WC_seq ?_
      refine WC_seq ?_
      refine WC_reg fun ds => ?_
      refine WL_q rfl (q_move (lk_in rfl hs18)) ?_
      refine WL_q rfl (q_move (lk1 rfl <| lk_off rfl <| lk32 rfl <| lk8 rfl <| lk4 rfl <| lk1 rfl <| lk0)) ?_
      refine WL_q rfl (q_lenP sl_29 (lk0) hl.plain) ?_
      refine WL_q rfl (q_lss (lk2 rfl <| lk0) (lk0)) ?_
      refine WL_nil ?_
      refine then_n ?_
      refine WC_if_true (lk0) (by first | rfl | exact decide_eq_true (by omega)) ?_
      refine WC_skip ?_
      refine then_n ?_
      refine WC_seq ?_
      refine WC_block ?_
      refine WC_seq ?_
      refine WC_seq ?_
      refine WC_draw (.inl rfl) (fun _ _ h => h) (by kernel_rfl) (by kernel_rfl) fun ds => ?_
      refine WQ_q rfl (q_move (lk4 rfl <| lk_off rfl <| lk32 rfl <| lk4 rfl <| lk1 rfl <| lk0)) ?_
      refine WQ_q rfl (q_move (lk4 rfl <| lk1 rfl <| lk_in rfl hs18)) ?_
      refine WQ_q rfl (q_index (k := k) sl_29 (lk1 rfl <| lk0) hq.plain (lk0) rfl hk2) ?_
      refine WQ_q rfl (q_load1 one_3 (lk0) (hq.cell1 hk2 rfl)) ?_
      refine WQ_q rfl (q_lss (lk0) lk_const) ?_
      refine WQ_q rfl (q_move (lk0)) ?_
      refine WQ_want rfl rfl (lk0) (decide_eq_false (by omega)) ?_
      refine WQ_q rfl (q_move (lk8 rfl <| lk2 rfl <| lk_off rfl <| lk32 rfl <| lk4 rfl <| lk1 rfl <| lk0)) ?_
      refine WQ_want rfl rfl (lk1 rfl <| lk0) (decide_eq_false (by omega)) ?_
      refine WQ_q rfl (q_move (lk8 rfl <| lk2 rfl <| lk1 rfl <| lk_in rfl hs18)) ?_
      refine WQ_want rfl rfl (lk2 rfl <| lk0) (decide_eq_false (by omega)) ?_
      refine WQ_q rfl (q_index (k := k) sl_29 (lk1 rfl <| lk0) hq.plain (lk0) rfl hk2) ?_
      refine WQ_want rfl rfl (lk2 rfl <| lk1 rfl <| lk0) (decide_eq_false (by omega)) ?_
      refine WQ_q rfl (q_load1 one_3 (lk0) (hq.cell1 hk2 rfl)) ?_
      refine WQ_want rfl rfl (lk4 rfl <| lk0) (decide_eq_false (by omega)) ?_
      refine WQ_q rfl (q_fieldAddrB fd_27_2 (lk8 rfl <| lk4 rfl <| lk2 rfl <| lk_off rfl <| lk32 rfl <| lk16 rfl <| lk4 rfl <| lk1 rfl <| lk0)) ?_
      refine WQ_want rfl rfl (lk4 rfl <| lk1 rfl <| lk0) (decide_eq_false (by omega)) ?_
      refine WQ_q rfl (q_load1 one_24 (lk0) (Cell.own 1 rfl rfl)) ?_
      refine WQ_want rfl rfl (lk4 rfl <| lk2 rfl <| lk0) (decide_eq_false (by omega)) ?_
      refine WQ_q rfl (q_lenP sl_24 (lk0) hr.seats.plain) ?_
      refine WQ_want rfl rfl (lk4 rfl <| lk2 rfl <| lk1 rfl <| lk0) (decide_eq_false (by omega)) ?_
      refine WQ_q rfl (q_geq (lk2 rfl <| lk1 rfl <| lk0) (lk0)) ?_
      refine WQ_q rfl (q_pick_false (lk8 rfl <| lk0) (decide_eq_false (by omega)) (lk0)) ?_
      refine WQ_q rfl (q_move (lk0)) ?_
      refine WQ_want rfl rfl (lk0) (decide_eq_false (by omega)) ?_
      refine WQ_q rfl (q_move (lk16 rfl <| lk4 rfl <| lk_off rfl <| lk32 rfl <| lk4 rfl <| lk1 rfl <| lk0)) ?_
      refine WQ_want rfl rfl (lk1 rfl <| lk0) (decide_eq_false (by omega)) ?_
      refine WQ_q rfl (q_move (lk16 rfl <| lk4 rfl <| lk1 rfl <| lk_in rfl hs18)) ?_
      refine WQ_want rfl rfl (lk2 rfl <| lk0) (decide_eq_false (by omega)) ?_
      refine WQ_q rfl (q_sliceTo sl_29 (lk1 rfl <| lk0) hq.plain (lk0) (k := k) rfl (by omega)) ?_
      refine WQ_want rfl rfl (lk2 rfl <| lk1 rfl <| lk0) (decide_eq_false (by omega)) ?_
      refine WQ_q rfl (q_move (lk16 rfl <| lk4 rfl <| lk2 rfl <| lk1 rfl <| lk_off rfl <| lk32 rfl <| lk4 rfl <| lk1 rfl <| lk0)) ?_
      refine WQ_want rfl rfl (lk4 rfl <| lk0) (decide_eq_false (by omega)) ?_
      refine WQ_q rfl (q_move (lk16 rfl <| lk8 rfl <| lk_in rfl hs18)) ?_
      refine WQ_want rfl rfl (lk4 rfl <| lk1 rfl <| lk0) (decide_eq_false (by omega)) ?_
      refine WQ_q rfl (q_index (k := k) sl_29 (lk1 rfl <| lk0) hq.plain (lk0) rfl hk2) ?_
      refine WQ_want rfl rfl (lk4 rfl <| lk2 rfl <| lk0) (decide_eq_false (by omega)) ?_
      refine WQ_q rfl (q_load1 one_3 (lk0) (hq.cell1 hk2 rfl)) ?_
      refine WQ_want rfl rfl (lk4 rfl <| lk2 rfl <| lk1 rfl <| lk0) (decide_eq_false (by omega)) ?_
      refine WQ_c rfl (q_call bd_39 lk_func (.cons (lk4 rfl <| lk0) (.cons (lk0) .nil)) (has_nat (hq.to (k := k) (by omega)) s[k]) (fun _ _ h => h)) ?_
      refine WQ_q rfl (q_pick_false (lk8 rfl <| lk0) (decide_eq_false (by omega)) (lk0)) ?_
      refine WQ_nil ?_
      refine then_n ?_
      refine WC_if_false (lk0) (decide_eq_false hnot) ?_
      refine WC_skip ?_
      refine then_n ?_
      refine WC_seq ?_
      refine WC_drawS (.inl rfl) (fun _ _ h => h) (.cons_cons _ <| .cons_cons _ <| .refl _) [9] (by kernel_rfl) fun ds => ?_
      refine WX_take 0 rfl (by kernel_rfl) (by kernel_rfl) (by kernel_rfl) (by kernel_rfl) rfl rfl (fun _ h => h.drop (.cons_cons _ <| .cons_cons _ <| .refl _)) (fun _ _ _ h => h) (q_fieldAddrB fd_27_3 (lk16 rfl <| lk8 rfl <| lk4 rfl <| lk1 rfl <| lk_off rfl <| lk32 rfl <| lk16 rfl <| lk4 rfl <| lk1 rfl <| lk0)) ?_
      refine WX_take 1 rfl (by kernel_rfl) (by kernel_rfl) (by kernel_rfl) (by kernel_rfl) rfl rfl (fun _ h => h.drop (.cons_cons _ <| .cons_cons _ <| .refl _)) (fun _ _ _ h => h) (q_load1 one_25 (lk0) (Cell.own 1 rfl rfl)) ?_
      refine WX_take 2 rfl (by kernel_rfl) (by kernel_rfl) (by kernel_rfl) (by kernel_rfl) rfl rfl (fun _ h => h.drop (.cons_cons _ <| .cons_cons _ <| .refl _)) (fun _ _ _ h => h) (q_move (lk16 rfl <| lk8 rfl <| lk4 rfl <| lk2 rfl <| lk1 rfl <| lk_off rfl <| lk32 rfl <| lk8 rfl <| lk4 rfl <| lk1 rfl <| lk0)) ?_
      refine WX_take 3 rfl (by kernel_rfl) (by kernel_rfl) (by kernel_rfl) (by kernel_rfl) rfl rfl (fun _ h => h.drop (.cons_cons _ <| .cons_cons _ <| .refl _)) (fun _ _ _ h => h) (q_move (lk32 rfl <| lk_in rfl hs18)) ?_
      refine WX_take 4 rfl (by kernel_rfl) (by kernel_rfl) (by kernel_rfl) (by kernel_rfl) rfl rfl (fun _ h => h.drop (.cons_cons _ <| .cons_cons _ <| .refl _)) (fun _ _ _ h => h) (q_index (k := k) sl_29 (lk1 rfl <| lk0) hl.plain (lk0) rfl hlt) ?_
      refine WX_take 5 rfl (by kernel_rfl) (by kernel_rfl) (by kernel_rfl) (by kernel_rfl) rfl rfl (fun _ h => h.drop (.cons_cons _ <| .cons_cons _ <| .refl _)) (fun _ _ _ h => h) (q_load1 one_3 (lk0) (hl.cell1 hlt rfl)) ?_
      refine WX_take 6 rfl (by kernel_rfl) (by kernel_rfl) (by kernel_rfl) (by kernel_rfl) rfl rfl (fun _ h => h.drop (.cons_cons _ <| .cons_cons _ <| .refl _)) (fun _ _ _ h => h) (q_index  sl_25 (lk4 rfl <| lk0) hr.reqs.plain (lk0) rfl hlk) ?_
      refine WX_take 7 rfl (by kernel_rfl) (by kernel_rfl) (by kernel_rfl) (by kernel_rfl) rfl rfl (fun _ h => h.drop (.cons_cons _ <| .cons_cons _ <| .refl _)) (fun _ _ _ h => h) (q_loadN agg_58 (lk0) rfl rfl (hr.reqs.whole hlk)) ?_
      refine WX_x 8 rfl (by kernel_rfl) rfl (x_alloc zr_58 rfl fun b25 hb25 nb25 => ⟨fun _ _ => (fun _ h => h.drop (.cons _ <| .cons_cons _ <| .cons_cons _ <| .refl _)), ?_⟩)
      refine WX_x0 9 rfl (by kernel_rfl) (x_storeA sz_58 (lk0) (lk1 rfl <| lk0) (i := 0) rfl rfl rfl rfl Req.enc_one (.here) ⟨(fun h => nomatch h), ?_⟩)
      refine WX_done (by kernel_rfl) ?_ _
      refine then_n ?_
      refine WC_seq ?_
      refine WC_reg fun ds => ?_
      refine WL_q rfl (q_fieldAddrB fd_27_0 (lk32 rfl <| lk4 rfl <| lk2 rfl <| lk_off rfl <| lk32 rfl <| lk16 rfl <| lk4 rfl <| lk1 rfl <| lk0)) ?_
      refine WL_q rfl (q_load1 one_22 (lk0) (Cell.own 2 rfl rfl)) ?_
      refine WL_q rfl (q_fieldAddrB fd_58_1 (lk2 rfl <| lk0)) ?_
      refine WL_q rfl (q_load1 one_3 (lk0) (Cell.own 0 rfl rfl)) ?_
      refine WL_q rfl (q_index (k := r.book (chosenL r bits)[k]) sl_22 (lk2 rfl <| lk0) hr.books.plain (lk0) eB lB) ?_
      refine WL_q rfl (q_loadN agg_62 (lk0) rfl rfl (hr.books.whole lB)) ?_
      refine WL_x rfl (x_alloc zr_62 rfl fun b26 hb26 nb26 => ?_)
      refine WL_x0 (x_storeA sz_62 (lk0) (lk1 rfl <| lk0) (i := 0) rfl rfl rfl rfl Book.enc_one (.here) ?_)
      refine WL_nil ?_
      refine then_n ?_
      refine WC_seq ?_
      refine WC_seq ?_
      refine WC_draw (.inl rfl) (fun _ _ h => h) (by kernel_rfl) (by kernel_rfl) fun ds => ?_
      refine WQ_q rfl (q_fieldAddrB fd_62_1 (lk0)) ?_
      refine WQ_q rfl (q_load1 one_3 (lk0) (Cell.own 0 rfl rfl)) ?_
      refine WQ_q rfl (q_fieldAddrB fd_27_1 (lk32 rfl <| lk8 rfl <| lk4 rfl <| lk2 rfl <| lk1 rfl <| lk_off rfl <| lk32 rfl <| lk16 rfl <| lk4 rfl <| lk1 rfl <| lk0)) ?_
      refine WQ_q rfl (q_load1 one_23 (lk0) (Cell.own 3 rfl rfl)) ?_
      refine WQ_q rfl (q_fieldAddrB fd_58_0 (lk8 rfl <| lk2 rfl <| lk1 rfl <| lk0)) ?_
      refine WQ_q rfl (q_load1 one_3 (lk0) (Cell.own 1 rfl rfl)) ?_
      refine WQ_q rfl (q_index (k := r.reader (chosenL r bits)[k]) sl_23 (lk2 rfl <| lk0) hr.readers.plain (lk0) eR lR) ?_
      refine WQ_q rfl (q_fieldAddr fd_64_1 (lk0)) ?_
      refine WQ_q rfl (q_load1 one_3 (lk0) (hr.readers.cell lR rfl)) ?_
      refine WQ_q rfl (q_gtr (lk4 rfl <| lk2 rfl <| lk1 rfl <| lk0) (lk0)) ?_
      refine WQ_q rfl (q_move (lk0)) ?_
      refine WQ_want rfl rfl (lk0) (decide_eq_false (by omega)) ?_
      refine WQ_q rfl (q_fieldAddrB fd_62_3 (lk8 rfl <| lk2 rfl <| lk1 rfl <| lk0)) ?_
      refine WQ_want rfl rfl (lk1 rfl <| lk0) (decide_eq_false (by omega)) ?_
      refine WQ_q rfl (q_load1 one_4 (lk0) (Cell.own 0 rfl rfl)) ?_
      refine WQ_want rfl rfl (lk2 rfl <| lk0) (decide_eq_false (by omega)) ?_
      refine WQ_q rfl (q_move (lk0)) ?_
      cases hLg : (r.books[r.book (chosenL r bits)[k]]'lB).large
      ·
       refine WQ_pass rfl rfl (lk0) (.inl (congrArg Value.bool rfl)) rfl ?_
       refine WQ_pass rfl rfl (lk1 rfl <| lk0) (.inl (congrArg Value.bool rfl)) rfl ?_
       refine WQ_pass rfl rfl (lk2 rfl <| lk0) (.inl (congrArg Value.bool rfl)) rfl ?_
       refine WQ_pass rfl rfl (lk2 rfl <| lk1 rfl <| lk0) (.inl (congrArg Value.bool rfl)) rfl ?_
       refine WQ_pass rfl rfl (lk4 rfl <| lk0) (.inl (congrArg Value.bool rfl)) rfl ?_
       refine WQ_pass rfl rfl (lk4 rfl <| lk1 rfl <| lk0) (.inl (congrArg Value.bool rfl)) rfl ?_
       refine WQ_pass rfl rfl (lk4 rfl <| lk2 rfl <| lk0) (.inl (congrArg Value.bool rfl)) rfl ?_
       refine WQ_pass rfl rfl (lk4 rfl <| lk2 rfl <| lk1 rfl <| lk0) (.inl (congrArg Value.bool rfl)) rfl ?_
       refine WQ_pass rfl rfl (lk8 rfl <| lk0) (.inl (congrArg Value.bool rfl)) rfl ?_
       refine WQ_want rfl rfl (lk8 rfl <| lk4 rfl <| lk0) (decide_eq_false (by omega)) ?_
       refine WQ_q rfl (q_pick_false (lk8 rfl <| lk1 rfl <| lk0) rfl lk_const) ?_
       refine WQ_q rfl (q_pick_false (lk8 rfl <| lk4 rfl <| lk1 rfl <| lk0) (decide_eq_false (by omega)) (lk0)) ?_
       refine WQ_q rfl (q_move (lk0)) ?_
       refine WQ_want rfl rfl (lk0) rfl ?_
       refine WQ_q rfl (q_move (lk32 rfl <| lk32 rfl <| lk4 rfl <| lk2 rfl <| lk1 rfl <| lk_off rfl <| lk1 rfl <| lk0)) ?_
       refine WQ_want rfl rfl (lk1 rfl <| lk0) rfl ?_
       refine WQ_q rfl (q_fieldAddrB fd_58_1 (lk32 rfl <| lk2 rfl <| lk0)) ?_
       refine WQ_want rfl rfl (lk2 rfl <| lk0) rfl ?_
       refine WQ_q rfl (q_load1 one_3 (lk0) (Cell.own 1 rfl rfl)) ?_
       refine WQ_want rfl rfl (lk2 rfl <| lk1 rfl <| lk0) rfl ?_
       refine WQ_q rfl (q_index (k := r.book (chosenL r bits)[k]) sl_29 (lk2 rfl <| lk0) (plain_row (Nat.le_refl _) (by omega)) (lk0) eB lB) ?_
       refine WQ_want rfl rfl (lk4 rfl <| lk0) rfl ?_
       refine WQ_q rfl (q_load1 one_3 (lk0) (row_cell (i := 2) rfl (rdL_get lB))) ?_
       refine WQ_want rfl rfl (lk4 rfl <| lk1 rfl <| lk0) rfl ?_
       refine WQ_q rfl (q_gtr (lk0) lk_const) ?_
       refine WQ_q rfl (q_pick_false (lk4 rfl <| lk2 rfl <| lk0) rfl (lk0)) ?_
       refine WQ_nil ?_
       refine then_n ?_
       refine WC_if_false (lk0) (decide_eq_false (by rw [hu0]; decide)) ?_
       refine WC_skip ?_
       refine then_n ?_
       refine WC_seq ?_
       refine WC_seq ?_
       refine WC_reg fun ds => ?_
       refine WL_q rfl (q_assign lk_const) ?_
       refine WL_nil ?_
       refine then_n ?_
       refine WC_block ?_
       refine WC_loopN [6, 21, 171, 172, 173, 174, 175, 176, 177, 178, 179, 180, 181, 182, 183, 184, 185, 186, 187, 188, 189, 190, 191, 192, 193, 194, 195, 196, 197, 198, 199, 200, 201] (fun m e σ => ∃ t : Nat, m + t = k ∧ e 21 = .int .i64 (t : Int) ∧ σ = ⟨F20, [(b26, bx 62 ((r.books[r.book (chosenL r bits)[k]]'lB).enc)), (b25, bx 58 ((r.reqs[(chosenL r bits)[k]]'hlk).enc)), (b23, bx 3 (rdL r (chosenL r bits) s k)), (b10, bx 27 [vb, vr, vs, vq])]⟩) (k) ?_ ?_
       · exact ⟨0, by omega, (lk0), rfl⟩
       ·
        rintro m2 e2 _ ⟨t, hm2, ht21, rfl⟩
        by_cases htk : t < k
        ·
         have htl : t < (chosenL r bits).length := by omega
         have hlt_ := chosen_lt (bits := bits) _ (List.getElem_mem htl)
         have h2t := apart_iff.1 hA k t hlt htk
         obtain ⟨eBt, lBt⟩ := hv.book hlt_
         obtain ⟨eRt, lRt⟩ := hv.reader hlt_
         refine WC_seq ?_
         refine WC_seq ?_
         refine WC_reg fun ds => ?_
         refine WL_q rfl (q_move (lk_in rfl ht21)) ?_
         refine WL_q rfl (q_move (lk1 rfl <| lk_off rfl <| lk32 rfl <| lk32 rfl <| lk8 rfl <| lk4 rfl <| lk2 rfl <| lk1 rfl <| lk_in rfl hs18)) ?_
         refine WL_q rfl (q_lss (lk1 rfl <| lk0) (lk0)) ?_
         refine WL_nil ?_
         refine then_n ?_
         refine WC_if_true (lk0) (by first | rfl | exact decide_eq_true (by omega)) ?_
         refine WC_skip ?_
         refine then_n ?_
         refine WC_seq ?_
         refine WC_block ?_
         refine WC_seq ?_
         refine WC_draw (.inl rfl) (fun _ _ h => h) (by kernel_rfl) (by kernel_rfl) fun ds => ?_
         refine WQ_q rfl (q_fieldAddrB fd_27_3 (lk2 rfl <| lk1 rfl <| lk_off rfl <| lk32 rfl <| lk32 rfl <| lk8 rfl <| lk4 rfl <| lk2 rfl <| lk1 rfl <| lk_off rfl <| lk32 rfl <| lk16 rfl <| lk4 rfl <| lk1 rfl <| lk0)) ?_
         refine WQ_q rfl (q_load1 one_25 (lk0) (Cell.own 3 rfl rfl)) ?_
         refine WQ_q rfl (q_move (lk4 rfl <| lk1 rfl <| lk_off rfl <| lk32 rfl <| lk32 rfl <| lk8 rfl <| lk4 rfl <| lk2 rfl <| lk1 rfl <| lk_off rfl <| lk32 rfl <| lk8 rfl <| lk4 rfl <| lk1 rfl <| lk0)) ?_
         refine WQ_q rfl (q_move (lk4 rfl <| lk2 rfl <| lk_in rfl ht21)) ?_
         refine WQ_q rfl (q_index (k := t) sl_29 (lk1 rfl <| lk0) hl.plain (lk0) rfl htl) ?_
         refine WQ_q rfl (q_load1 one_3 (lk0) (hl.cell1 htl rfl)) ?_
         refine WQ_q rfl (q_index  sl_25 (lk4 rfl <| lk0) hr.reqs.plain (lk0) rfl hlt_) ?_
         refine WQ_q rfl (q_fieldAddr fd_58_0 (lk0)) ?_
         refine WQ_q rfl (q_load1 one_3 (lk0) (hr.reqs.cell hlt_ rfl)) ?_
         refine WQ_q rfl (q_fieldAddrB fd_58_0 (lk8 rfl <| lk4 rfl <| lk_off rfl <| lk32 rfl <| lk8 rfl <| lk1 rfl <| lk0)) ?_
         refine WQ_q rfl (q_load1 one_3 (lk0) (Cell.own 1 rfl rfl)) ?_
         refine WQ_q rfl (q_eql (lk2 rfl <| lk0) (lk0)) ?_
         refine WQ_q rfl (q_move (lk0)) ?_
         refine WQ_want rfl rfl (lk0) (decide_eq_false (fun e => h2t.1 (by omega))) ?_
         refine WQ_q rfl (q_fieldAddrB fd_27_3 (lk16 rfl <| lk_off rfl <| lk32 rfl <| lk32 rfl <| lk8 rfl <| lk4 rfl <| lk2 rfl <| lk1 rfl <| lk_off rfl <| lk32 rfl <| lk16 rfl <| lk4 rfl <| lk1 rfl <| lk0)) ?_
         refine WQ_want rfl rfl (lk1 rfl <| lk0) (decide_eq_false (fun e => h2t.1 (by omega))) ?_
         refine WQ_q rfl (q_load1 one_25 (lk0) (Cell.own 3 rfl rfl)) ?_
         refine WQ_want rfl rfl (lk2 rfl <| lk0) (decide_eq_false (fun e => h2t.1 (by omega))) ?_
         refine WQ_q rfl (q_move (lk16 rfl <| lk2 rfl <| lk_off rfl <| lk32 rfl <| lk32 rfl <| lk8 rfl <| lk4 rfl <| lk2 rfl <| lk1 rfl <| lk_off rfl <| lk32 rfl <| lk8 rfl <| lk4 rfl <| lk1 rfl <| lk0)) ?_
         refine WQ_want rfl rfl (lk2 rfl <| lk1 rfl <| lk0) (decide_eq_false (fun e => h2t.1 (by omega))) ?_
         refine WQ_q rfl (q_move (lk16 rfl <| lk2 rfl <| lk1 rfl <| lk_in rfl ht21)) ?_
         refine WQ_want rfl rfl (lk4 rfl <| lk0) (decide_eq_false (fun e => h2t.1 (by omega))) ?_
         refine WQ_q rfl (q_index (k := t) sl_29 (lk1 rfl <| lk0) hl.plain (lk0) rfl htl) ?_
         refine WQ_want rfl rfl (lk4 rfl <| lk1 rfl <| lk0) (decide_eq_false (fun e => h2t.1 (by omega))) ?_
         refine WQ_q rfl (q_load1 one_3 (lk0) (hl.cell1 htl rfl)) ?_
         refine WQ_want rfl rfl (lk4 rfl <| lk2 rfl <| lk0) (decide_eq_false (fun e => h2t.1 (by omega))) ?_
         refine WQ_q rfl (q_index  sl_25 (lk4 rfl <| lk0) hr.reqs.plain (lk0) rfl hlt_) ?_
         refine WQ_want rfl rfl (lk4 rfl <| lk2 rfl <| lk1 rfl <| lk0) (decide_eq_false (fun e => h2t.1 (by omega))) ?_
         refine WQ_q rfl (q_fieldAddr fd_58_1 (lk0)) ?_
         refine WQ_want rfl rfl (lk8 rfl <| lk0) (decide_eq_false (fun e => h2t.1 (by omega))) ?_
         refine WQ_q rfl (q_load1 one_3 (lk0) (hr.reqs.cell hlt_ rfl)) ?_
         refine WQ_want rfl rfl (lk8 rfl <| lk1 rfl <| lk0) (decide_eq_false (fun e => h2t.1 (by omega))) ?_
         refine WQ_q rfl (q_fieldAddrB fd_58_1 (lk16 rfl <| lk8 rfl <| lk1 rfl <| lk_off rfl <| lk32 rfl <| lk8 rfl <| lk1 rfl <| lk0)) ?_
         refine WQ_want rfl rfl (lk8 rfl <| lk2 rfl <| lk0) (decide_eq_false (fun e => h2t.1 (by omega))) ?_
         refine WQ_q rfl (q_load1 one_3 (lk0) (Cell.own 1 rfl rfl)) ?_
         refine WQ_want rfl rfl (lk8 rfl <| lk2 rfl <| lk1 rfl <| lk0) (decide_eq_false (fun e => h2t.1 (by omega))) ?_
         refine WQ_q rfl (q_eql (lk2 rfl <| lk0) (lk0)) ?_
         refine WQ_q rfl (q_pick_false (lk8 rfl <| lk4 rfl <| lk0) (decide_eq_false (fun e => h2t.1 (by omega))) (lk0)) ?_
         refine WQ_nil ?_
         refine then_n ?_
         refine WC_if_false (lk0) (decide_eq_false (fun e => h2t.2 (by omega))) ?_
         refine WC_skip ?_
         refine block_n (then_n ?_)
         refine WC_reg fun ds => ?_
         refine WL_q rfl (q_move (lk16 rfl <| lk8 rfl <| lk4 rfl <| lk1 rfl <| lk_in rfl ht21)) ?_
         refine WL_q rfl (q_add (lk0) lk_const rfl (by omega) (by omega)) ?_
         refine WL_q rfl (q_assign (lk0)) ?_
         refine WL_nil ?_
         refine then_n ⟨_, m2 - 1, Off.eq (ou32 rfl <| off_over), by omega, ?_⟩
         exact ⟨t + 1, by omega, (lk0), rfl⟩
        ·
         refine WC_seq ?_
         refine WC_seq ?_
         refine WC_reg fun ds => ?_
         refine WL_q rfl (q_move (lk_in rfl ht21)) ?_
         refine WL_q rfl (q_move (lk1 rfl <| lk_off rfl <| lk32 rfl <| lk32 rfl <| lk8 rfl <| lk4 rfl <| lk2 rfl <| lk1 rfl <| lk_in rfl hs18)) ?_
         refine WL_q rfl (q_lss (lk1 rfl <| lk0) (lk0)) ?_
         refine WL_nil ?_
         refine then_n ?_
         refine WC_if_false (lk0) (by first | rfl | exact decide_eq_false (by omega)) ?_
         have hset := rdL_set hA hlen hlt
         refine WC_exit ?_
         refine then_x (then_x (exit_here ?_))
         refine then_n ?_
         refine WC_seq ?_
         refine WC_drawS (.inl rfl) (fun _ _ h => h) (.cons_cons _ <| .cons_cons _ <| .cons_cons _ <| .cons_cons _ <| .refl _) [16] (by kernel_rfl) fun ds => ?_
         refine WX_take 0 rfl (by kernel_rfl) (by kernel_rfl) (by kernel_rfl) (by kernel_rfl) rfl rfl (fun _ h => h.drop (.cons_cons _ <| .cons_cons _ <| .cons_cons _ <| .cons_cons _ <| .refl _)) (fun _ _ _ h => h) (q_move (lk2 rfl <| lk1 rfl <| lk_off rfl <| lk32 rfl <| lk32 rfl <| lk8 rfl <| lk4 rfl <| lk2 rfl <| lk1 rfl <| lk_off rfl <| lk1 rfl <| lk0)) ?_
         refine WX_take 1 rfl (by kernel_rfl) (by kernel_rfl) (by kernel_rfl) (by kernel_rfl) rfl rfl (fun _ h => h.drop (.cons_cons _ <| .cons_cons _ <| .cons_cons _ <| .cons_cons _ <| .refl _)) (fun _ _ _ h => h) (q_fieldAddrB fd_58_1 (lk4 rfl <| lk_off rfl <| lk32 rfl <| lk8 rfl <| lk1 rfl <| lk0)) ?_
         refine WX_take 2 rfl (by kernel_rfl) (by kernel_rfl) (by kernel_rfl) (by kernel_rfl) rfl rfl (fun _ h => h.drop (.cons_cons _ <| .cons_cons _ <| .cons_cons _ <| .cons_cons _ <| .refl _)) (fun _ _ _ h => h) (q_load1 one_3 (lk0) (Cell.own 1 rfl rfl)) ?_
         refine WX_take 3 rfl (by kernel_rfl) (by kernel_rfl) (by kernel_rfl) (by kernel_rfl) rfl rfl (fun _ h => h.drop (.cons_cons _ <| .cons_cons _ <| .cons_cons _ <| .cons_cons _ <| .refl _)) (fun _ _ _ h => h) (q_fieldAddrB fd_58_2 (lk4 rfl <| lk2 rfl <| lk_off rfl <| lk32 rfl <| lk8 rfl <| lk1 rfl <| lk0)) ?_
         refine WX_take 4 rfl (by kernel_rfl) (by kernel_rfl) (by kernel_rfl) (by kernel_rfl) rfl rfl (fun _ h => h.drop (.cons_cons _ <| .cons_cons _ <| .cons_cons _ <| .cons_cons _ <| .refl _)) (fun _ _ _ h => h) (q_load1 one_3 (lk0) (Cell.own 1 rfl rfl)) ?_
         refine WX_take 5 rfl (by kernel_rfl) (by kernel_rfl) (by kernel_rfl) (by kernel_rfl) rfl rfl (fun _ h => h.drop (.cons_cons _ <| .cons_cons _ <| .cons_cons _ <| .cons_cons _ <| .refl _)) (fun _ _ _ h => h) (q_fieldAddrB fd_27_2 (lk8 rfl <| lk_off rfl <| lk32 rfl <| lk32 rfl <| lk8 rfl <| lk4 rfl <| lk2 rfl <| lk1 rfl <| lk_off rfl <| lk32 rfl <| lk16 rfl <| lk4 rfl <| lk1 rfl <| lk0)) ?_
         refine WX_take 6 rfl (by kernel_rfl) (by kernel_rfl) (by kernel_rfl) (by kernel_rfl) rfl rfl (fun _ h => h.drop (.cons_cons _ <| .cons_cons _ <| .cons_cons _ <| .cons_cons _ <| .refl _)) (fun _ _ _ h => h) (q_load1 one_24 (lk0) (Cell.own 3 rfl rfl)) ?_
         refine WX_take 7 rfl (by kernel_rfl) (by kernel_rfl) (by kernel_rfl) (by kernel_rfl) rfl rfl (fun _ h => h.drop (.cons_cons _ <| .cons_cons _ <| .cons_cons _ <| .cons_cons _ <| .refl _)) (fun _ _ _ h => h) (q_move (lk8 rfl <| lk2 rfl <| lk_off rfl <| lk32 rfl <| lk32 rfl <| lk8 rfl <| lk4 rfl <| lk2 rfl <| lk1 rfl <| lk_off rfl <| lk32 rfl <| lk4 rfl <| lk1 rfl <| lk0)) ?_
         refine WX_take 8 rfl (by kernel_rfl) (by kernel_rfl) (by kernel_rfl) (by kernel_rfl) rfl rfl (fun _ h => h.drop (.cons_cons _ <| .cons_cons _ <| .cons_cons _ <| .cons_cons _ <| .refl _)) (fun _ _ _ h => h) (q_move (lk8 rfl <| lk2 rfl <| lk1 rfl <| lk_off rfl <| lk32 rfl <| lk32 rfl <| lk8 rfl <| lk4 rfl <| lk2 rfl <| lk1 rfl <| lk_in rfl hs18)) ?_
         refine WX_take 9 rfl (by kernel_rfl) (by kernel_rfl) (by kernel_rfl) (by kernel_rfl) rfl rfl (fun _ h => h.drop (.cons_cons _ <| .cons_cons _ <| .cons_cons _ <| .cons_cons _ <| .refl _)) (fun _ _ _ h => h) (q_index (k := k) sl_29 (lk1 rfl <| lk0) hq.plain (lk0) rfl hk2) ?_
         refine WX_take 10 rfl (by kernel_rfl) (by kernel_rfl) (by kernel_rfl) (by kernel_rfl) rfl rfl (fun _ h => h.drop (.cons_cons _ <| .cons_cons _ <| .cons_cons _ <| .cons_cons _ <| .refl _)) (fun _ _ _ h => h) (q_load1 one_3 (lk0) (hq.cell1 hk2 rfl)) ?_
         refine WX_take 11 rfl (by kernel_rfl) (by kernel_rfl) (by kernel_rfl) (by kernel_rfl) rfl rfl (fun _ h => h.drop (.cons_cons _ <| .cons_cons _ <| .cons_cons _ <| .cons_cons _ <| .refl _)) (fun _ _ _ h => h) (q_index  sl_24 (lk4 rfl <| lk0) hr.seats.plain (lk0) rfl hsk) ?_
         refine WX_take 12 rfl (by kernel_rfl) (by kernel_rfl) (by kernel_rfl) (by kernel_rfl) rfl rfl (fun _ h => h.drop (.cons_cons _ <| .cons_cons _ <| .cons_cons _ <| .cons_cons _ <| .refl _)) (fun _ _ _ h => h) (q_fieldAddr fd_66_0 (lk0)) ?_
         refine WX_take 13 rfl (by kernel_rfl) (by kernel_rfl) (by kernel_rfl) (by kernel_rfl) rfl rfl (fun _ h => h.drop (.cons_cons _ <| .cons_cons _ <| .cons_cons _ <| .cons_cons _ <| .refl _)) (fun _ _ _ h => h) (q_load1 one_3 (lk0) (hr.seats.cell hsk rfl)) ?_
         refine WX_take 14 rfl (by kernel_rfl) (by kernel_rfl) (by kernel_rfl) (by kernel_rfl) rfl rfl (fun _ h => h.drop (.cons_cons _ <| .cons_cons _ <| .cons_cons _ <| .cons_cons _ <| .refl _)) (fun _ _ _ h => h) (q_mul (lk8 rfl <| lk1 rfl <| lk0) (lk0) rfl (by omega) (by omega)) ?_
         refine WX_take 15 rfl (by kernel_rfl) (by kernel_rfl) (by kernel_rfl) (by kernel_rfl) rfl rfl (fun _ h => h.drop (.cons_cons _ <| .cons_cons _ <| .cons_cons _ <| .cons_cons _ <| .refl _)) (fun _ _ _ h => h) (q_index (k := r.book (chosenL r bits)[k]) sl_29 (lk8 rfl <| lk4 rfl <| lk2 rfl <| lk0) (plain_row (Nat.le_refl _) (by omega)) (lk8 rfl <| lk4 rfl <| lk0) eB lB) ?_
         refine WX_x0 16 rfl (by kernel_rfl) (x_storeK (k := r.book (chosenL r bits)[k]) sz_3 (lk0) (by simp [addc, base]) (lk1 rfl <| lk0) (i := 2) rfl (by rw [rdL_len]; exact lB) rfl (.next <| .next <| .here) ⟨(fun h => nomatch h), ?_⟩)
         refine WX_done (by kernel_rfl) ?_ _
         refine then_n ?_
         refine WC_reg fun ds => ?_
         refine WL_q rfl (q_move (lk16 rfl <| lk2 rfl <| lk1 rfl <| lk_off rfl <| lk32 rfl <| lk32 rfl <| lk8 rfl <| lk4 rfl <| lk2 rfl <| lk1 rfl <| lk_in rfl hs16)) ?_
         refine WL_q rfl (q_move (lk16 rfl <| lk4 rfl <| lk_off rfl <| lk32 rfl <| lk32 rfl <| lk8 rfl <| lk4 rfl <| lk2 rfl <| lk1 rfl <| lk_off rfl <| lk1 rfl <| lk0)) ?_
         refine WL_q rfl (q_fieldAddrB fd_58_1 (lk16 rfl <| lk4 rfl <| lk1 rfl <| lk_off rfl <| lk32 rfl <| lk8 rfl <| lk1 rfl <| lk0)) ?_
         refine WL_q rfl (q_load1 one_3 (lk0) (Cell.own 1 rfl rfl)) ?_
         refine WL_q rfl (q_index (k := r.book (chosenL r bits)[k]) sl_29 (lk2 rfl <| lk0) (plain_row (Nat.le_refl _) (by omega)) (lk0) eB lB) ?_
         refine WL_q rfl (q_load1 one_3 (lk0) (row_cell (i := 2) rfl (by rw [List.getElem?_set_self (by rw [rdL_len]; exact lB)]))) ?_
         refine WL_q rfl (q_add (lk4 rfl <| lk1 rfl <| lk0) (lk0) rfl (by omega) (by omega)) ?_
         refine WL_q rfl (q_assign (lk0)) ?_
         refine WL_nil ?_
         refine block_n (then_n ?_)
         refine WC_imp (fun _ _ h => h.drop (.cons _ <| .cons _ <| .cons_cons _ <| .cons_cons _ <| .refl _)) ?_
         refine WC_reg fun ds => ?_
         refine WL_q rfl (q_move (lk16 rfl <| lk8 rfl <| lk2 rfl <| lk1 rfl <| lk_off rfl <| lk32 rfl <| lk32 rfl <| lk8 rfl <| lk4 rfl <| lk2 rfl <| lk1 rfl <| lk_in rfl hs18)) ?_
         refine WL_q rfl (q_add (lk0) lk_const rfl (by omega) (by omega)) ?_
         refine WL_q rfl (q_assign (lk0)) ?_
         refine WL_nil ?_
         refine then_n ⟨_, m - 1, Off.eq (ou16 rfl <| ou8 rfl <| ou4 rfl <| ou2 rfl <| off_in rfl <| ou32 rfl <| ou32 rfl <| ou8 rfl <| ou4 rfl <| ou2 rfl <| ou1 rfl <| off_over), by omega, ?_⟩
         refine ⟨k + 1, by omega, (lk0), ?_, ?_⟩
         · rw [costTo_succ hlt hk2, light_at hlk hsk]; exact (lk2 rfl <| lk1 rfl <| lk0)
         · rw [← hset, light_at hlk hsk]
      ·
       refine WQ_want rfl rfl (lk0) rfl ?_
       refine WQ_q rfl (q_fieldAddrB fd_27_2 (lk32 rfl <| lk16 rfl <| lk8 rfl <| lk2 rfl <| lk1 rfl <| lk_off rfl <| lk32 rfl <| lk16 rfl <| lk4 rfl <| lk1 rfl <| lk0)) ?_
       refine WQ_want rfl rfl (lk1 rfl <| lk0) rfl ?_
       refine WQ_q rfl (q_load1 one_24 (lk0) (Cell.own 3 rfl rfl)) ?_
       refine WQ_want rfl rfl (lk2 rfl <| lk0) rfl ?_
       refine WQ_q rfl (q_move (lk32 rfl <| lk16 rfl <| lk8 rfl <| lk4 rfl <| lk1 rfl <| lk_off rfl <| lk32 rfl <| lk4 rfl <| lk1 rfl <| lk0)) ?_
       refine WQ_want rfl rfl (lk2 rfl <| lk1 rfl <| lk0) rfl ?_
       refine WQ_q rfl (q_move (lk32 rfl <| lk16 rfl <| lk8 rfl <| lk4 rfl <| lk2 rfl <| lk_in rfl hs18)) ?_
       refine WQ_want rfl rfl (lk4 rfl <| lk0) rfl ?_
       refine WQ_q rfl (q_index (k := k) sl_29 (lk1 rfl <| lk0) hq.plain (lk0) rfl hk2) ?_
       refine WQ_want rfl rfl (lk4 rfl <| lk1 rfl <| lk0) rfl ?_
       refine WQ_q rfl (q_load1 one_3 (lk0) (hq.cell1 hk2 rfl)) ?_
       refine WQ_want rfl rfl (lk4 rfl <| lk2 rfl <| lk0) rfl ?_
       refine WQ_q rfl (q_index  sl_24 (lk4 rfl <| lk0) hr.seats.plain (lk0) rfl hsk) ?_
       refine WQ_want rfl rfl (lk4 rfl <| lk2 rfl <| lk1 rfl <| lk0) rfl ?_
       refine WQ_q rfl (q_fieldAddr fd_66_1 (lk0)) ?_
       refine WQ_want rfl rfl (lk8 rfl <| lk0) rfl ?_
       refine WQ_q rfl (q_load1 one_4 (lk0) (hr.seats.cell hsk rfl)) ?_
       refine WQ_want rfl rfl (lk8 rfl <| lk4 rfl <| lk0) (decide_eq_false (by omega)) ?_
       refine WQ_q rfl (q_pick_true (lk8 rfl <| lk1 rfl <| lk0) rfl (lk0)) ?_
       refine WQ_q rfl (q_pick_false (lk8 rfl <| lk4 rfl <| lk1 rfl <| lk0) (decide_eq_false (by omega)) (lk0)) ?_
       refine WQ_q rfl (q_move (lk0)) ?_
       refine WQ_want rfl rfl (lk0) (by cases hSm : (r.seats[s[k]]'hsk).small with | false => rfl | true => exact absurd ⟨hLg, hSm⟩ hr2) ?_
       refine WQ_q rfl (q_move (lk32 rfl <| lk32 rfl <| lk4 rfl <| lk2 rfl <| lk1 rfl <| lk_off rfl <| lk1 rfl <| lk0)) ?_
       refine WQ_want rfl rfl (lk1 rfl <| lk0) (by cases hSm : (r.seats[s[k]]'hsk).small with | false => rfl | true => exact absurd ⟨hLg, hSm⟩ hr2) ?_
       refine WQ_q rfl (q_fieldAddrB fd_58_1 (lk32 rfl <| lk2 rfl <| lk0)) ?_
       refine WQ_want rfl rfl (lk2 rfl <| lk0) (by cases hSm : (r.seats[s[k]]'hsk).small with | false => rfl | true => exact absurd ⟨hLg, hSm⟩ hr2) ?_
       refine WQ_q rfl (q_load1 one_3 (lk0) (Cell.own 1 rfl rfl)) ?_
       refine WQ_want rfl rfl (lk2 rfl <| lk1 rfl <| lk0) (by cases hSm : (r.seats[s[k]]'hsk).small with | false => rfl | true => exact absurd ⟨hLg, hSm⟩ hr2) ?_
       refine WQ_q rfl (q_index (k := r.book (chosenL r bits)[k]) sl_29 (lk2 rfl <| lk0) (plain_row (Nat.le_refl _) (by omega)) (lk0) eB lB) ?_
       refine WQ_want rfl rfl (lk4 rfl <| lk0) (by cases hSm : (r.seats[s[k]]'hsk).small with | false => rfl | true => exact absurd ⟨hLg, hSm⟩ hr2) ?_
       refine WQ_q rfl (q_load1 one_3 (lk0) (row_cell (i := 2) rfl (rdL_get lB))) ?_
       refine WQ_want rfl rfl (lk4 rfl <| lk1 rfl <| lk0) (by cases hSm : (r.seats[s[k]]'hsk).small with | false => rfl | true => exact absurd ⟨hLg, hSm⟩ hr2) ?_
       refine WQ_q rfl (q_gtr (lk0) lk_const) ?_
       refine WQ_q rfl (q_pick_false (lk4 rfl <| lk2 rfl <| lk0) (by cases hSm : (r.seats[s[k]]'hsk).small with | false => rfl | true => exact absurd ⟨hLg, hSm⟩ hr2) (lk0)) ?_
       refine WQ_nil ?_
       refine then_n ?_
       refine WC_if_false (lk0) (decide_eq_false (by rw [hu0]; decide)) ?_
       refine WC_skip ?_
       refine then_n ?_
       refine WC_seq ?_
       refine WC_seq ?_
       refine WC_reg fun ds => ?_
       refine WL_q rfl (q_assign lk_const) ?_
       refine WL_nil ?_
       refine then_n ?_
       refine WC_block ?_
       refine WC_loopN [6, 21, 171, 172, 173, 174, 175, 176, 177, 178, 179, 180, 181, 182, 183, 184, 185, 186, 187, 188, 189, 190, 191, 192, 193, 194, 195, 196, 197, 198, 199, 200, 201] (fun m e σ => ∃ t : Nat, m + t = k ∧ e 21 = .int .i64 (t : Int) ∧ σ = ⟨F20, [(b26, bx 62 ((r.books[r.book (chosenL r bits)[k]]'lB).enc)), (b25, bx 58 ((r.reqs[(chosenL r bits)[k]]'hlk).enc)), (b23, bx 3 (rdL r (chosenL r bits) s k)), (b10, bx 27 [vb, vr, vs, vq])]⟩) (k) ?_ ?_
       · exact ⟨0, by omega, (lk0), rfl⟩
       ·
        rintro m2 e2 _ ⟨t, hm2, ht21, rfl⟩
        by_cases htk : t < k
        ·
         have htl : t < (chosenL r bits).length := by omega
         have hlt_ := chosen_lt (bits := bits) _ (List.getElem_mem htl)
         have h2t := apart_iff.1 hA k t hlt htk
         obtain ⟨eBt, lBt⟩ := hv.book hlt_
         obtain ⟨eRt, lRt⟩ := hv.reader hlt_
         refine WC_seq ?_
         refine WC_seq ?_
         refine WC_reg fun ds => ?_
         refine WL_q rfl (q_move (lk_in rfl ht21)) ?_
         refine WL_q rfl (q_move (lk1 rfl <| lk_off rfl <| lk32 rfl <| lk32 rfl <| lk8 rfl <| lk4 rfl <| lk2 rfl <| lk1 rfl <| lk_in rfl hs18)) ?_
         refine WL_q rfl (q_lss (lk1 rfl <| lk0) (lk0)) ?_
         refine WL_nil ?_
         refine then_n ?_
         refine WC_if_true (lk0) (by first | rfl | exact decide_eq_true (by omega)) ?_
         refine WC_skip ?_
         refine then_n ?_
         refine WC_seq ?_
         refine WC_block ?_
         refine WC_seq ?_
         refine WC_draw (.inl rfl) (fun _ _ h => h) (by kernel_rfl) (by kernel_rfl) fun ds => ?_
         refine WQ_q rfl (q_fieldAddrB fd_27_3 (lk2 rfl <| lk1 rfl <| lk_off rfl <| lk32 rfl <| lk32 rfl <| lk8 rfl <| lk4 rfl <| lk2 rfl <| lk1 rfl <| lk_off rfl <| lk32 rfl <| lk16 rfl <| lk4 rfl <| lk1 rfl <| lk0)) ?_
         refine WQ_q rfl (q_load1 one_25 (lk0) (Cell.own 3 rfl rfl)) ?_
         refine WQ_q rfl (q_move (lk4 rfl <| lk1 rfl <| lk_off rfl <| lk32 rfl <| lk32 rfl <| lk8 rfl <| lk4 rfl <| lk2 rfl <| lk1 rfl <| lk_off rfl <| lk32 rfl <| lk8 rfl <| lk4 rfl <| lk1 rfl <| lk0)) ?_
         refine WQ_q rfl (q_move (lk4 rfl <| lk2 rfl <| lk_in rfl ht21)) ?_
         refine WQ_q rfl (q_index (k := t) sl_29 (lk1 rfl <| lk0) hl.plain (lk0) rfl htl) ?_
         refine WQ_q rfl (q_load1 one_3 (lk0) (hl.cell1 htl rfl)) ?_
         refine WQ_q rfl (q_index  sl_25 (lk4 rfl <| lk0) hr.reqs.plain (lk0) rfl hlt_) ?_
         refine WQ_q rfl (q_fieldAddr fd_58_0 (lk0)) ?_
         refine WQ_q rfl (q_load1 one_3 (lk0) (hr.reqs.cell hlt_ rfl)) ?_
         refine WQ_q rfl (q_fieldAddrB fd_58_0 (lk8 rfl <| lk4 rfl <| lk_off rfl <| lk32 rfl <| lk8 rfl <| lk1 rfl <| lk0)) ?_
         refine WQ_q rfl (q_load1 one_3 (lk0) (Cell.own 1 rfl rfl)) ?_
         refine WQ_q rfl (q_eql (lk2 rfl <| lk0) (lk0)) ?_
         refine WQ_q rfl (q_move (lk0)) ?_
         refine WQ_want rfl rfl (lk0) (decide_eq_false (fun e => h2t.1 (by omega))) ?_
         refine WQ_q rfl (q_fieldAddrB fd_27_3 (lk16 rfl <| lk_off rfl <| lk32 rfl <| lk32 rfl <| lk8 rfl <| lk4 rfl <| lk2 rfl <| lk1 rfl <| lk_off rfl <| lk32 rfl <| lk16 rfl <| lk4 rfl <| lk1 rfl <| lk0)) ?_
         refine WQ_want rfl rfl (lk1 rfl <| lk0) (decide_eq_false (fun e => h2t.1 (by omega))) ?_
         refine WQ_q rfl (q_load1 one_25 (lk0) (Cell.own 3 rfl rfl)) ?_
         refine WQ_want rfl rfl (lk2 rfl <| lk0) (decide_eq_false (fun e => h2t.1 (by omega))) ?_
         refine WQ_q rfl (q_move (lk16 rfl <| lk2 rfl <| lk_off rfl <| lk32 rfl <| lk32 rfl <| lk8 rfl <| lk4 rfl <| lk2 rfl <| lk1 rfl <| lk_off rfl <| lk32 rfl <| lk8 rfl <| lk4 rfl <| lk1 rfl <| lk0)) ?_
         refine WQ_want rfl rfl (lk2 rfl <| lk1 rfl <| lk0) (decide_eq_false (fun e => h2t.1 (by omega))) ?_
         refine WQ_q rfl (q_move (lk16 rfl <| lk2 rfl <| lk1 rfl <| lk_in rfl ht21)) ?_
         refine WQ_want rfl rfl (lk4 rfl <| lk0) (decide_eq_false (fun e => h2t.1 (by omega))) ?_
         refine WQ_q rfl (q_index (k := t) sl_29 (lk1 rfl <| lk0) hl.plain (lk0) rfl htl) ?_
         refine WQ_want rfl rfl (lk4 rfl <| lk1 rfl <| lk0) (decide_eq_false (fun e => h2t.1 (by omega))) ?_
         refine WQ_q rfl (q_load1 one_3 (lk0) (hl.cell1 htl rfl)) ?_
         refine WQ_want rfl rfl (lk4 rfl <| lk2 rfl <| lk0) (decide_eq_false (fun e => h2t.1 (by omega))) ?_
         refine WQ_q rfl (q_index  sl_25 (lk4 rfl <| lk0) hr.reqs.plain (lk0) rfl hlt_) ?_
         refine WQ_want rfl rfl (lk4 rfl <| lk2 rfl <| lk1 rfl <| lk0) (decide_eq_false (fun e => h2t.1 (by omega))) ?_
         refine WQ_q rfl (q_fieldAddr fd_58_1 (lk0)) ?_
         refine WQ_want rfl rfl (lk8 rfl <| lk0) (decide_eq_false (fun e => h2t.1 (by omega))) ?_
         refine WQ_q rfl (q_load1 one_3 (lk0) (hr.reqs.cell hlt_ rfl)) ?_
         refine WQ_want rfl rfl (lk8 rfl <| lk1 rfl <| lk0) (decide_eq_false (fun e => h2t.1 (by omega))) ?_
         refine WQ_q rfl (q_fieldAddrB fd_58_1 (lk16 rfl <| lk8 rfl <| lk1 rfl <| lk_off rfl <| lk32 rfl <| lk8 rfl <| lk1 rfl <| lk0)) ?_
         refine WQ_want rfl rfl (lk8 rfl <| lk2 rfl <| lk0) (decide_eq_false (fun e => h2t.1 (by omega))) ?_
         refine WQ_q rfl (q_load1 one_3 (lk0) (Cell.own 1 rfl rfl)) ?_
         refine WQ_want rfl rfl (lk8 rfl <| lk2 rfl <| lk1 rfl <| lk0) (decide_eq_false (fun e => h2t.1 (by omega))) ?_
         refine WQ_q rfl (q_eql (lk2 rfl <| lk0) (lk0)) ?_
         refine WQ_q rfl (q_pick_false (lk8 rfl <| lk4 rfl <| lk0) (decide_eq_false (fun e => h2t.1 (by omega))) (lk0)) ?_
         refine WQ_nil ?_
         refine then_n ?_
         refine WC_if_false (lk0) (decide_eq_false (fun e => h2t.2 (by omega))) ?_
         refine WC_skip ?_
         refine block_n (then_n ?_)
         refine WC_reg fun ds => ?_
         refine WL_q rfl (q_move (lk16 rfl <| lk8 rfl <| lk4 rfl <| lk1 rfl <| lk_in rfl ht21)) ?_
         refine WL_q rfl (q_add (lk0) lk_const rfl (by omega) (by omega)) ?_
         refine WL_q rfl (q_assign (lk0)) ?_
         refine WL_nil ?_
         refine then_n ⟨_, m2 - 1, Off.eq (ou32 rfl <| off_over), by omega, ?_⟩
         exact ⟨t + 1, by omega, (lk0), rfl⟩
        ·
         refine WC_seq ?_
         refine WC_seq ?_
         refine WC_reg fun ds => ?_
         refine WL_q rfl (q_move (lk_in rfl ht21)) ?_
         refine WL_q rfl (q_move (lk1 rfl <| lk_off rfl <| lk32 rfl <| lk32 rfl <| lk8 rfl <| lk4 rfl <| lk2 rfl <| lk1 rfl <| lk_in rfl hs18)) ?_
         refine WL_q rfl (q_lss (lk1 rfl <| lk0) (lk0)) ?_
         refine WL_nil ?_
         refine then_n ?_
         refine WC_if_false (lk0) (by first | rfl | exact decide_eq_false (by omega)) ?_
         have hset := rdL_set hA hlen hlt
         refine WC_exit ?_
         refine then_x (then_x (exit_here ?_))
         refine then_n ?_
         refine WC_seq ?_
         refine WC_drawS (.inl rfl) (fun _ _ h => h) (.cons_cons _ <| .cons_cons _ <| .cons_cons _ <| .cons_cons _ <| .refl _) [16] (by kernel_rfl) fun ds => ?_
         refine WX_take 0 rfl (by kernel_rfl) (by kernel_rfl) (by kernel_rfl) (by kernel_rfl) rfl rfl (fun _ h => h.drop (.cons_cons _ <| .cons_cons _ <| .cons_cons _ <| .cons_cons _ <| .refl _)) (fun _ _ _ h => h) (q_move (lk2 rfl <| lk1 rfl <| lk_off rfl <| lk32 rfl <| lk32 rfl <| lk8 rfl <| lk4 rfl <| lk2 rfl <| lk1 rfl <| lk_off rfl <| lk1 rfl <| lk0)) ?_
         refine WX_take 1 rfl (by kernel_rfl) (by kernel_rfl) (by kernel_rfl) (by kernel_rfl) rfl rfl (fun _ h => h.drop (.cons_cons _ <| .cons_cons _ <| .cons_cons _ <| .cons_cons _ <| .refl _)) (fun _ _ _ h => h) (q_fieldAddrB fd_58_1 (lk4 rfl <| lk_off rfl <| lk32 rfl <| lk8 rfl <| lk1 rfl <| lk0)) ?_
         refine WX_take 2 rfl (by kernel_rfl) (by kernel_rfl) (by kernel_rfl) (by kernel_rfl) rfl rfl (fun _ h => h.drop (.cons_cons _ <| .cons_cons _ <| .cons_cons _ <| .cons_cons _ <| .refl _)) (fun _ _ _ h => h) (q_load1 one_3 (lk0) (Cell.own 1 rfl rfl)) ?_
         refine WX_take 3 rfl (by kernel_rfl) (by kernel_rfl) (by kernel_rfl) (by kernel_rfl) rfl rfl (fun _ h => h.drop (.cons_cons _ <| .cons_cons _ <| .cons_cons _ <| .cons_cons _ <| .refl _)) (fun _ _ _ h => h) (q_fieldAddrB fd_58_2 (lk4 rfl <| lk2 rfl <| lk_off rfl <| lk32 rfl <| lk8 rfl <| lk1 rfl <| lk0)) ?_
         refine WX_take 4 rfl (by kernel_rfl) (by kernel_rfl) (by kernel_rfl) (by kernel_rfl) rfl rfl (fun _ h => h.drop (.cons_cons _ <| .cons_cons _ <| .cons_cons _ <| .cons_cons _ <| .refl _)) (fun _ _ _ h => h) (q_load1 one_3 (lk0) (Cell.own 1 rfl rfl)) ?_
         refine WX_take 5 rfl (by kernel_rfl) (by kernel_rfl) (by kernel_rfl) (by kernel_rfl) rfl rfl (fun _ h => h.drop (.cons_cons _ <| .cons_cons _ <| .cons_cons _ <| .cons_cons _ <| .refl _)) (fun _ _ _ h => h) (q_fieldAddrB fd_27_2 (lk8 rfl <| lk_off rfl <| lk32 rfl <| lk32 rfl <| lk8 rfl <| lk4 rfl <| lk2 rfl <| lk1 rfl <| lk_off rfl <| lk32 rfl <| lk16 rfl <| lk4 rfl <| lk1 rfl <| lk0)) ?_
         refine WX_take 6 rfl (by kernel_rfl) (by kernel_rfl) (by kernel_rfl) (by kernel_rfl) rfl rfl (fun _ h => h.drop (.cons_cons _ <| .cons_cons _ <| .cons_cons _ <| .cons_cons _ <| .refl _)) (fun _ _ _ h => h) (q_load1 one_24 (lk0) (Cell.own 3 rfl rfl)) ?_
         refine WX_take 7 rfl (by kernel_rfl) (by kernel_rfl) (by kernel_rfl) (by kernel_rfl) rfl rfl (fun _ h => h.drop (.cons_cons _ <| .cons_cons _ <| .cons_cons _ <| .cons_cons _ <| .refl _)) (fun _ _ _ h => h) (q_move (lk8 rfl <| lk2 rfl <| lk_off rfl <| lk32 rfl <| lk32 rfl <| lk8 rfl <| lk4 rfl <| lk2 rfl <| lk1 rfl <| lk_off rfl <| lk32 rfl <| lk4 rfl <| lk1 rfl <| lk0)) ?_
         refine WX_take 8 rfl (by kernel_rfl) (by kernel_rfl) (by kernel_rfl) (by kernel_rfl) rfl rfl (fun _ h => h.drop (.cons_cons _ <| .cons_cons _ <| .cons_cons _ <| .cons_cons _ <| .refl _)) (fun _ _ _ h => h) (q_move (lk8 rfl <| lk2 rfl <| lk1 rfl <| lk_off rfl <| lk32 rfl <| lk32 rfl <| lk8 rfl <| lk4 rfl <| lk2 rfl <| lk1 rfl <| lk_in rfl hs18)) ?_
         refine WX_take 9 rfl (by kernel_rfl) (by kernel_rfl) (by kernel_rfl) (by kernel_rfl) rfl rfl (fun _ h => h.drop (.cons_cons _ <| .cons_cons _ <| .cons_cons _ <| .cons_cons _ <| .refl _)) (fun _ _ _ h => h) (q_index (k := k) sl_29 (lk1 rfl <| lk0) hq.plain (lk0) rfl hk2) ?_
         refine WX_take 10 rfl (by kernel_rfl) (by kernel_rfl) (by kernel_rfl) (by kernel_rfl) rfl rfl (fun _ h => h.drop (.cons_cons _ <| .cons_cons _ <| .cons_cons _ <| .cons_cons _ <| .refl _)) (fun _ _ _ h => h) (q_load1 one_3 (lk0) (hq.cell1 hk2 rfl)) ?_
         refine WX_take 11 rfl (by kernel_rfl) (by kernel_rfl) (by kernel_rfl) (by kernel_rfl) rfl rfl (fun _ h => h.drop (.cons_cons _ <| .cons_cons _ <| .cons_cons _ <| .cons_cons _ <| .refl _)) (fun _ _ _ h => h) (q_index  sl_24 (lk4 rfl <| lk0) hr.seats.plain (lk0) rfl hsk) ?_
         refine WX_take 12 rfl (by kernel_rfl) (by kernel_rfl) (by kernel_rfl) (by kernel_rfl) rfl rfl (fun _ h => h.drop (.cons_cons _ <| .cons_cons _ <| .cons_cons _ <| .cons_cons _ <| .refl _)) (fun _ _ _ h => h) (q_fieldAddr fd_66_0 (lk0)) ?_
         refine WX_take 13 rfl (by kernel_rfl) (by kernel_rfl) (by kernel_rfl) (by kernel_rfl) rfl rfl (fun _ h => h.drop (.cons_cons _ <| .cons_cons _ <| .cons_cons _ <| .cons_cons _ <| .refl _)) (fun _ _ _ h => h) (q_load1 one_3 (lk0) (hr.seats.cell hsk rfl)) ?_
         refine WX_take 14 rfl (by kernel_rfl) (by kernel_rfl) (by kernel_rfl) (by kernel_rfl) rfl rfl (fun _ h => h.drop (.cons_cons _ <| .cons_cons _ <| .cons_cons _ <| .cons_cons _ <| .refl _)) (fun _ _ _ h => h) (q_mul (lk8 rfl <| lk1 rfl <| lk0) (lk0) rfl (by omega) (by omega)) ?_
         refine WX_take 15 rfl (by kernel_rfl) (by kernel_rfl) (by kernel_rfl) (by kernel_rfl) rfl rfl (fun _ h => h.drop (.cons_cons _ <| .cons_cons _ <| .cons_cons _ <| .cons_cons _ <| .refl _)) (fun _ _ _ h => h) (q_index (k := r.book (chosenL r bits)[k]) sl_29 (lk8 rfl <| lk4 rfl <| lk2 rfl <| lk0) (plain_row (Nat.le_refl _) (by omega)) (lk8 rfl <| lk4 rfl <| lk0) eB lB) ?_
         refine WX_x0 16 rfl (by kernel_rfl) (x_storeK (k := r.book (chosenL r bits)[k]) sz_3 (lk0) (by simp [addc, base]) (lk1 rfl <| lk0) (i := 2) rfl (by rw [rdL_len]; exact lB) rfl (.next <| .next <| .here) ⟨(fun h => nomatch h), ?_⟩)
         refine WX_done (by kernel_rfl) ?_ _
         refine then_n ?_
         refine WC_reg fun ds => ?_
         refine WL_q rfl (q_move (lk16 rfl <| lk2 rfl <| lk1 rfl <| lk_off rfl <| lk32 rfl <| lk32 rfl <| lk8 rfl <| lk4 rfl <| lk2 rfl <| lk1 rfl <| lk_in rfl hs16)) ?_
         refine WL_q rfl (q_move (lk16 rfl <| lk4 rfl <| lk_off rfl <| lk32 rfl <| lk32 rfl <| lk8 rfl <| lk4 rfl <| lk2 rfl <| lk1 rfl <| lk_off rfl <| lk1 rfl <| lk0)) ?_
         refine WL_q rfl (q_fieldAddrB fd_58_1 (lk16 rfl <| lk4 rfl <| lk1 rfl <| lk_off rfl <| lk32 rfl <| lk8 rfl <| lk1 rfl <| lk0)) ?_
         refine WL_q rfl (q_load1 one_3 (lk0) (Cell.own 1 rfl rfl)) ?_
         refine WL_q rfl (q_index (k := r.book (chosenL r bits)[k]) sl_29 (lk2 rfl <| lk0) (plain_row (Nat.le_refl _) (by omega)) (lk0) eB lB) ?_
         refine WL_q rfl (q_load1 one_3 (lk0) (row_cell (i := 2) rfl (by rw [List.getElem?_set_self (by rw [rdL_len]; exact lB)]))) ?_
         refine WL_q rfl (q_add (lk4 rfl <| lk1 rfl <| lk0) (lk0) rfl (by omega) (by omega)) ?_
         refine WL_q rfl (q_assign (lk0)) ?_
         refine WL_nil ?_
         refine block_n (then_n ?_)
         refine WC_imp (fun _ _ h => h.drop (.cons _ <| .cons _ <| .cons_cons _ <| .cons_cons _ <| .refl _)) ?_
         refine WC_reg fun ds => ?_
         refine WL_q rfl (q_move (lk16 rfl <| lk8 rfl <| lk2 rfl <| lk1 rfl <| lk_off rfl <| lk32 rfl <| lk32 rfl <| lk8 rfl <| lk4 rfl <| lk2 rfl <| lk1 rfl <| lk_in rfl hs18)) ?_
         refine WL_q rfl (q_add (lk0) lk_const rfl (by omega) (by omega)) ?_
         refine WL_q rfl (q_assign (lk0)) ?_
         refine WL_nil ?_
         refine then_n ⟨_, m - 1, Off.eq (ou16 rfl <| ou8 rfl <| ou4 rfl <| ou2 rfl <| off_in rfl <| ou32 rfl <| ou32 rfl <| ou8 rfl <| ou4 rfl <| ou2 rfl <| ou1 rfl <| off_over), by omega, ?_⟩
         refine ⟨k + 1, by omega, (lk0), ?_, ?_⟩
         · rw [costTo_succ hlt hk2, light_at hlk hsk]; exact (lk2 rfl <| lk1 rfl <| lk0)
         · rw [← hset, light_at hlk hsk]
     ·
      refine WC_seq ?_
      refine WC_seq ?_
      refine WC_reg fun ds => ?_
      refine WL_q rfl (q_move (lk_in rfl hs18)) ?_
      refine WL_q rfl (q_move (lk1 rfl <| lk_off rfl <| lk32 rfl <| lk8 rfl <| lk4 rfl <| lk1 rfl <| lk0)) ?_
      refine WL_q rfl (q_lenP sl_29 (lk0) hl.plain) ?_
      refine WL_q rfl (q_lss (lk2 rfl <| lk0) (lk0)) ?_
      refine WL_nil ?_
      refine then_n ?_
      refine WC_if_false (lk0) (by first | rfl | exact decide_eq_false (by omega)) ?_
      obtain rfl : k = (chosenL r bits).length := by omega
      refine WC_exit ?_
      refine then_x (then_x (exit_here ?_))
      refine then_n ?_
      refine WC_seq ?_
      refine WC_seq ?_
      refine WC_reg fun ds => ?_
      refine WL_q rfl (q_assign lk_const) ?_
      refine WL_nil ?_
      refine then_n ?_
      refine WC_block ?_
      refine WC_loopN [6, 22, 23, 24, 225, 226, 227, 228, 229, 230, 231, 232, 233, 234, 235, 236, 237, 238, 239, 240, 241, 242, 243, 244, 245, 246, 247, 248, 249, 250, 251, 252, 253, 254, 255, 256, 257, 258, 259, 260, 261, 262, 263, 264, 265, 266, 267, 268, 269, 270, 271, 272, 273, 274, 275, 276, 277, 278, 279, 280, 281, 282, 283, 284, 285, 286, 287, 288, 289, 290, 291, 292, 293, 294, 295, 296, 297, 298, 299] (fun m e σ => ∃ k : Nat, m + k = r.books.length ∧ e 22 = .int .i64 (k : Int) ∧ σ = ⟨F20, [(b23, bx 3 (rdL r (chosenL r bits) s (chosenL r bits).length)), (b10, bx 27 [vb, vr, vs, vq])]⟩) (r.books.length) ?_ ?_
      · exact ⟨0, by omega, (lk0), rfl⟩
      ·
       rintro m3 e3 _ ⟨k, hm3, hu22, rfl⟩
       by_cases hlt : k < r.books.length
       ·
        have hBk := hv.bo k hlt
        have hbkE := bk_at hlt
        rw [← hbkE] at hBk
        have hU := used_le hv hA (chosen_lt (bits := bits)) hS.1 hlt (chosenL r bits).length (Nat.le_refl _)
        rw [← hbkE] at hU
        have hLa := left_at (r := r) (l := (chosenL r bits)) (ss := castL s) (n := (chosenL r bits).length) hlt
        rw [← hbkE] at hLa
        refine WC_seq ?_
        refine WC_seq ?_
        refine WC_reg fun ds => ?_
        refine WL_q rfl (q_move (lk_in rfl hu22)) ?_
        refine WL_q rfl (q_fieldAddrB fd_27_0 (lk1 rfl <| lk_off rfl <| lk4 rfl <| lk1 rfl <| lk_off rfl <| lk32 rfl <| lk16 rfl <| lk4 rfl <| lk1 rfl <| lk0)) ?_
        refine WL_q rfl (q_load1 one_22 (lk0) (Cell.own 1 rfl rfl)) ?_
        refine WL_q rfl (q_lenP sl_22 (lk0) hr.books.plain) ?_
        refine WL_q rfl (q_lss (lk2 rfl <| lk1 rfl <| lk0) (lk0)) ?_
        refine WL_nil ?_
        refine then_n ?_
        refine WC_if_true (lk0) (by first | rfl | exact decide_eq_true (by omega)) ?_
        refine WC_skip ?_
        refine then_n ?_
        refine WC_seq ?_
        refine WC_block ?_
        refine WC_seq ?_
        refine WC_reg fun ds => ?_
        refine WL_q rfl (q_fieldAddrB fd_27_0 (lk4 rfl <| lk1 rfl <| lk_off rfl <| lk4 rfl <| lk1 rfl <| lk_off rfl <| lk32 rfl <| lk16 rfl <| lk4 rfl <| lk1 rfl <| lk0)) ?_
        refine WL_q rfl (q_load1 one_22 (lk0) (Cell.own 1 rfl rfl)) ?_
        refine WL_q rfl (q_move (lk4 rfl <| lk2 rfl <| lk1 rfl <| lk_in rfl hu22)) ?_
        refine WL_q rfl (q_index  sl_22 (lk1 rfl <| lk0) hr.books.plain (lk0) rfl hlt) ?_
        refine WL_q rfl (q_fieldAddr fd_62_2 (lk0)) ?_
        refine WL_q rfl (q_loadN (vs := [.int .i64 (r.books[k]'hlt).lo, .int .i64 (r.books[k]'hlt).hi]) agg_60 (lk0) rfl rfl (hr.books.part2 hlt rfl rfl)) ?_
        refine WL_x rfl (x_alloc zr_60 rfl fun b30 hb30 nb30 => ?_)
        refine WL_x0 (x_storeA sz_60 (lk0) (lk1 rfl <| lk0) (i := 0) rfl rfl rfl rfl (by simp [Value.oneCell']) (.here) ?_)
        refine WL_nil ?_
        refine then_n ?_
        refine WC_seq ?_
        refine WC_reg fun ds => ?_
        refine WL_q rfl (q_fieldAddrB fd_60_0 (lk0)) ?_
        refine WL_q rfl (q_load1 one_3 (lk0) (Cell.own 0 rfl rfl)) ?_
        refine WL_q rfl (q_assign (lk0)) ?_
        refine WL_nil ?_
        refine then_n ?_
        refine WC_seq ?_
        refine WC_seq ?_
        refine WC_reg fun ds => ?_
        refine WL_q rfl (q_move (lk8 rfl <| lk4 rfl <| lk2 rfl <| lk1 rfl <| lk_off rfl <| lk4 rfl <| lk1 rfl <| lk_off rfl <| lk32 rfl <| lk16 rfl <| lk4 rfl <| lk2 rfl <| lk_entry rfl)) ?_
        refine WL_q rfl (q_lenP sl_53 (lk0) hy.plain) ?_
        refine WL_q rfl (q_gtr (lk0) lk_const) ?_
        refine WL_nil ?_
        refine then_n ?_
        refine WC_cut [24, 243, 244, 245, 246, 247, 248, 249, 250, 251, 252, 253, 254, 255, 256, 257, 258, 259, 260] (fun st σ => ∃ z : Int, st 24 = .int .i64 z ∧ (r.books[k]'hlt).lo ≤ z ∧ z ≤ (r.books[k]'hlt).hi ∧ σ = ⟨F20, [(b30, bx 60 [.int .i64 (r.books[k]'hlt).lo, .int .i64 (r.books[k]'hlt).hi]), (b23, bx 3 (rdL r (chosenL r bits) s (chosenL r bits).length)), (b10, bx 27 [vb, vr, vs, vq])]⟩) ?_ ?_
        ·
         by_cases hy0 : 0 < ys.length
         ·
          have hyk : k % ys.length < ys.length := Nat.mod_lt _ hy0
          have hyv := hy16 _ (List.getElem_mem hyk)
          have hm1 := Int.emod_nonneg (ys[k % ys.length] : Int) (show ((r.books[k]'hlt).hi - (r.books[k]'hlt).lo + 1) ≠ 0 by omega)
          have hm2 := Int.emod_lt_of_pos (ys[k % ys.length] : Int) (show 0 < ((r.books[k]'hlt).hi - (r.books[k]'hlt).lo + 1) by omega)
          refine WC_if_true (lk0) (decide_eq_true (by omega)) ?_
          refine WC_draw (.inl rfl) (fun _ _ h => h) (by kernel_rfl) (by kernel_rfl) fun ds => ?_
          refine WQ_q rfl (q_fieldAddrB fd_60_0 (lk4 rfl <| lk2 rfl <| lk0)) ?_
          refine WQ_q rfl (q_load1 one_3 (lk0) (Cell.own 0 rfl rfl)) ?_
          refine WQ_q rfl (q_move (lk16 rfl <| lk4 rfl <| lk_off rfl <| lk4 rfl <| lk1 rfl <| lk_off rfl <| lk32 rfl <| lk16 rfl <| lk4 rfl <| lk2 rfl <| lk_entry rfl)) ?_
          refine WQ_q rfl (q_move (lk16 rfl <| lk4 rfl <| lk1 rfl <| lk_in rfl hu22)) ?_
          refine WQ_q rfl (q_move (lk16 rfl <| lk4 rfl <| lk2 rfl <| lk_off rfl <| lk4 rfl <| lk1 rfl <| lk_off rfl <| lk32 rfl <| lk16 rfl <| lk4 rfl <| lk2 rfl <| lk_entry rfl)) ?_
          refine WQ_q rfl (q_lenP sl_53 (lk0) hy.plain) ?_
          refine WQ_q rfl (q_remN (lk2 rfl <| lk0) (lk0) hy0) ?_
          refine WQ_q rfl (q_index (k := k % ys.length) sl_53 (lk4 rfl <| lk0) hy.plain (lk0) rfl hyk) ?_
          refine WQ_q rfl (q_load1 one_67 (lk0) (hy.cell1 hyk rfl)) ?_
          refine WQ_q rfl (q_convert ⟨_, Try.underlying67⟩ Try.underlying3 (lk0) (IntWalk.i64_in _ ⟨by omega, by omega⟩)) ?_
          refine WQ_q rfl (q_fieldAddrB fd_60_1 (lk16 rfl <| lk0)) ?_
          refine WQ_q rfl (q_load1 one_3 (lk0) (Cell.own 0 rfl rfl)) ?_
          refine WQ_q rfl (q_fieldAddrB fd_60_0 (lk16 rfl <| lk2 rfl <| lk0)) ?_
          refine WQ_q rfl (q_load1 one_3 (lk0) (Cell.own 0 rfl rfl)) ?_
          refine WQ_q rfl (q_sub (lk2 rfl <| lk0) (lk0) rfl (by omega) (by omega)) ?_
          refine WQ_q rfl (q_add (lk0) lk_const rfl (by omega) (by omega)) ?_
          refine WQ_q rfl (q_rem (lk4 rfl <| lk2 rfl <| lk0) (lk0) (Int.natCast_nonneg _) (by omega)) ?_
          refine WQ_q rfl (q_add (lk8 rfl <| lk4 rfl <| lk2 rfl <| lk1 rfl <| lk0) (lk0) rfl (by omega) (by omega)) ?_
          refine WQ_q rfl (q_assign (lk0)) ?_
          refine WQ_nil ?_
          refine then_n ⟨_, Off.eq (ou16 rfl <| ou2 rfl <| ou1 rfl <| off_refl), ?_⟩
          exact ⟨_, (lk0), by omega, by omega, rfl⟩
         ·
          refine WC_if_false (lk0) (decide_eq_false (by omega)) ?_
          refine WC_skip ?_
          refine then_n ⟨_, Off.eq (off_refl), ?_⟩
          exact ⟨_, (lk2 rfl <| lk1 rfl <| lk0), by omega, by omega, rfl⟩
        rintro e4 _ ⟨z, hc24, hz1, hz2, rfl⟩
        refine WC_seq ?_
        refine WC_draw (.inl rfl) (fun _ _ h => h) (by kernel_rfl) (by kernel_rfl) fun ds => ?_
        refine WQ_q rfl (q_move (lk_off rfl <| lk16 rfl <| lk2 rfl <| lk_off rfl <| lk4 rfl <| lk1 rfl <| lk_off rfl <| lk1 rfl <| lk0)) ?_
        refine WQ_q rfl (q_move (lk1 rfl <| lk_off rfl <| lk16 rfl <| lk2 rfl <| lk_in rfl hu22)) ?_
        refine WQ_q rfl (q_index (k := k) sl_29 (lk1 rfl <| lk0) (plain_row (Nat.le_refl _) (by omega)) (lk0) rfl hlt) ?_
        refine WQ_q rfl (q_load1 one_3 (lk0) (row_cell (i := 1) rfl (rdL_get hlt))) ?_
        refine WQ_q rfl (q_move (lk4 rfl <| lk_in rfl hc24)) ?_
        refine WQ_q rfl (q_gtr (lk1 rfl <| lk0) (lk0)) ?_
        refine WQ_q rfl (q_move (lk0)) ?_
        refine WQ_want rfl rfl (lk0) (decide_eq_false (by omega)) ?_
        refine WQ_q rfl (q_move (lk4 rfl <| lk2 rfl <| lk1 rfl <| lk_in rfl hc24)) ?_
        refine WQ_want rfl rfl (lk1 rfl <| lk0) (decide_eq_false (by omega)) ?_
        refine WQ_q rfl (q_move (lk8 rfl <| lk_off rfl <| lk16 rfl <| lk2 rfl <| lk_off rfl <| lk4 rfl <| lk1 rfl <| lk_off rfl <| lk1 rfl <| lk0)) ?_
        refine WQ_want rfl rfl (lk2 rfl <| lk0) (decide_eq_false (by omega)) ?_
        refine WQ_q rfl (q_move (lk8 rfl <| lk1 rfl <| lk_off rfl <| lk16 rfl <| lk2 rfl <| lk_in rfl hu22)) ?_
        refine WQ_want rfl rfl (lk2 rfl <| lk1 rfl <| lk0) (decide_eq_false (by omega)) ?_
        refine WQ_q rfl (q_index (k := k) sl_29 (lk1 rfl <| lk0) (plain_row (Nat.le_refl _) (by omega)) (lk0) rfl hlt) ?_
        refine WQ_want rfl rfl (lk4 rfl <| lk0) (decide_eq_false (by omega)) ?_
        refine WQ_q rfl (q_load1 one_3 (lk0) (row_cell (i := 1) rfl (rdL_get hlt))) ?_
        refine WQ_want rfl rfl (lk4 rfl <| lk1 rfl <| lk0) (decide_eq_false (by omega)) ?_
        refine WQ_q rfl (q_sub (lk4 rfl <| lk0) (lk0) rfl (by omega) (by omega)) ?_
        refine WQ_want rfl rfl (lk4 rfl <| lk2 rfl <| lk0) (decide_eq_false (by omega)) ?_
        refine WQ_q rfl (q_move (lk8 rfl <| lk4 rfl <| lk1 rfl <| lk_off rfl <| lk16 rfl <| lk2 rfl <| lk_off rfl <| lk4 rfl <| lk1 rfl <| lk_off rfl <| lk16 rfl <| lk8 rfl <| lk1 rfl <| lk0)) ?_
        refine WQ_want rfl rfl (lk4 rfl <| lk2 rfl <| lk1 rfl <| lk0) (decide_eq_false (by omega)) ?_
        refine WQ_q rfl (q_move (lk8 rfl <| lk4 rfl <| lk2 rfl <| lk_off rfl <| lk16 rfl <| lk2 rfl <| lk_in rfl hu22)) ?_
        refine WQ_want rfl rfl (lk8 rfl <| lk0) (decide_eq_false (by omega)) ?_
        refine WQ_q rfl (q_index (k := k) sl_42 (lk1 rfl <| lk0) hlf.plain (lk0) rfl (by rw [leftL_length]; exact hlt)) ?_
        refine WQ_want rfl rfl (lk8 rfl <| lk1 rfl <| lk0) (decide_eq_false (by omega)) ?_
        refine WQ_q rfl (q_loadN agg_60 (lk0) rfl rfl (hlf.whole (by rw [leftL_length]; exact hlt))) ?_
        refine WQ_want rfl rfl (lk8 rfl <| lk2 rfl <| lk0) (decide_eq_false (by omega)) ?_
        refine WQ_c rfl (q_call bd_40 lk_func (.cons (lk4 rfl <| lk0) (.cons (lk0) .nil)) (inside_ok _ _ _) (fun _ _ h => h.trans (congrArg Value.bool (show _ = true by rw [hLa.1, hLa.2]; exact left_in hz1 hz2)))) ?_
        refine WQ_want rfl rfl (lk8 rfl <| lk2 rfl <| lk1 rfl <| lk0) (decide_eq_false (by omega)) ?_
        refine WQ_q rfl (q_not (lk0)) ?_
        refine WQ_q rfl (q_pick_false (lk8 rfl <| lk4 rfl <| lk0) (decide_eq_false (by omega)) (lk0)) ?_
        refine WQ_q rfl (q_move (lk0)) ?_
        refine WQ_want rfl rfl (lk0) rfl ?_
        refine WQ_q rfl (q_move (lk16 rfl <| lk4 rfl <| lk1 rfl <| lk_off rfl <| lk16 rfl <| lk2 rfl <| lk_off rfl <| lk4 rfl <| lk1 rfl <| lk_off rfl <| lk16 rfl <| lk8 rfl <| lk1 rfl <| lk0)) ?_
        refine WQ_want rfl rfl (lk1 rfl <| lk0) rfl ?_
        refine WQ_q rfl (q_move (lk16 rfl <| lk4 rfl <| lk2 rfl <| lk_off rfl <| lk16 rfl <| lk2 rfl <| lk_in rfl hu22)) ?_
        refine WQ_want rfl rfl (lk2 rfl <| lk0) rfl ?_
        refine WQ_q rfl (q_index (k := k) sl_42 (lk1 rfl <| lk0) hlf.plain (lk0) rfl (by rw [leftL_length]; exact hlt)) ?_
        refine WQ_want rfl rfl (lk2 rfl <| lk1 rfl <| lk0) rfl ?_
        refine WQ_q rfl (q_fieldAddr fd_60_1 (lk0)) ?_
        refine WQ_want rfl rfl (lk4 rfl <| lk0) rfl ?_
        refine WQ_q rfl (q_load1 one_3 (lk0) (hlf.cell (by rw [leftL_length]; exact hlt) rfl)) ?_
        refine WQ_want rfl rfl (lk4 rfl <| lk1 rfl <| lk0) rfl ?_
        refine WQ_q rfl (q_move (lk16 rfl <| lk8 rfl <| lk2 rfl <| lk_off rfl <| lk16 rfl <| lk2 rfl <| lk_off rfl <| lk4 rfl <| lk1 rfl <| lk_off rfl <| lk16 rfl <| lk8 rfl <| lk1 rfl <| lk0)) ?_
        refine WQ_want rfl rfl (lk4 rfl <| lk2 rfl <| lk0) rfl ?_
        refine WQ_q rfl (q_move (lk16 rfl <| lk8 rfl <| lk2 rfl <| lk1 rfl <| lk_off rfl <| lk16 rfl <| lk2 rfl <| lk_in rfl hu22)) ?_
        refine WQ_want rfl rfl (lk4 rfl <| lk2 rfl <| lk1 rfl <| lk0) rfl ?_
        refine WQ_q rfl (q_index (k := k) sl_42 (lk1 rfl <| lk0) hlf.plain (lk0) rfl (by rw [leftL_length]; exact hlt)) ?_
        refine WQ_want rfl rfl (lk8 rfl <| lk0) rfl ?_
        refine WQ_q rfl (q_fieldAddr fd_60_0 (lk0)) ?_
        refine WQ_want rfl rfl (lk8 rfl <| lk1 rfl <| lk0) rfl ?_
        refine WQ_q rfl (q_load1 one_3 (lk0) (hlf.cell (by rw [leftL_length]; exact hlt) rfl)) ?_
        refine WQ_want rfl rfl (lk8 rfl <| lk2 rfl <| lk0) rfl ?_
        refine WQ_q rfl (q_sub (lk4 rfl <| lk1 rfl <| lk0) (lk0) rfl (by omega) (by omega)) ?_
        refine WQ_want rfl rfl (lk8 rfl <| lk2 rfl <| lk1 rfl <| lk0) rfl ?_
        refine WQ_q rfl (q_fieldAddrB fd_60_1 (lk32 rfl <| lk_off rfl <| lk4 rfl <| lk2 rfl <| lk0)) ?_
        refine WQ_want rfl rfl (lk8 rfl <| lk4 rfl <| lk0) rfl ?_
        refine WQ_q rfl (q_load1 one_3 (lk0) (Cell.own 0 rfl rfl)) ?_
        refine WQ_want rfl rfl (lk8 rfl <| lk4 rfl <| lk1 rfl <| lk0) rfl ?_
        refine WQ_q rfl (q_fieldAddrB fd_60_0 (lk32 rfl <| lk2 rfl <| lk_off rfl <| lk4 rfl <| lk2 rfl <| lk0)) ?_
        refine WQ_want rfl rfl (lk8 rfl <| lk4 rfl <| lk2 rfl <| lk0) rfl ?_
        refine WQ_q rfl (q_load1 one_3 (lk0) (Cell.own 0 rfl rfl)) ?_
        refine WQ_want rfl rfl (lk8 rfl <| lk4 rfl <| lk2 rfl <| lk1 rfl <| lk0) rfl ?_
        refine WQ_q rfl (q_sub (lk2 rfl <| lk0) (lk0) rfl (by omega) (by omega)) ?_
        refine WQ_want rfl rfl (lk16 rfl <| lk0) rfl ?_
        refine WQ_q rfl (q_neq (lk4 rfl <| lk1 rfl <| lk0) (lk0)) ?_
        refine WQ_q rfl (q_pick_false (lk16 rfl <| lk1 rfl <| lk0) rfl (lk0)) ?_
        refine WQ_nil ?_
        refine then_n ?_
        refine WC_if_false (lk0) (decide_eq_false (by omega)) ?_
        refine WC_skip ?_
        refine block_n (then_n ?_)
        refine WC_imp (fun _ _ h => h.drop (.cons _ <| .cons_cons _ <| .cons_cons _ <| .refl _)) ?_
        refine WC_reg fun ds => ?_
        refine WL_q rfl (q_move (lk32 rfl <| lk4 rfl <| lk2 rfl <| lk1 rfl <| lk_off rfl <| lk16 rfl <| lk2 rfl <| lk_in rfl hu22)) ?_
        refine WL_q rfl (q_add (lk0) lk_const rfl (by omega) (by omega)) ?_
        refine WL_q rfl (q_assign (lk0)) ?_
        refine WL_nil ?_
        refine then_n ⟨_, m3 - 1, Off.eq (ou32 rfl <| ou8 rfl <| ou2 rfl <| off_in rfl <| ou16 rfl <| ou2 rfl <| off_over), by omega, ?_⟩
        exact ⟨k + 1, by omega, (lk0), rfl⟩
       ·
        refine WC_seq ?_
        refine WC_seq ?_
        refine WC_reg fun ds => ?_
        refine WL_q rfl (q_move (lk_in rfl hu22)) ?_
        refine WL_q rfl (q_fieldAddrB fd_27_0 (lk1 rfl <| lk_off rfl <| lk4 rfl <| lk1 rfl <| lk_off rfl <| lk32 rfl <| lk16 rfl <| lk4 rfl <| lk1 rfl <| lk0)) ?_
        refine WL_q rfl (q_load1 one_22 (lk0) (Cell.own 1 rfl rfl)) ?_
        refine WL_q rfl (q_lenP sl_22 (lk0) hr.books.plain) ?_
        refine WL_q rfl (q_lss (lk2 rfl <| lk1 rfl <| lk0) (lk0)) ?_
        refine WL_nil ?_
        refine then_n ?_
        refine WC_if_false (lk0) (by first | rfl | exact decide_eq_false (by omega)) ?_
        refine WC_exit ?_
        refine then_x (then_x (exit_here ?_))
        refine then_n ?_
        refine WC_seq ?_
        refine WC_reg fun ds => ?_
        refine WL_q rfl (q_move (lk4 rfl <| lk1 rfl <| lk_off rfl <| lk4 rfl <| lk1 rfl <| lk_in rfl hs16)) ?_
        refine WL_q rfl (q_move (lk4 rfl <| lk2 rfl <| lk_off rfl <| lk4 rfl <| lk1 rfl <| lk_off rfl <| lk32 rfl <| lk4 rfl <| lk0)) ?_
        refine WL_q rfl (q_eql (lk1 rfl <| lk0) (lk0)) ?_
        refine WL_q rfl (q_move (lk0)) ?_
        refine WL_want rfl rfl (lk0) (decide_eq_true (by rw [hn]; exact costTo_all hlen)) ?_
        refine WL_c rfl (q_call bd_21 lk_func .nil awake_ok (fun _ _ h => h)) ?_
        refine WL_q rfl (q_pick_true (lk1 rfl <| lk0) (decide_eq_true (by rw [hn]; exact costTo_all hlen)) (lk0)) ?_
        refine WL_q rfl (q_assign (lk0)) ?_
        refine WL_nil ?_
        refine then_n ?_
        refine WC_ret ?_
        refine post_ret rfl (.tmp (lk0) .nil) ?_
        rfl
  ·
   refine WC_seq ?_
   refine WC_reg fun ds => ?_
   refine WL_x rfl (x_box (lk_entry rfl) rfl fun b31 hb31 nb31 => ?_)
   refine WL_q rfl (q_assign lk_const) ?_
   refine WL_nil ?_
   refine then_n ?_
   refine WC_seq ?_
   refine WC_seq ?_
   refine WC_reg fun ds => ?_
   refine WL_q rfl (q_loadN agg_27 (lk1 rfl <| lk0) rfl rfl (own_whole 0 rfl)) ?_
   refine WL_c rfl (q_call bd_37 lk_func (.cons (lk0) .nil) (valid_ok hr) (fun _ _ h => h)) ?_
   refine WL_q rfl (q_not (lk0)) ?_
   refine WL_nil ?_
   refine then_n ?_
   refine WC_if_true (lk0) (by simp [h0]) ?_
   refine WC_seq ?_
   refine WC_reg fun ds => ?_
   refine WL_q rfl (q_loadN agg_27 (lk4 rfl <| lk0) rfl rfl (own_whole 0 rfl)) ?_
   refine WL_x rfl (x_call bd_22 lk_func (.cons (lk0) (.cons lk_const .nil)) (seatsV_ok hr (v := .slice none 0 0) (xs := []) Sl.nil (seatsE_bad (by rw [someErr_nil]; exact h0))) fun v32 F33 hr34 hF35 => ?_)
   replace hr := hr.mono hF35
   replace hy := hy.mono hF35
   obtain ⟨w_, rfl, hq0⟩ := hr34
   refine WL_q rfl (q_move (lk0)) ?_
   refine WL_q rfl (q_extract (lk0) rfl) ?_
   refine WL_q rfl (q_extract (lk1 rfl <| lk0) rfl) ?_
   refine WL_q rfl (q_extract (lk2 rfl <| lk0) rfl) ?_
   refine WL_q rfl (q_assign (lk2 rfl <| lk0)) ?_
   refine WL_q rfl (q_assign (lk2 rfl <| lk0)) ?_
   refine WL_q rfl (q_assign (lk2 rfl <| lk0)) ?_
   refine WL_nil ?_
   refine then_n ?_
   refine WC_seq ?_
   refine WC_reg fun ds => ?_
   refine WL_q rfl (q_move (lk0)) ?_
   refine WL_q rfl (q_neq (lk0) lk_const) ?_
   refine WL_q rfl (q_move (lk0)) ?_
   refine WL_want rfl rfl (lk0) (decide_eq_true (by rw [someErr_nil]; exact h0)) ?_
   refine WL_c rfl (q_call bd_21 lk_func .nil awake_ok (fun _ _ h => h)) ?_
   refine WL_q rfl (q_pick_true (lk1 rfl <| lk0) (decide_eq_true (by rw [someErr_nil]; exact h0)) (lk0)) ?_
   refine WL_q rfl (q_assign (lk0)) ?_
   refine WL_nil ?_
   refine then_n ?_
   refine WC_ret ?_
   refine then_r ?_
   refine post_ret rfl (.tmp (lk0) .nil) ?_
   rfl
end Go.Proofs.Ytbcjfkcpfjccdaa
namespace Go.Proofs.Ytbcjfkcpfjccdaa
open Go.ChangeShapes Go.WideShapes Go.ChangeAt Go.RowKit
set_option maxRecDepth 100000 in
theorem readerLightLifted (os : Os) (started : os.Started) (H : Type) (enc : TypeId × Value → H) :
    ReturnsInHanded {} Try.checked os 7 .any (Rows.readerLightSpec.pre6 enc Try.prog Try.f7 Rows.readerLightRow.domain false) (Rows.readerLightSpec.post enc Try.prog Try.f7 false true false false) := by
  refine returnsInHanded_of_change_sized (C := Try.checked) ownKnob0 started (by kernel_rfl) Try.func7
    (ChangeSpec.witness6 (enc := enc) (C := Try.checked) false ⟨#[], #[.agg #[.slice none 0 0, .slice none 0 0, .slice none 0 0, .slice none 0 0], .int .u8 0, .slice none 0 0], []⟩ 8 (by kernel_rfl) (by kernel_rfl) (by kernel_rfl) (by kernel_rfl)) ?_
  intro W base args ds gs before hval0 hW hcnd hsz _
  have hval : ∀ (j : Nat) t v, Try.f7.params[j]? = some t → args[j]? = some v → Value.okWide Try.prog W .any base t v := hval0
  have hW' := hW
  obtain ⟨p, q, hA0, hV, rfl, hfz, hnd⟩ := hW
  have hA : DataW.TrodAll enc Try.prog W 0 (fun _ => true) true Try.f7.params.toList args.toList ds p := hA0
  rw [Try.params7] at hA hval
  obtain ⟨v0, vs0, d0, ds0, p0, q0, hargs, rfl, rfl, h0, r0⟩ := trodAll_cons hA
  obtain ⟨v1, vs1, d1, ds1, p1, q1, rfl, rfl, rfl, h1, r1⟩ := trodAll_cons r0
  obtain ⟨v2, vs2, d2, ds2, p2, q2, rfl, rfl, rfl, h2, r2⟩ := trodAll_cons r1
  obtain ⟨rfl, rfl, rfl⟩ := trodAll_nil r2
  obtain rfl : args = #[v0, v1, v2] := by cases args; simp_all
  obtain ⟨rfl, rfl⟩ := trodVars_none hV
  have hsz' : (DataW.weightsEach Try.prog (Try.f7.params.toList ++ []) ([d0, d1, d2] ++ [])).all (· ≤ reachBytes) = true := hsz
  rw [Try.params7] at hsz'
  have k0 := h0
  have lt0 : ∀ x ∈ p0, x.block < W.heap.size := by obtain ⟨m, hm⟩ := k0; exact DataW.trod_lt m _ _ _ hm
  have k1 := h1
  have lt1 : ∀ x ∈ p1, x.block < W.heap.size := by obtain ⟨m, hm⟩ := k1; exact DataW.trod_lt m _ _ _ hm
  have k2 := h2
  have lt2 : ∀ x ∈ p2, x.block < W.heap.size := by obtain ⟨m, hm⟩ := k2; exact DataW.trod_lt m _ _ _ hm
  obtain ⟨vb, vr, vs, vq, r, rfl, hr, hrw⟩ := arg_room (hval 0 27 v0 rfl rfl) h0 (weights_at hsz' (j := 0) rfl rfl)
  obtain ⟨x, rfl, hx8⟩ := arg_u8 (hval 1 5 v1 rfl rfl) h1 (weights_at hsz' (j := 1) rfl rfl)
  obtain ⟨ys, hy, hy16⟩ := arg_words (hval 2 53 v2 rfl rfl) h2 (weights_at hsz' (j := 2) rfl rfl)
  clear hA0 hval0
  refine (Ok.law (lightLaw_ok hr (bits := x) hy hy16)).mono fun e W' ⟨he, bel⟩ => ?_
  subst he
  exact ⟨_, rfl, _, _, _, [], _, [], hW', trodAll_mk1 (shut_bool Try.underlying4 _), (trodAll_cons_mk (Below.trod laidOut (by kernel_rfl) (of_decide_eq_true (by kernel_rfl)) k0 bel lt0) (trodAll_cons_mk (Below.trod laidOut (by kernel_rfl) (of_decide_eq_true (by kernel_rfl)) k1 bel lt1) (trodAll_cons_mk (Below.trod laidOut (by kernel_rfl) (of_decide_eq_true (by kernel_rfl)) k2 bel lt2) trodAll_mk0))), rfl, bel.frame _, fun h => by cases h⟩
theorem readerLight : Rows.ReaderLightSaid :=
  OpenClaim.holds_of_wide 7 Try.f7 rfl rfl rfl rfl rfl rfl rfl ⟨rfl, rfl, rfl, rfl, rfl⟩ rfl rfl rfl rfl rfl (by kernel_rfl) Try.func7 (by kernel_rfl)
    (of_decide_eq_true (by kernel_rfl)) (by unfold Func.isWrapper; first | (rw [if_pos (by decide +kernel)]; kernel_rfl) | (rw [if_neg (by decide +kernel)]; exact ⟨rfl, rfl⟩))
    (fun os started H enc _ => readerLightLifted os started H enc)
#print axioms readerLight
end Go.Proofs.Ytbcjfkcpfjccdaa
