/-
  ReaderFewer returns true of any room, bits and numbers, and leaves what it is handed as it was. No conditions.
-/
import Derived.Test.YtbcjfkcpfjccdaaPae
namespace Go.Proofs.Ytbcjfkcpfjccdaa
open Go.RowKit
theorem ar_80 : ArrT Try.prog 80 3 5 1 := arrT_of (by kernel_rfl)
theorem el_64 : ElemT Try.prog 64 2 24 (.agg #[.string ⟨#[]⟩, .int .i64 0]) := elemT_of (by kernel_rfl) rfl (by decide)
theorem fd_82_0 : FieldT Try.prog 82 0 0 := fieldT_of (by kernel_rfl)
theorem fd_82_1 : FieldT Try.prog 82 1 2 := fieldT_of (by kernel_rfl)
theorem fd_82_2 : FieldT Try.prog 82 2 5 := fieldT_of (by kernel_rfl)
theorem sz_23 : SizeT Try.prog 23 1 := sizeT_of (by kernel_rfl)
theorem easyR_none {r : Room} {w b : Nat} (h : ¬ 0 < r.readers.length) : easyR r w b = r.readers := by
  have : r.readers = [] := List.eq_nil_of_length_eq_zero (by omega)
  unfold easyR; rw [this]; rfl
theorem easyB_none {r : Room} {w b : Nat} (h : ¬ 0 < r.books.length) : easyB r w b = r.books := by
  have : r.books = [] := List.eq_nil_of_length_eq_zero (by omega)
  unfold easyB; rw [this]; rfl
theorem easyQ_none {r : Room} {w b : Nat} (h : ¬ 0 < r.reqs.length) : easyQ r w b = r.reqs := by
  have : r.reqs = [] := List.eq_nil_of_length_eq_zero (by omega)
  unfold easyQ; rw [this]; rfl
set_option maxRecDepth 100000 in
theorem fewerLaw_ok {F : Heap} {vb vr vs vq : Value} {r : Room} (hr : RoomR F vb vr vs vq r) {ba bb : Nat} (hba : ba < 256) (hbb : bb < 256) {sl : Int} {ss : Bool} {u0 u1 u2 y0 y1 y2 : Nat} (hu0 : u0 < 256) (hu1 : u1 < 256) (hu2 : u2 < 256) (hy0 : y0 < 256) (hy1 : y1 < 256) (hy2 : y2 < 256) : Ok Try.prog 12 [.agg #[vb, vr, vs, vq], .agg #[.int .u8 (ba : Int), .int .u8 (bb : Int)], .agg #[.int .i64 sl, .bool ss, .int .u8 (u0 : Int), .int .u8 (u1 : Int), .int .u8 (u2 : Int), .int .u8 (y0 : Int), .int .u8 (y1 : Int), .int .u8 (y2 : Int)]].toArray F fun u _ => u = .bool true := by
  refine Ok.intro Try.func12 rfl Try.ntmps12 rfl fun w0 => ?_
  have hle0 : F.le F := Heap.le_refl _
  by_cases h0 : (check r).2.2 = 0
  ·
   have hv := valid_of h0
   have hE := chosen_err h0 (bits := ba)
   have hEp := chosen_err h0 (bits := ba &&& bb)
   have hn1_ := hv.nb
   have hn2_ := hv.nr
   have hn3_ := hv.ns
   have hn4_ := hv.nq
   refine WC_seq ?_
   refine WC_reg fun ds => ?_
   refine WL_x rfl (x_box (lk_entry rfl) rfl fun b1 hb1 nb1 => ?_)
   refine WL_x rfl (x_box (lk1 rfl <| lk_entry rfl) rfl fun b2 hb2 nb2 => ?_)
   refine WL_x rfl (x_box (lk2 rfl <| lk_entry rfl) rfl fun b3 hb3 nb3 => ?_)
   refine WL_q rfl (q_assign lk_const) ?_
   refine WL_nil ?_
   refine then_n ?_
   refine WC_seq ?_
   refine WC_seq ?_
   refine WC_reg fun ds => ?_
   refine WL_q rfl (q_loadN agg_27 (lk2 rfl <| lk1 rfl <| lk0) rfl rfl (own_whole 2 rfl)) ?_
   refine WL_c rfl (q_call bd_37 lk_func (.cons (lk0) .nil) (valid_ok hr) (fun _ _ h => h)) ?_
   refine WL_q rfl (q_not (lk0)) ?_
   refine WL_nil ?_
   refine then_n ?_
   refine WC_if_false (lk0) (by simp [h0]) ?_
   refine WC_skip ?_
   refine then_n ?_
   refine WC_seq ?_
   refine WC_reg fun ds => ?_
   refine WL_q rfl (q_loadN agg_27 (lk4 rfl <| lk2 rfl <| lk0) rfl rfl (own_whole 2 rfl)) ?_
   refine WL_q rfl (q_indexArrB (k := 0) ar_77 (lk4 rfl <| lk2 rfl <| lk0) lk_const rfl (by decide)) ?_
   refine WL_q rfl (q_load1 one_5 (lk0) (Cell.own 1 rfl rfl)) ?_
   refine WL_x rfl (x_call bd_38 lk_func (.cons (lk2 rfl <| lk0) (.cons (lk0) .nil)) (chosen_ok hr) fun v4 F5 hr6 hF7 => ?_)
   replace hr := hr.mono hF7
   replace hle0 := Heap.le_trans hle0 hF7
   obtain ⟨wl, hwl⟩ : ∃ y, y = v4 := ⟨_, rfl⟩
   subst hwl
   have hl := hr6
   refine WL_q rfl (q_assign (lk0)) ?_
   refine WL_nil ?_
   refine then_n ?_
   refine WC_seq ?_
   refine WC_reg fun ds => ?_
   refine WL_q rfl (q_loadN agg_27 (lk8 rfl <| lk2 rfl <| lk1 rfl <| lk0) rfl rfl (own_whole 2 rfl)) ?_
   refine WL_q rfl (q_move (lk1 rfl <| lk0)) ?_
   refine WL_c rfl (q_call bd_19 lk_func (.cons (lk1 rfl <| lk0) (.cons (lk0) .nil)) (can_top_ok hr (Nats.ints hl)) (fun _ _ h => h.trans (can_val1 (b := canB r (chosenL r ba)) hE rfl))) ?_
   refine WL_q rfl (q_move (lk0)) ?_
   refine WL_q rfl (q_extract (lk0) rfl) ?_
   refine WL_q rfl (q_extract (lk1 rfl <| lk0) rfl) ?_
   refine WL_q rfl (q_assign (lk1 rfl <| lk0)) ?_
   refine WL_q rfl (q_assign (lk1 rfl <| lk0)) ?_
   refine WL_nil ?_
   refine then_n ?_
   refine WC_seq ?_
   refine WC_cut [10, 11, 38, 39, 40, 41, 42, 43, 44, 45, 46, 47, 48, 49] (fun st σ => st 10 = .bool (canB r (chosenL r (ba &&& bb))) ∧ st 11 = .int .i64 0 ∧ ∃ G, F.le G ∧ RoomR G vb vr vs vq r ∧ Nats G wl (chosenL r ba) ∧ σ = ⟨G, [(b3, bx 82 [.int .i64 sl, .bool ss, .int .u8 (u0 : Int), .int .u8 (u1 : Int), .int .u8 (u2 : Int), .int .u8 (y0 : Int), .int .u8 (y1 : Int), .int .u8 (y2 : Int)]), (b2, bx 77 [.int .u8 (ba : Int), .int .u8 (bb : Int)]), (b1, bx 27 [vb, vr, vs, vq])]⟩) ?_ ?_
   ·
    have hleS := hle0
    refine WC_drawS (.inl rfl) (fun _ _ h => h) (.cons_cons _ <| .cons_cons _ <| .cons_cons _ <| .refl _) [8, 9, 10, 11, 12, 13] (by kernel_rfl) fun ds => ?_
    refine WX_take 0 rfl (by kernel_rfl) (by kernel_rfl) (by kernel_rfl) (by kernel_rfl) rfl rfl (fun _ h => h.drop (.cons_cons _ <| .cons_cons _ <| .cons_cons _ <| .refl _)) (fun _ _ _ h => h) (q_loadN agg_27 (lk16 rfl <| lk2 rfl <| lk1 rfl <| lk0) rfl rfl (own_whole 2 rfl)) ?_
    refine WX_take 1 rfl (by kernel_rfl) (by kernel_rfl) (by kernel_rfl) (by kernel_rfl) rfl rfl (fun _ h => h.drop (.cons_cons _ <| .cons_cons _ <| .cons_cons _ <| .refl _)) (fun _ _ _ h => h) (q_loadN agg_27 (lk16 rfl <| lk4 rfl <| lk0) rfl rfl (own_whole 2 rfl)) ?_
    refine WX_take 2 rfl (by kernel_rfl) (by kernel_rfl) (by kernel_rfl) (by kernel_rfl) rfl rfl (fun _ h => h.drop (.cons_cons _ <| .cons_cons _ <| .cons_cons _ <| .refl _)) (fun _ _ _ h => h) (q_indexArrB (k := 0) ar_77 (lk16 rfl <| lk4 rfl <| lk0) lk_const rfl (by decide)) ?_
    refine WX_take 3 rfl (by kernel_rfl) (by kernel_rfl) (by kernel_rfl) (by kernel_rfl) rfl rfl (fun _ h => h.drop (.cons_cons _ <| .cons_cons _ <| .cons_cons _ <| .refl _)) (fun _ _ _ h => h) (q_load1 one_5 (lk0) (Cell.own 1 rfl rfl)) ?_
    refine WX_take 4 rfl (by kernel_rfl) (by kernel_rfl) (by kernel_rfl) (by kernel_rfl) rfl rfl (fun _ h => h.drop (.cons_cons _ <| .cons_cons _ <| .cons_cons _ <| .refl _)) (fun _ _ _ h => h) (q_indexArrB (k := 1) ar_77 (lk16 rfl <| lk4 rfl <| lk2 rfl <| lk0) lk_const rfl (by decide)) ?_
    refine WX_take 5 rfl (by kernel_rfl) (by kernel_rfl) (by kernel_rfl) (by kernel_rfl) rfl rfl (fun _ h => h.drop (.cons_cons _ <| .cons_cons _ <| .cons_cons _ <| .refl _)) (fun _ _ _ h => h) (q_load1 one_5 (lk0) (Cell.own 1 rfl rfl)) ?_
    refine WX_take 6 rfl (by kernel_rfl) (by kernel_rfl) (by kernel_rfl) (by kernel_rfl) rfl rfl (fun _ h => h.drop (.cons_cons _ <| .cons_cons _ <| .cons_cons _ <| .refl _)) (fun _ _ _ h => h) (q_and8 (lk2 rfl <| lk0) (lk0) hba hbb) ?_
    refine WX_x 7 rfl (by kernel_rfl) rfl (x_call bd_38 lk_func (.cons (lk4 rfl <| lk1 rfl <| lk0) (.cons (lk0) .nil)) (chosen_ok hr) fun v8 F9 hr10 hF11 => ⟨fun _ _ _ h => (h.drop (.cons_cons _ <| .cons_cons _ <| .cons_cons _ <| .refl _)).weak hF11 hleS, ?_⟩)
    replace hr := hr.mono hF11
    replace hle0 := Heap.le_trans hle0 hF11
    replace hl := hl.mono hF11
    have hlp := hr10
    refine WX_x 8 rfl (by kernel_rfl) rfl (x_call bd_19 lk_func (.cons (lk4 rfl <| lk2 rfl <| lk1 rfl <| lk0) (.cons (lk0) .nil)) ((can_top_ok hr (Nats.ints hlp)).mono fun u F2 _ h => h.trans (can_val1 (b := canB r (chosenL r (ba &&& bb))) hEp rfl)) fun v12 F13 hr14 hF15 => ⟨(fun h => nomatch h), ?_⟩)
    replace hr := hr.mono hF15
    replace hle0 := Heap.le_trans hle0 hF15
    replace hl := hl.mono hF15
    replace hlp := hlp.mono hF15
    obtain rfl := hr14
    refine WX_x 9 rfl (by kernel_rfl) rfl (x_quiet (q_move (lk0)).quiet ⟨(fun h => nomatch h), ?_⟩)
    refine WX_pick [10, 11] (by kernel_rfl) (by decide) (in2 ?_ ?_)
    ·
     refine WXop_x rfl rfl (x_quiet (q_extract (lk0) rfl).quiet ⟨(fun h => nomatch h), ?_⟩)
     refine WX_pick [11, 12] (by kernel_rfl) (by decide) (in2 ?_ ?_)
     ·
      refine WXop_x rfl rfl (x_quiet (q_extract (lk1 rfl <| lk0) rfl).quiet ⟨(fun h => nomatch h), ?_⟩)
      refine WX_x 12 rfl (by kernel_rfl) rfl (x_quiet (q_assign (lk1 rfl <| lk0)).quiet ⟨(fun h => nomatch h), ?_⟩)
      refine WX_x 13 rfl (by kernel_rfl) rfl (x_quiet (q_assign (lk1 rfl <| lk0)).quiet ⟨(fun h => nomatch h), ?_⟩)
      refine WX_done (by kernel_rfl) ?_ _
      refine then_n ⟨_, Off.eq (ou8 rfl <| ou4 rfl <| ou2 rfl <| off_refl), ?_⟩
      exact ⟨(lk1 rfl <| lk0), (lk0), _, hle0, hr, hl, rfl⟩
     ·
      refine WXop_x rfl rfl (x_quiet (q_assign (lk0)).quiet ⟨(fun h => nomatch h), ?_⟩)
      refine WX_x 11 rfl (by kernel_rfl) rfl (x_quiet (q_extract (lk2 rfl <| lk0) rfl).quiet ⟨(fun h => nomatch h), ?_⟩)
      refine WX_x 13 rfl (by kernel_rfl) rfl (x_quiet (q_assign (lk0)).quiet ⟨(fun h => nomatch h), ?_⟩)
      refine WX_done (by kernel_rfl) ?_ _
      refine then_n ⟨_, Off.eq (ou8 rfl <| ou4 rfl <| ou2 rfl <| off_refl), ?_⟩
      exact ⟨(lk2 rfl <| lk0), (lk0), _, hle0, hr, hl, rfl⟩
    ·
     refine WXop_x rfl rfl (x_quiet (q_extract (lk0) rfl).quiet ⟨(fun h => nomatch h), ?_⟩)
     refine WX_x 10 rfl (by kernel_rfl) rfl (x_quiet (q_extract (lk1 rfl <| lk0) rfl).quiet ⟨(fun h => nomatch h), ?_⟩)
     refine WX_x 12 rfl (by kernel_rfl) rfl (x_quiet (q_assign (lk0)).quiet ⟨(fun h => nomatch h), ?_⟩)
     refine WX_x 13 rfl (by kernel_rfl) rfl (x_quiet (q_assign (lk2 rfl <| lk0)).quiet ⟨(fun h => nomatch h), ?_⟩)
     refine WX_done (by kernel_rfl) ?_ _
     refine then_n ⟨_, Off.eq (ou8 rfl <| ou4 rfl <| ou2 rfl <| off_refl), ?_⟩
     exact ⟨(lk1 rfl <| lk0), (lk0), _, hle0, hr, hl, rfl⟩
   rintro e5 _ ⟨hc10, hc11, G5, hle0, hr, hl, rfl⟩
   refine WC_seq ?_
   refine WC_seq ?_
   refine WC_cut [50, 51, 52, 53, 54, 55, 56, 57, 58, 59, 60, 61, 62] (fun st σ => st 62 = .bool false ∧ σ = ⟨G5, [(b3, bx 82 [.int .i64 sl, .bool ss, .int .u8 (u0 : Int), .int .u8 (u1 : Int), .int .u8 (u2 : Int), .int .u8 (y0 : Int), .int .u8 (y1 : Int), .int .u8 (y2 : Int)]), (b2, bx 77 [.int .u8 (ba : Int), .int .u8 (bb : Int)]), (b1, bx 27 [vb, vr, vs, vq])]⟩) ?_ ?_
   ·
    cases hc : canB r (chosenL r ba)
    ·
     refine WC_reg fun ds => ?_
     refine WL_q rfl (q_move (lk_off rfl <| lk0)) ?_
     refine WL_q rfl (q_neq (lk0) lk_const) ?_
     refine WL_q rfl (q_move (lk0)) ?_
     refine WL_want rfl rfl (lk0) rfl ?_
     refine WL_q rfl (q_move (lk2 rfl <| lk1 rfl <| lk_in rfl hc11)) ?_
     refine WL_want rfl rfl (lk1 rfl <| lk0) rfl ?_
     refine WL_q rfl (q_neq (lk0) lk_const) ?_
     refine WL_q rfl (q_pick_false (lk2 rfl <| lk0) rfl (lk0)) ?_
     refine WL_q rfl (q_move (lk0)) ?_
     refine WL_want rfl rfl (lk0) rfl ?_
     refine WL_q rfl (q_move (lk4 rfl <| lk2 rfl <| lk1 rfl <| lk_off rfl <| lk1 rfl <| lk0)) ?_
     refine WL_want rfl rfl (lk1 rfl <| lk0) rfl ?_
     refine WL_q rfl (q_move (lk0)) ?_
     refine WL_pass rfl rfl (lk0) (.inl (congrArg Value.bool rfl)) rfl ?_
     refine WL_pass rfl rfl (lk1 rfl <| lk0) (.inl (congrArg Value.bool rfl)) rfl ?_
     refine WL_want rfl rfl (lk4 rfl <| lk0) rfl ?_
     refine WL_q rfl (q_pick_false (lk2 rfl <| lk0) rfl lk_const) ?_
     refine WL_q rfl (q_pick_false (lk4 rfl <| lk1 rfl <| lk0) rfl (lk0)) ?_
     refine WL_nil ?_
     refine then_n ⟨_, Off.eq (ou8 rfl <| ou4 rfl <| ou1 rfl <| off_refl), ?_⟩
     exact ⟨(lk0), rfl⟩
    ·
     refine WC_reg fun ds => ?_
     refine WL_q rfl (q_move (lk_off rfl <| lk0)) ?_
     refine WL_q rfl (q_neq (lk0) lk_const) ?_
     refine WL_q rfl (q_move (lk0)) ?_
     refine WL_want rfl rfl (lk0) rfl ?_
     refine WL_q rfl (q_move (lk2 rfl <| lk1 rfl <| lk_in rfl hc11)) ?_
     refine WL_want rfl rfl (lk1 rfl <| lk0) rfl ?_
     refine WL_q rfl (q_neq (lk0) lk_const) ?_
     refine WL_q rfl (q_pick_false (lk2 rfl <| lk0) rfl (lk0)) ?_
     refine WL_q rfl (q_move (lk0)) ?_
     refine WL_want rfl rfl (lk0) rfl ?_
     refine WL_q rfl (q_move (lk4 rfl <| lk2 rfl <| lk1 rfl <| lk_off rfl <| lk1 rfl <| lk0)) ?_
     refine WL_want rfl rfl (lk1 rfl <| lk0) rfl ?_
     refine WL_q rfl (q_move (lk0)) ?_
     refine WL_want rfl rfl (lk0) rfl ?_
     refine WL_q rfl (q_move (lk8 rfl <| lk1 rfl <| lk_in rfl hc10)) ?_
     refine WL_want rfl rfl (lk1 rfl <| lk0) rfl ?_
     refine WL_q rfl (q_not (lk0)) ?_
     refine WL_want rfl rfl (lk4 rfl <| lk0) rfl ?_
     refine WL_q rfl (q_pick_true (lk2 rfl <| lk0) rfl (lk0)) ?_
     refine WL_q rfl (q_pick_false (lk4 rfl <| lk1 rfl <| lk0) rfl (lk0)) ?_
     refine WL_nil ?_
     refine then_n ⟨_, Off.eq (ou8 rfl <| ou4 rfl <| ou1 rfl <| off_refl), ?_⟩
     exact ⟨(lk0).trans (congrArg Value.bool (by rw [can_sub chosen_part hc]; rfl)), rfl⟩
   rintro e6 _ ⟨hc62, rfl⟩
   refine WC_if_false (lk_in rfl hc62) rfl ?_
   refine WC_skip ?_
   refine then_n ?_
   refine WC_seq ?_
   refine WC_reg fun ds => ?_
   refine WL_q rfl (q_loadN agg_27 (lk_off rfl <| lk_off rfl <| lk16 rfl <| lk2 rfl <| lk1 rfl <| lk0) rfl rfl (own_whole 2 rfl)) ?_
   refine WL_x rfl (x_alloc zr_27 rfl fun b16 hb16 nb16 => ?_)
   refine WL_x0 (x_storeA sz_27 (lk0) (lk1 rfl <| lk0) (i := 0) rfl rfl rfl rfl hr.ones (.here) ?_)
   refine WL_nil ?_
   refine then_n ?_
   refine WC_seq ?_
   refine WC_cut [64, 65, 66, 67, 68, 69, 70, 71, 72, 73, 74, 75, 76, 77, 78] (fun st σ => ∃ (x0 x1 x3 : Value) (S0 S1 S3 : List (Nat × Obj)), Own 62 5 x0 r.books.length (r.books.flatMap Book.enc) S0 ∧ Own 64 2 x1 r.readers.length (r.readers.flatMap Rdr.enc) S1 ∧ Own 58 4 x3 r.reqs.length (r.reqs.flatMap Req.enc) S3 ∧ σ = ⟨G5, (b16, bx 27 [x0, x1, vs, x3]) :: (b3, bx 82 [.int .i64 sl, .bool ss, .int .u8 (u0 : Int), .int .u8 (u1 : Int), .int .u8 (u2 : Int), .int .u8 (y0 : Int), .int .u8 (y1 : Int), .int .u8 (y2 : Int)]) :: (b2, bx 77 [.int .u8 (ba : Int), .int .u8 (bb : Int)]) :: (b1, bx 27 [vb, vr, vs, vq]) :: (S0 ++ (S1 ++ S3))⟩) ?_ ?_
   ·
    have hleS := hle0
    refine WC_drawS (.inl rfl) (fun _ _ h => h) (.cons _ <| .cons_cons _ <| .cons_cons _ <| .cons_cons _ <| .refl _) [17] (by kernel_rfl) fun ds => ?_
    refine WX_take 1 rfl (by kernel_rfl) (by kernel_rfl) (by kernel_rfl) (by kernel_rfl) rfl rfl (fun _ h => h.drop (.cons _ <| .cons_cons _ <| .cons_cons _ <| .cons_cons _ <| .refl _)) (fun _ _ _ h => h) (q_fieldAddrB fd_27_0 (lk2 rfl <| lk_off rfl <| lk_off rfl <| lk16 rfl <| lk2 rfl <| lk1 rfl <| lk0)) ?_
    refine WX_take 2 rfl (by kernel_rfl) (by kernel_rfl) (by kernel_rfl) (by kernel_rfl) rfl rfl (fun _ h => h.drop (.cons _ <| .cons_cons _ <| .cons_cons _ <| .cons_cons _ <| .refl _)) (fun _ _ _ h => h) (q_load1 one_22 (lk0) (Cell.own 2 rfl rfl)) ?_
    refine WX_take 5 rfl (by kernel_rfl) (by kernel_rfl) (by kernel_rfl) (by kernel_rfl) rfl rfl (fun _ h => h.drop (.cons _ <| .cons_cons _ <| .cons_cons _ <| .cons_cons _ <| .refl _)) (fun _ _ _ h => h) (q_fieldAddrB fd_27_1 (lk4 rfl <| lk_off rfl <| lk_off rfl <| lk16 rfl <| lk2 rfl <| lk1 rfl <| lk0)) ?_
    refine WX_take 6 rfl (by kernel_rfl) (by kernel_rfl) (by kernel_rfl) (by kernel_rfl) rfl rfl (fun _ h => h.drop (.cons _ <| .cons_cons _ <| .cons_cons _ <| .cons_cons _ <| .refl _)) (fun _ _ _ h => h) (q_load1 one_23 (lk0) (Cell.own 2 rfl rfl)) ?_
    refine WX_take 9 rfl (by kernel_rfl) (by kernel_rfl) (by kernel_rfl) (by kernel_rfl) rfl rfl (fun _ h => h.drop (.cons _ <| .cons_cons _ <| .cons_cons _ <| .cons_cons _ <| .refl _)) (fun _ _ _ h => h) (q_fieldAddrB fd_27_3 (lk4 rfl <| lk2 rfl <| lk_off rfl <| lk_off rfl <| lk16 rfl <| lk2 rfl <| lk1 rfl <| lk0)) ?_
    refine WX_take 10 rfl (by kernel_rfl) (by kernel_rfl) (by kernel_rfl) (by kernel_rfl) rfl rfl (fun _ h => h.drop (.cons _ <| .cons_cons _ <| .cons_cons _ <| .cons_cons _ <| .refl _)) (fun _ _ _ h => h) (q_load1 one_25 (lk0) (Cell.own 2 rfl rfl)) ?_
    refine WX_pick [0, 4, 8] (by kernel_rfl) (by decide) (in3 ?_ ?_ ?_)
    ·
     refine WXop_x rfl rfl (x_build0 sl_22 fun b17 hb17 nb17 => ⟨fun _ _ => (fun _ h => h.drop (.cons _ <| .cons _ <| .cons_cons _ <| .cons_cons _ <| .cons_cons _ <| .refl _)), ?_⟩)
     refine WX_pick [3, 4, 8] (by kernel_rfl) (by decide) (in3 ?_ ?_ ?_)
     ·
      refine WXop_x rfl rfl (x_append sl_22 el_62 (lk0) (own_box rfl) (lk4 rfl <| lk1 rfl <| lk0) (hr.books.src (fun _ => rfl) (fun _ => Book.enc_one)) (by omega) (by omega) (.z) .box fun v18 R19 ho20 => ⟨fun _ _ => (fun _ h => h.drop (List.sublist_append_of_sublist_right <| .cons _ <| .cons_cons _ <| .cons_cons _ <| .cons_cons _ <| .refl _)), ?_⟩)
      have hoB : Own 62 5 v18 r.books.length (r.books.flatMap Book.enc) R19 := by simpa using ho20
      refine WX_take 12 rfl (by kernel_rfl) (by kernel_rfl) (by kernel_rfl) (by kernel_rfl) rfl rfl (fun _ h => h.drop (List.sublist_append_of_sublist_right <| .cons _ <| .cons_cons _ <| .cons_cons _ <| .cons_cons _ <| .refl _)) (fun _ _ _ h => h) (q_fieldAddrB fd_27_0 (lk8 rfl <| lk0)) ?_
      refine WX_pick [4, 8] (by kernel_rfl) (by decide) (in2 ?_ ?_)
      ·
       refine WXop_x rfl rfl (x_build0 sl_23 fun b21 hb21 nb21 => ⟨fun _ _ => (fun _ h => h.drop (.cons _ <| List.sublist_append_of_sublist_right <| .cons _ <| .cons_cons _ <| .cons_cons _ <| .cons_cons _ <| .refl _)), ?_⟩)
       refine WX_pick [7, 8] (by kernel_rfl) (by decide) (in2 ?_ ?_)
       ·
        refine WXop_x rfl rfl (x_append sl_23 el_64 (lk0) (own_box rfl) (lk4 rfl <| lk2 rfl <| lk0) (hr.readers.src (fun _ => rfl) (fun _ => Rdr.enc_one)) (by omega) (by omega) (.z) .box fun v22 R23 ho24 => ⟨fun _ _ => (fun _ h => h.drop (List.sublist_append_of_sublist_right <| List.sublist_append_of_sublist_right <| .cons _ <| .cons_cons _ <| .cons_cons _ <| .cons_cons _ <| .refl _)), ?_⟩)
        have hoR : Own 64 2 v22 r.readers.length (r.readers.flatMap Rdr.enc) R23 := by simpa using ho24
        refine WX_x 8 rfl (by kernel_rfl) rfl (x_build0 sl_25 fun b25 hb25 nb25 => ⟨fun _ _ => (fun _ h => h.drop (.cons _ <| List.sublist_append_of_sublist_right <| List.sublist_append_of_sublist_right <| .cons _ <| .cons_cons _ <| .cons_cons _ <| .cons_cons _ <| .refl _)), ?_⟩)
        refine WX_x 11 rfl (by kernel_rfl) rfl (x_append sl_25 el_58 (lk0) (own_box rfl) (lk4 rfl <| lk2 rfl <| lk0) (hr.reqs.src (fun _ => rfl) (fun _ => Req.enc_one)) (by omega) (by omega) (.z) .box fun v26 R27 ho28 => ⟨fun _ _ => (fun _ h => h.drop (List.sublist_append_of_sublist_right <| List.sublist_append_of_sublist_right <| List.sublist_append_of_sublist_right <| .cons _ <| .cons_cons _ <| .cons_cons _ <| .cons_cons _ <| .refl _)), ?_⟩)
        have hoQ : Own 58 4 v26 r.reqs.length (r.reqs.flatMap Req.enc) R27 := by simpa using ho28
        refine WX_orderB (.one (.skip <| .skip <| .skip <| .here) <| .one (.skip <| .skip <| .skip <| .here) <| .one (.skip <| .skip <| .skip <| .here) <| .one (.skip <| .skip <| .lastS) <| .blk (.skip <| .lastS) <| .blk (.lastS) <| .lastb (.last)) ?_
        refine WX_x0 13 rfl (by kernel_rfl) (x_store1 sz_22 (lk4 rfl <| lk0) (lk4 rfl <| lk1 rfl <| lk0) (i := 0) rfl (.here) (by first | exact hoB.one | exact hoR.one | exact hoQ.one) (.here) ⟨fun _ _ => (fun _ h => h.drop (.cons _ <| .cons_cons _ <| .cons_cons _ <| .cons_cons _ <| List.sublist_append_of_sublist_right <| List.sublist_append_of_sublist_right <| List.nil_sublist _)), ?_⟩)
        refine WX_take 14 rfl (by kernel_rfl) (by kernel_rfl) (by kernel_rfl) (by kernel_rfl) rfl rfl (fun _ h => h.drop (.cons _ <| .cons_cons _ <| .cons_cons _ <| .cons_cons _ <| List.sublist_append_of_sublist_right <| List.sublist_append_of_sublist_right <| List.nil_sublist _)) (fun _ _ _ h => h) (q_fieldAddrB fd_27_1 (lk8 rfl <| lk4 rfl <| lk1 rfl <| lk0)) ?_
        refine WX_x0 15 rfl (by kernel_rfl) (x_store1 sz_23 (lk0) (lk2 rfl <| lk1 rfl <| lk0) (i := 0) rfl (.next <| .here) (by first | exact hoB.one | exact hoR.one | exact hoQ.one) (.here) ⟨fun _ _ => (fun _ h => h.drop (.cons _ <| .cons_cons _ <| .cons_cons _ <| .cons_cons _ <| List.sublist_append_of_sublist_right <| List.sublist_append_of_sublist_right <| List.nil_sublist _)), ?_⟩)
        refine WX_take 16 rfl (by kernel_rfl) (by kernel_rfl) (by kernel_rfl) (by kernel_rfl) rfl rfl (fun _ h => h.drop (.cons _ <| .cons_cons _ <| .cons_cons _ <| .cons_cons _ <| List.sublist_append_of_sublist_right <| List.sublist_append_of_sublist_right <| List.nil_sublist _)) (fun _ _ _ h => h) (q_fieldAddrB fd_27_3 (lk8 rfl <| lk4 rfl <| lk2 rfl <| lk0)) ?_
        refine WX_x0 17 rfl (by kernel_rfl) (x_store1 sz_25 (lk0) (lk2 rfl <| lk0) (i := 0) rfl (.next <| .next <| .next <| .here) (by first | exact hoB.one | exact hoR.one | exact hoQ.one) (.here) ⟨(fun h => nomatch h), ?_⟩)
        refine WX_done (by kernel_rfl) ?_ _
        refine then_n ⟨_, Off.eq (ou8 rfl <| ou4 rfl <| ou2 rfl <| ou1 rfl <| off_refl), ?_⟩
        exact ⟨_, _, _, _, _, _, hoB, hoR, hoQ, rfl⟩
       ·
        refine WXop_x rfl rfl (x_build0 sl_25 fun b29 hb29 nb29 => ⟨fun _ _ => (fun _ h => h.drop (.cons _ <| .cons _ <| List.sublist_append_of_sublist_right <| .cons _ <| .cons_cons _ <| .cons_cons _ <| .cons_cons _ <| .refl _)), ?_⟩)
        refine WX_x 7 rfl (by kernel_rfl) rfl (x_append sl_23 el_64 (lk1 rfl <| lk0) (own_box rfl) (lk4 rfl <| lk2 rfl <| lk1 rfl <| lk0) (hr.readers.src (fun _ => rfl) (fun _ => Rdr.enc_one)) (by omega) (by omega) (.s <| .z) .box fun v30 R31 ho32 => ⟨fun _ _ => (fun _ h => h.drop (.cons _ <| List.sublist_append_of_sublist_right <| List.sublist_append_of_sublist_right <| .cons _ <| .cons_cons _ <| .cons_cons _ <| .cons_cons _ <| .refl _)), ?_⟩)
        have hoR : Own 64 2 v30 r.readers.length (r.readers.flatMap Rdr.enc) R31 := by simpa using ho32
        refine WX_x 11 rfl (by kernel_rfl) rfl (x_append sl_25 el_58 (lk1 rfl <| lk0) (own_box rfl) (lk4 rfl <| lk2 rfl <| lk0) (hr.reqs.src (fun _ => rfl) (fun _ => Req.enc_one)) (by omega) (by omega) (.z) .box fun v33 R34 ho35 => ⟨fun _ _ => (fun _ h => h.drop (List.sublist_append_of_sublist_right <| List.sublist_append_of_sublist_right <| List.sublist_append_of_sublist_right <| .cons _ <| .cons_cons _ <| .cons_cons _ <| .cons_cons _ <| .refl _)), ?_⟩)
        have hoQ : Own 58 4 v33 r.reqs.length (r.reqs.flatMap Req.enc) R34 := by simpa using ho35
        refine WX_orderB (.one (.skip <| .skip <| .skip <| .here) <| .one (.skip <| .skip <| .skip <| .here) <| .one (.skip <| .skip <| .skip <| .here) <| .one (.skip <| .skip <| .lastS) <| .blk (.skip <| .lastS) <| .blk (.lastS) <| .lastb (.last)) ?_
        refine WX_x0 13 rfl (by kernel_rfl) (x_store1 sz_22 (lk4 rfl <| lk0) (lk4 rfl <| lk1 rfl <| lk0) (i := 0) rfl (.here) (by first | exact hoB.one | exact hoR.one | exact hoQ.one) (.here) ⟨fun _ _ => (fun _ h => h.drop (.cons _ <| .cons_cons _ <| .cons_cons _ <| .cons_cons _ <| List.sublist_append_of_sublist_right <| List.sublist_append_of_sublist_right <| List.nil_sublist _)), ?_⟩)
        refine WX_take 14 rfl (by kernel_rfl) (by kernel_rfl) (by kernel_rfl) (by kernel_rfl) rfl rfl (fun _ h => h.drop (.cons _ <| .cons_cons _ <| .cons_cons _ <| .cons_cons _ <| List.sublist_append_of_sublist_right <| List.sublist_append_of_sublist_right <| List.nil_sublist _)) (fun _ _ _ h => h) (q_fieldAddrB fd_27_1 (lk8 rfl <| lk4 rfl <| lk1 rfl <| lk0)) ?_
        refine WX_x0 15 rfl (by kernel_rfl) (x_store1 sz_23 (lk0) (lk2 rfl <| lk0) (i := 0) rfl (.next <| .here) (by first | exact hoB.one | exact hoR.one | exact hoQ.one) (.here) ⟨fun _ _ => (fun _ h => h.drop (.cons _ <| .cons_cons _ <| .cons_cons _ <| .cons_cons _ <| List.sublist_append_of_sublist_right <| List.sublist_append_of_sublist_right <| List.nil_sublist _)), ?_⟩)
        refine WX_take 16 rfl (by kernel_rfl) (by kernel_rfl) (by kernel_rfl) (by kernel_rfl) rfl rfl (fun _ h => h.drop (.cons _ <| .cons_cons _ <| .cons_cons _ <| .cons_cons _ <| List.sublist_append_of_sublist_right <| List.sublist_append_of_sublist_right <| List.nil_sublist _)) (fun _ _ _ h => h) (q_fieldAddrB fd_27_3 (lk8 rfl <| lk4 rfl <| lk2 rfl <| lk0)) ?_
        refine WX_x0 17 rfl (by kernel_rfl) (x_store1 sz_25 (lk0) (lk2 rfl <| lk0) (i := 0) rfl (.next <| .next <| .next <| .here) (by first | exact hoB.one | exact hoR.one | exact hoQ.one) (.here) ⟨(fun h => nomatch h), ?_⟩)
        refine WX_done (by kernel_rfl) ?_ _
        refine then_n ⟨_, Off.eq (ou8 rfl <| ou4 rfl <| ou2 rfl <| ou1 rfl <| off_refl), ?_⟩
        exact ⟨_, _, _, _, _, _, hoB, hoR, hoQ, rfl⟩
      ·
       refine WXop_x rfl rfl (x_build0 sl_25 fun b36 hb36 nb36 => ⟨fun _ _ => (fun _ h => h.drop (.cons _ <| List.sublist_append_of_sublist_right <| .cons _ <| .cons_cons _ <| .cons_cons _ <| .cons_cons _ <| .refl _)), ?_⟩)
       refine WX_x 4 rfl (by kernel_rfl) rfl (x_build0 sl_23 fun b37 hb37 nb37 => ⟨fun _ _ => (fun _ h => h.drop (.cons _ <| .cons _ <| List.sublist_append_of_sublist_right <| .cons _ <| .cons_cons _ <| .cons_cons _ <| .cons_cons _ <| .refl _)), ?_⟩)
       refine WX_x 7 rfl (by kernel_rfl) rfl (x_append sl_23 el_64 (lk0) (own_box rfl) (lk4 rfl <| lk2 rfl <| lk1 rfl <| lk0) (hr.readers.src (fun _ => rfl) (fun _ => Rdr.enc_one)) (by omega) (by omega) (.z) .box fun v38 R39 ho40 => ⟨fun _ _ => (fun _ h => h.drop (List.sublist_append_of_sublist_right <| .cons _ <| List.sublist_append_of_sublist_right <| .cons _ <| .cons_cons _ <| .cons_cons _ <| .cons_cons _ <| .refl _)), ?_⟩)
       have hoR : Own 64 2 v38 r.readers.length (r.readers.flatMap Rdr.enc) R39 := by simpa using ho40
       refine WX_x 11 rfl (by kernel_rfl) rfl (x_append sl_25 el_58 (lk2 rfl <| lk0) (own_box rfl) (lk4 rfl <| lk2 rfl <| lk0) (hr.reqs.src (fun _ => rfl) (fun _ => Req.enc_one)) (by omega) (by omega) (.k <| .z) .box fun v41 R42 ho43 => ⟨fun _ _ => (fun _ h => h.drop (List.sublist_append_of_sublist_right <| List.sublist_append_of_sublist_right <| List.sublist_append_of_sublist_right <| .cons _ <| .cons_cons _ <| .cons_cons _ <| .cons_cons _ <| .refl _)), ?_⟩)
       have hoQ : Own 58 4 v41 r.reqs.length (r.reqs.flatMap Req.enc) R42 := by simpa using ho43
       refine WX_orderB (.one (.skip <| .skip <| .skip <| .here) <| .one (.skip <| .skip <| .skip <| .here) <| .one (.skip <| .skip <| .skip <| .here) <| .one (.skip <| .skip <| .lastS) <| .blk (.skip <| .lastS) <| .blk (.here) <| .lastb (.last)) ?_
       refine WX_x0 13 rfl (by kernel_rfl) (x_store1 sz_22 (lk4 rfl <| lk0) (lk4 rfl <| lk1 rfl <| lk0) (i := 0) rfl (.here) (by first | exact hoB.one | exact hoR.one | exact hoQ.one) (.here) ⟨fun _ _ => (fun _ h => h.drop (.cons _ <| .cons_cons _ <| .cons_cons _ <| .cons_cons _ <| List.sublist_append_of_sublist_right <| List.sublist_append_of_sublist_right <| List.nil_sublist _)), ?_⟩)
       refine WX_take 14 rfl (by kernel_rfl) (by kernel_rfl) (by kernel_rfl) (by kernel_rfl) rfl rfl (fun _ h => h.drop (.cons _ <| .cons_cons _ <| .cons_cons _ <| .cons_cons _ <| List.sublist_append_of_sublist_right <| List.sublist_append_of_sublist_right <| List.nil_sublist _)) (fun _ _ _ h => h) (q_fieldAddrB fd_27_1 (lk8 rfl <| lk4 rfl <| lk1 rfl <| lk0)) ?_
       refine WX_x0 15 rfl (by kernel_rfl) (x_store1 sz_23 (lk0) (lk2 rfl <| lk0) (i := 0) rfl (.next <| .here) (by first | exact hoB.one | exact hoR.one | exact hoQ.one) (.here) ⟨fun _ _ => (fun _ h => h.drop (.cons _ <| .cons_cons _ <| .cons_cons _ <| .cons_cons _ <| List.sublist_append_of_sublist_right <| List.sublist_append_of_sublist_right <| List.nil_sublist _)), ?_⟩)
       refine WX_take 16 rfl (by kernel_rfl) (by kernel_rfl) (by kernel_rfl) (by kernel_rfl) rfl rfl (fun _ h => h.drop (.cons _ <| .cons_cons _ <| .cons_cons _ <| .cons_cons _ <| List.sublist_append_of_sublist_right <| List.sublist_append_of_sublist_right <| List.nil_sublist _)) (fun _ _ _ h => h) (q_fieldAddrB fd_27_3 (lk8 rfl <| lk4 rfl <| lk2 rfl <| lk0)) ?_
       refine WX_x0 17 rfl (by kernel_rfl) (x_store1 sz_25 (lk0) (lk2 rfl <| lk0) (i := 0) rfl (.next <| .next <| .next <| .here) (by first | exact hoB.one | exact hoR.one | exact hoQ.one) (.here) ⟨(fun h => nomatch h), ?_⟩)
       refine WX_done (by kernel_rfl) ?_ _
       refine then_n ⟨_, Off.eq (ou8 rfl <| ou4 rfl <| ou2 rfl <| ou1 rfl <| off_refl), ?_⟩
       exact ⟨_, _, _, _, _, _, hoB, hoR, hoQ, rfl⟩
     ·
      refine WXop_x rfl rfl (x_build0 sl_23 fun b44 hb44 nb44 => ⟨fun _ _ => (fun _ h => h.drop (.cons _ <| .cons _ <| .cons _ <| .cons_cons _ <| .cons_cons _ <| .cons_cons _ <| .refl _)), ?_⟩)
      refine WX_pick [3, 8] (by kernel_rfl) (by decide) (in2 ?_ ?_)
      ·
       refine WXop_x rfl rfl (x_append sl_22 el_62 (lk1 rfl <| lk0) (own_box rfl) (lk4 rfl <| lk2 rfl <| lk0) (hr.books.src (fun _ => rfl) (fun _ => Book.enc_one)) (by omega) (by omega) (.s <| .z) .box fun v45 R46 ho47 => ⟨fun _ _ => (fun _ h => h.drop (.cons _ <| List.sublist_append_of_sublist_right <| .cons _ <| .cons_cons _ <| .cons_cons _ <| .cons_cons _ <| .refl _)), ?_⟩)
       have hoB : Own 62 5 v45 r.books.length (r.books.flatMap Book.enc) R46 := by simpa using ho47
       refine WX_take 12 rfl (by kernel_rfl) (by kernel_rfl) (by kernel_rfl) (by kernel_rfl) rfl rfl (fun _ h => h.drop (.cons _ <| List.sublist_append_of_sublist_right <| .cons _ <| .cons_cons _ <| .cons_cons _ <| .cons_cons _ <| .refl _)) (fun _ _ _ h => h) (q_fieldAddrB fd_27_0 (lk8 rfl <| lk1 rfl <| lk0)) ?_
       refine WX_pick [7, 8] (by kernel_rfl) (by decide) (in2 ?_ ?_)
       ·
        refine WXop_x rfl rfl (x_append sl_23 el_64 (lk2 rfl <| lk0) (own_box rfl) (lk4 rfl <| lk2 rfl <| lk0) (hr.readers.src (fun _ => rfl) (fun _ => Rdr.enc_one)) (by omega) (by omega) (.z) .box fun v48 R49 ho50 => ⟨fun _ _ => (fun _ h => h.drop (List.sublist_append_of_sublist_right <| List.sublist_append_of_sublist_right <| .cons _ <| .cons_cons _ <| .cons_cons _ <| .cons_cons _ <| .refl _)), ?_⟩)
        have hoR : Own 64 2 v48 r.readers.length (r.readers.flatMap Rdr.enc) R49 := by simpa using ho50
        refine WX_x 8 rfl (by kernel_rfl) rfl (x_build0 sl_25 fun b51 hb51 nb51 => ⟨fun _ _ => (fun _ h => h.drop (.cons _ <| List.sublist_append_of_sublist_right <| List.sublist_append_of_sublist_right <| .cons _ <| .cons_cons _ <| .cons_cons _ <| .cons_cons _ <| .refl _)), ?_⟩)
        refine WX_x 11 rfl (by kernel_rfl) rfl (x_append sl_25 el_58 (lk0) (own_box rfl) (lk4 rfl <| lk2 rfl <| lk0) (hr.reqs.src (fun _ => rfl) (fun _ => Req.enc_one)) (by omega) (by omega) (.z) .box fun v52 R53 ho54 => ⟨fun _ _ => (fun _ h => h.drop (List.sublist_append_of_sublist_right <| List.sublist_append_of_sublist_right <| List.sublist_append_of_sublist_right <| .cons _ <| .cons_cons _ <| .cons_cons _ <| .cons_cons _ <| .refl _)), ?_⟩)
        have hoQ : Own 58 4 v52 r.reqs.length (r.reqs.flatMap Req.enc) R53 := by simpa using ho54
        refine WX_orderB (.one (.skip <| .skip <| .skip <| .here) <| .one (.skip <| .skip <| .skip <| .here) <| .one (.skip <| .skip <| .skip <| .here) <| .one (.skip <| .skip <| .lastS) <| .blk (.skip <| .lastS) <| .blk (.lastS) <| .lastb (.last)) ?_
        refine WX_x0 13 rfl (by kernel_rfl) (x_store1 sz_22 (lk2 rfl <| lk1 rfl <| lk0) (lk4 rfl <| lk0) (i := 0) rfl (.here) (by first | exact hoB.one | exact hoR.one | exact hoQ.one) (.here) ⟨fun _ _ => (fun _ h => h.drop (.cons _ <| .cons_cons _ <| .cons_cons _ <| .cons_cons _ <| List.sublist_append_of_sublist_right <| List.sublist_append_of_sublist_right <| List.nil_sublist _)), ?_⟩)
        refine WX_take 14 rfl (by kernel_rfl) (by kernel_rfl) (by kernel_rfl) (by kernel_rfl) rfl rfl (fun _ h => h.drop (.cons _ <| .cons_cons _ <| .cons_cons _ <| .cons_cons _ <| List.sublist_append_of_sublist_right <| List.sublist_append_of_sublist_right <| List.nil_sublist _)) (fun _ _ _ h => h) (q_fieldAddrB fd_27_1 (lk8 rfl <| lk4 rfl <| lk1 rfl <| lk0)) ?_
        refine WX_x0 15 rfl (by kernel_rfl) (x_store1 sz_23 (lk0) (lk2 rfl <| lk1 rfl <| lk0) (i := 0) rfl (.next <| .here) (by first | exact hoB.one | exact hoR.one | exact hoQ.one) (.here) ⟨fun _ _ => (fun _ h => h.drop (.cons _ <| .cons_cons _ <| .cons_cons _ <| .cons_cons _ <| List.sublist_append_of_sublist_right <| List.sublist_append_of_sublist_right <| List.nil_sublist _)), ?_⟩)
        refine WX_take 16 rfl (by kernel_rfl) (by kernel_rfl) (by kernel_rfl) (by kernel_rfl) rfl rfl (fun _ h => h.drop (.cons _ <| .cons_cons _ <| .cons_cons _ <| .cons_cons _ <| List.sublist_append_of_sublist_right <| List.sublist_append_of_sublist_right <| List.nil_sublist _)) (fun _ _ _ h => h) (q_fieldAddrB fd_27_3 (lk8 rfl <| lk4 rfl <| lk2 rfl <| lk0)) ?_
        refine WX_x0 17 rfl (by kernel_rfl) (x_store1 sz_25 (lk0) (lk2 rfl <| lk0) (i := 0) rfl (.next <| .next <| .next <| .here) (by first | exact hoB.one | exact hoR.one | exact hoQ.one) (.here) ⟨(fun h => nomatch h), ?_⟩)
        refine WX_done (by kernel_rfl) ?_ _
        refine then_n ⟨_, Off.eq (ou8 rfl <| ou4 rfl <| ou2 rfl <| ou1 rfl <| off_refl), ?_⟩
        exact ⟨_, _, _, _, _, _, hoB, hoR, hoQ, rfl⟩
       ·
        refine WXop_x rfl rfl (x_build0 sl_25 fun b55 hb55 nb55 => ⟨fun _ _ => (fun _ h => h.drop (.cons _ <| .cons _ <| List.sublist_append_of_sublist_right <| .cons _ <| .cons_cons _ <| .cons_cons _ <| .cons_cons _ <| .refl _)), ?_⟩)
        refine WX_x 7 rfl (by kernel_rfl) rfl (x_append sl_23 el_64 (lk2 rfl <| lk1 rfl <| lk0) (own_box rfl) (lk4 rfl <| lk2 rfl <| lk1 rfl <| lk0) (hr.readers.src (fun _ => rfl) (fun _ => Rdr.enc_one)) (by omega) (by omega) (.s <| .z) .box fun v56 R57 ho58 => ⟨fun _ _ => (fun _ h => h.drop (.cons _ <| List.sublist_append_of_sublist_right <| List.sublist_append_of_sublist_right <| .cons _ <| .cons_cons _ <| .cons_cons _ <| .cons_cons _ <| .refl _)), ?_⟩)
        have hoR : Own 64 2 v56 r.readers.length (r.readers.flatMap Rdr.enc) R57 := by simpa using ho58
        refine WX_x 11 rfl (by kernel_rfl) rfl (x_append sl_25 el_58 (lk1 rfl <| lk0) (own_box rfl) (lk4 rfl <| lk2 rfl <| lk0) (hr.reqs.src (fun _ => rfl) (fun _ => Req.enc_one)) (by omega) (by omega) (.z) .box fun v59 R60 ho61 => ⟨fun _ _ => (fun _ h => h.drop (List.sublist_append_of_sublist_right <| List.sublist_append_of_sublist_right <| List.sublist_append_of_sublist_right <| .cons _ <| .cons_cons _ <| .cons_cons _ <| .cons_cons _ <| .refl _)), ?_⟩)
        have hoQ : Own 58 4 v59 r.reqs.length (r.reqs.flatMap Req.enc) R60 := by simpa using ho61
        refine WX_orderB (.one (.skip <| .skip <| .skip <| .here) <| .one (.skip <| .skip <| .skip <| .here) <| .one (.skip <| .skip <| .skip <| .here) <| .one (.skip <| .skip <| .lastS) <| .blk (.skip <| .lastS) <| .blk (.lastS) <| .lastb (.last)) ?_
        refine WX_x0 13 rfl (by kernel_rfl) (x_store1 sz_22 (lk2 rfl <| lk1 rfl <| lk0) (lk4 rfl <| lk0) (i := 0) rfl (.here) (by first | exact hoB.one | exact hoR.one | exact hoQ.one) (.here) ⟨fun _ _ => (fun _ h => h.drop (.cons _ <| .cons_cons _ <| .cons_cons _ <| .cons_cons _ <| List.sublist_append_of_sublist_right <| List.sublist_append_of_sublist_right <| List.nil_sublist _)), ?_⟩)
        refine WX_take 14 rfl (by kernel_rfl) (by kernel_rfl) (by kernel_rfl) (by kernel_rfl) rfl rfl (fun _ h => h.drop (.cons _ <| .cons_cons _ <| .cons_cons _ <| .cons_cons _ <| List.sublist_append_of_sublist_right <| List.sublist_append_of_sublist_right <| List.nil_sublist _)) (fun _ _ _ h => h) (q_fieldAddrB fd_27_1 (lk8 rfl <| lk4 rfl <| lk1 rfl <| lk0)) ?_
        refine WX_x0 15 rfl (by kernel_rfl) (x_store1 sz_23 (lk0) (lk2 rfl <| lk0) (i := 0) rfl (.next <| .here) (by first | exact hoB.one | exact hoR.one | exact hoQ.one) (.here) ⟨fun _ _ => (fun _ h => h.drop (.cons _ <| .cons_cons _ <| .cons_cons _ <| .cons_cons _ <| List.sublist_append_of_sublist_right <| List.sublist_append_of_sublist_right <| List.nil_sublist _)), ?_⟩)
        refine WX_take 16 rfl (by kernel_rfl) (by kernel_rfl) (by kernel_rfl) (by kernel_rfl) rfl rfl (fun _ h => h.drop (.cons _ <| .cons_cons _ <| .cons_cons _ <| .cons_cons _ <| List.sublist_append_of_sublist_right <| List.sublist_append_of_sublist_right <| List.nil_sublist _)) (fun _ _ _ h => h) (q_fieldAddrB fd_27_3 (lk8 rfl <| lk4 rfl <| lk2 rfl <| lk0)) ?_
        refine WX_x0 17 rfl (by kernel_rfl) (x_store1 sz_25 (lk0) (lk2 rfl <| lk0) (i := 0) rfl (.next <| .next <| .next <| .here) (by first | exact hoB.one | exact hoR.one | exact hoQ.one) (.here) ⟨(fun h => nomatch h), ?_⟩)
        refine WX_done (by kernel_rfl) ?_ _
        refine then_n ⟨_, Off.eq (ou8 rfl <| ou4 rfl <| ou2 rfl <| ou1 rfl <| off_refl), ?_⟩
        exact ⟨_, _, _, _, _, _, hoB, hoR, hoQ, rfl⟩
      ·
       refine WXop_x rfl rfl (x_build0 sl_25 fun b62 hb62 nb62 => ⟨fun _ _ => (fun _ h => h.drop (.cons _ <| .cons _ <| .cons _ <| .cons _ <| .cons_cons _ <| .cons_cons _ <| .cons_cons _ <| .refl _)), ?_⟩)
       refine WX_x 3 rfl (by kernel_rfl) rfl (x_append sl_22 el_62 (lk2 rfl <| lk0) (own_box rfl) (lk4 rfl <| lk2 rfl <| lk1 rfl <| lk0) (hr.books.src (fun _ => rfl) (fun _ => Book.enc_one)) (by omega) (by omega) (.s <| .s <| .z) .box fun v63 R64 ho65 => ⟨fun _ _ => (fun _ h => h.drop (.cons _ <| .cons _ <| List.sublist_append_of_sublist_right <| .cons _ <| .cons_cons _ <| .cons_cons _ <| .cons_cons _ <| .refl _)), ?_⟩)
       have hoB : Own 62 5 v63 r.books.length (r.books.flatMap Book.enc) R64 := by simpa using ho65
       refine WX_take 12 rfl (by kernel_rfl) (by kernel_rfl) (by kernel_rfl) (by kernel_rfl) rfl rfl (fun _ h => h.drop (.cons _ <| .cons _ <| List.sublist_append_of_sublist_right <| .cons _ <| .cons_cons _ <| .cons_cons _ <| .cons_cons _ <| .refl _)) (fun _ _ _ h => h) (q_fieldAddrB fd_27_0 (lk8 rfl <| lk2 rfl <| lk0)) ?_
       refine WX_x 7 rfl (by kernel_rfl) rfl (x_append sl_23 el_64 (lk2 rfl <| lk1 rfl <| lk0) (own_box rfl) (lk4 rfl <| lk2 rfl <| lk1 rfl <| lk0) (hr.readers.src (fun _ => rfl) (fun _ => Rdr.enc_one)) (by omega) (by omega) (.s <| .z) .box fun v66 R67 ho68 => ⟨fun _ _ => (fun _ h => h.drop (.cons _ <| List.sublist_append_of_sublist_right <| List.sublist_append_of_sublist_right <| .cons _ <| .cons_cons _ <| .cons_cons _ <| .cons_cons _ <| .refl _)), ?_⟩)
       have hoR : Own 64 2 v66 r.readers.length (r.readers.flatMap Rdr.enc) R67 := by simpa using ho68
       refine WX_x 11 rfl (by kernel_rfl) rfl (x_append sl_25 el_58 (lk2 rfl <| lk1 rfl <| lk0) (own_box rfl) (lk4 rfl <| lk2 rfl <| lk0) (hr.reqs.src (fun _ => rfl) (fun _ => Req.enc_one)) (by omega) (by omega) (.z) .box fun v69 R70 ho71 => ⟨fun _ _ => (fun _ h => h.drop (List.sublist_append_of_sublist_right <| List.sublist_append_of_sublist_right <| List.sublist_append_of_sublist_right <| .cons _ <| .cons_cons _ <| .cons_cons _ <| .cons_cons _ <| .refl _)), ?_⟩)
       have hoQ : Own 58 4 v69 r.reqs.length (r.reqs.flatMap Req.enc) R70 := by simpa using ho71
       refine WX_orderB (.one (.skip <| .skip <| .skip <| .here) <| .one (.skip <| .skip <| .skip <| .here) <| .one (.skip <| .skip <| .skip <| .here) <| .one (.skip <| .skip <| .lastS) <| .blk (.skip <| .lastS) <| .blk (.lastS) <| .lastb (.last)) ?_
       refine WX_x0 13 rfl (by kernel_rfl) (x_store1 sz_22 (lk2 rfl <| lk0) (lk2 rfl <| lk1 rfl <| lk0) (i := 0) rfl (.here) (by first | exact hoB.one | exact hoR.one | exact hoQ.one) (.here) ⟨fun _ _ => (fun _ h => h.drop (.cons _ <| .cons_cons _ <| .cons_cons _ <| .cons_cons _ <| List.sublist_append_of_sublist_right <| List.sublist_append_of_sublist_right <| List.nil_sublist _)), ?_⟩)
       refine WX_take 14 rfl (by kernel_rfl) (by kernel_rfl) (by kernel_rfl) (by kernel_rfl) rfl rfl (fun _ h => h.drop (.cons _ <| .cons_cons _ <| .cons_cons _ <| .cons_cons _ <| List.sublist_append_of_sublist_right <| List.sublist_append_of_sublist_right <| List.nil_sublist _)) (fun _ _ _ h => h) (q_fieldAddrB fd_27_1 (lk8 rfl <| lk4 rfl <| lk1 rfl <| lk0)) ?_
       refine WX_x0 15 rfl (by kernel_rfl) (x_store1 sz_23 (lk0) (lk2 rfl <| lk0) (i := 0) rfl (.next <| .here) (by first | exact hoB.one | exact hoR.one | exact hoQ.one) (.here) ⟨fun _ _ => (fun _ h => h.drop (.cons _ <| .cons_cons _ <| .cons_cons _ <| .cons_cons _ <| List.sublist_append_of_sublist_right <| List.sublist_append_of_sublist_right <| List.nil_sublist _)), ?_⟩)
       refine WX_take 16 rfl (by kernel_rfl) (by kernel_rfl) (by kernel_rfl) (by kernel_rfl) rfl rfl (fun _ h => h.drop (.cons _ <| .cons_cons _ <| .cons_cons _ <| .cons_cons _ <| List.sublist_append_of_sublist_right <| List.sublist_append_of_sublist_right <| List.nil_sublist _)) (fun _ _ _ h => h) (q_fieldAddrB fd_27_3 (lk8 rfl <| lk4 rfl <| lk2 rfl <| lk0)) ?_
       refine WX_x0 17 rfl (by kernel_rfl) (x_store1 sz_25 (lk0) (lk2 rfl <| lk0) (i := 0) rfl (.next <| .next <| .next <| .here) (by first | exact hoB.one | exact hoR.one | exact hoQ.one) (.here) ⟨(fun h => nomatch h), ?_⟩)
       refine WX_done (by kernel_rfl) ?_ _
       refine then_n ⟨_, Off.eq (ou8 rfl <| ou4 rfl <| ou2 rfl <| ou1 rfl <| off_refl), ?_⟩
       exact ⟨_, _, _, _, _, _, hoB, hoR, hoQ, rfl⟩
     ·
      refine WXop_x rfl rfl (x_build0 sl_25 fun b72 hb72 nb72 => ⟨fun _ _ => (fun _ h => h.drop (.cons _ <| .cons _ <| .cons _ <| .cons_cons _ <| .cons_cons _ <| .cons_cons _ <| .refl _)), ?_⟩)
      refine WX_pick [3, 4] (by kernel_rfl) (by decide) (in2 ?_ ?_)
      ·
       refine WXop_x rfl rfl (x_append sl_22 el_62 (lk1 rfl <| lk0) (own_box rfl) (lk4 rfl <| lk2 rfl <| lk0) (hr.books.src (fun _ => rfl) (fun _ => Book.enc_one)) (by omega) (by omega) (.s <| .z) .box fun v73 R74 ho75 => ⟨fun _ _ => (fun _ h => h.drop (.cons _ <| List.sublist_append_of_sublist_right <| .cons _ <| .cons_cons _ <| .cons_cons _ <| .cons_cons _ <| .refl _)), ?_⟩)
       have hoB : Own 62 5 v73 r.books.length (r.books.flatMap Book.enc) R74 := by simpa using ho75
       refine WX_take 12 rfl (by kernel_rfl) (by kernel_rfl) (by kernel_rfl) (by kernel_rfl) rfl rfl (fun _ h => h.drop (.cons _ <| List.sublist_append_of_sublist_right <| .cons _ <| .cons_cons _ <| .cons_cons _ <| .cons_cons _ <| .refl _)) (fun _ _ _ h => h) (q_fieldAddrB fd_27_0 (lk8 rfl <| lk1 rfl <| lk0)) ?_
       refine WX_x 4 rfl (by kernel_rfl) rfl (x_build0 sl_23 fun b76 hb76 nb76 => ⟨fun _ _ => (fun _ h => h.drop (.cons _ <| .cons _ <| List.sublist_append_of_sublist_right <| .cons _ <| .cons_cons _ <| .cons_cons _ <| .cons_cons _ <| .refl _)), ?_⟩)
       refine WX_x 7 rfl (by kernel_rfl) rfl (x_append sl_23 el_64 (lk0) (own_box rfl) (lk4 rfl <| lk2 rfl <| lk1 rfl <| lk0) (hr.readers.src (fun _ => rfl) (fun _ => Rdr.enc_one)) (by omega) (by omega) (.z) .box fun v77 R78 ho79 => ⟨fun _ _ => (fun _ h => h.drop (List.sublist_append_of_sublist_right <| .cons _ <| List.sublist_append_of_sublist_right <| .cons _ <| .cons_cons _ <| .cons_cons _ <| .cons_cons _ <| .refl _)), ?_⟩)
       have hoR : Own 64 2 v77 r.readers.length (r.readers.flatMap Rdr.enc) R78 := by simpa using ho79
       refine WX_x 11 rfl (by kernel_rfl) rfl (x_append sl_25 el_58 (lk4 rfl <| lk0) (own_box rfl) (lk4 rfl <| lk2 rfl <| lk0) (hr.reqs.src (fun _ => rfl) (fun _ => Req.enc_one)) (by omega) (by omega) (.k <| .z) .box fun v80 R81 ho82 => ⟨fun _ _ => (fun _ h => h.drop (List.sublist_append_of_sublist_right <| List.sublist_append_of_sublist_right <| List.sublist_append_of_sublist_right <| .cons _ <| .cons_cons _ <| .cons_cons _ <| .cons_cons _ <| .refl _)), ?_⟩)
       have hoQ : Own 58 4 v80 r.reqs.length (r.reqs.flatMap Req.enc) R81 := by simpa using ho82
       refine WX_orderB (.one (.skip <| .skip <| .skip <| .here) <| .one (.skip <| .skip <| .skip <| .here) <| .one (.skip <| .skip <| .skip <| .here) <| .one (.skip <| .skip <| .lastS) <| .blk (.skip <| .lastS) <| .blk (.here) <| .lastb (.last)) ?_
       refine WX_x0 13 rfl (by kernel_rfl) (x_store1 sz_22 (lk2 rfl <| lk1 rfl <| lk0) (lk4 rfl <| lk0) (i := 0) rfl (.here) (by first | exact hoB.one | exact hoR.one | exact hoQ.one) (.here) ⟨fun _ _ => (fun _ h => h.drop (.cons _ <| .cons_cons _ <| .cons_cons _ <| .cons_cons _ <| List.sublist_append_of_sublist_right <| List.sublist_append_of_sublist_right <| List.nil_sublist _)), ?_⟩)
       refine WX_take 14 rfl (by kernel_rfl) (by kernel_rfl) (by kernel_rfl) (by kernel_rfl) rfl rfl (fun _ h => h.drop (.cons _ <| .cons_cons _ <| .cons_cons _ <| .cons_cons _ <| List.sublist_append_of_sublist_right <| List.sublist_append_of_sublist_right <| List.nil_sublist _)) (fun _ _ _ h => h) (q_fieldAddrB fd_27_1 (lk8 rfl <| lk4 rfl <| lk1 rfl <| lk0)) ?_
       refine WX_x0 15 rfl (by kernel_rfl) (x_store1 sz_23 (lk0) (lk2 rfl <| lk0) (i := 0) rfl (.next <| .here) (by first | exact hoB.one | exact hoR.one | exact hoQ.one) (.here) ⟨fun _ _ => (fun _ h => h.drop (.cons _ <| .cons_cons _ <| .cons_cons _ <| .cons_cons _ <| List.sublist_append_of_sublist_right <| List.sublist_append_of_sublist_right <| List.nil_sublist _)), ?_⟩)
       refine WX_take 16 rfl (by kernel_rfl) (by kernel_rfl) (by kernel_rfl) (by kernel_rfl) rfl rfl (fun _ h => h.drop (.cons _ <| .cons_cons _ <| .cons_cons _ <| .cons_cons _ <| List.sublist_append_of_sublist_right <| List.sublist_append_of_sublist_right <| List.nil_sublist _)) (fun _ _ _ h => h) (q_fieldAddrB fd_27_3 (lk8 rfl <| lk4 rfl <| lk2 rfl <| lk0)) ?_
       refine WX_x0 17 rfl (by kernel_rfl) (x_store1 sz_25 (lk0) (lk2 rfl <| lk0) (i := 0) rfl (.next <| .next <| .next <| .here) (by first | exact hoB.one | exact hoR.one | exact hoQ.one) (.here) ⟨(fun h => nomatch h), ?_⟩)
       refine WX_done (by kernel_rfl) ?_ _
       refine then_n ⟨_, Off.eq (ou8 rfl <| ou4 rfl <| ou2 rfl <| ou1 rfl <| off_refl), ?_⟩
       exact ⟨_, _, _, _, _, _, hoB, hoR, hoQ, rfl⟩
      ·
       refine WXop_x rfl rfl (x_build0 sl_23 fun b83 hb83 nb83 => ⟨fun _ _ => (fun _ h => h.drop (.cons _ <| .cons _ <| .cons _ <| .cons _ <| .cons_cons _ <| .cons_cons _ <| .cons_cons _ <| .refl _)), ?_⟩)
       refine WX_x 3 rfl (by kernel_rfl) rfl (x_append sl_22 el_62 (lk2 rfl <| lk0) (own_box rfl) (lk4 rfl <| lk2 rfl <| lk1 rfl <| lk0) (hr.books.src (fun _ => rfl) (fun _ => Book.enc_one)) (by omega) (by omega) (.s <| .s <| .z) .box fun v84 R85 ho86 => ⟨fun _ _ => (fun _ h => h.drop (.cons _ <| .cons _ <| List.sublist_append_of_sublist_right <| .cons _ <| .cons_cons _ <| .cons_cons _ <| .cons_cons _ <| .refl _)), ?_⟩)
       have hoB : Own 62 5 v84 r.books.length (r.books.flatMap Book.enc) R85 := by simpa using ho86
       refine WX_take 12 rfl (by kernel_rfl) (by kernel_rfl) (by kernel_rfl) (by kernel_rfl) rfl rfl (fun _ h => h.drop (.cons _ <| .cons _ <| List.sublist_append_of_sublist_right <| .cons _ <| .cons_cons _ <| .cons_cons _ <| .cons_cons _ <| .refl _)) (fun _ _ _ h => h) (q_fieldAddrB fd_27_0 (lk8 rfl <| lk2 rfl <| lk0)) ?_
       refine WX_x 7 rfl (by kernel_rfl) rfl (x_append sl_23 el_64 (lk2 rfl <| lk0) (own_box rfl) (lk4 rfl <| lk2 rfl <| lk1 rfl <| lk0) (hr.readers.src (fun _ => rfl) (fun _ => Rdr.enc_one)) (by omega) (by omega) (.z) .box fun v87 R88 ho89 => ⟨fun _ _ => (fun _ h => h.drop (List.sublist_append_of_sublist_right <| .cons _ <| List.sublist_append_of_sublist_right <| .cons _ <| .cons_cons _ <| .cons_cons _ <| .cons_cons _ <| .refl _)), ?_⟩)
       have hoR : Own 64 2 v87 r.readers.length (r.readers.flatMap Rdr.enc) R88 := by simpa using ho89
       refine WX_x 11 rfl (by kernel_rfl) rfl (x_append sl_25 el_58 (lk4 rfl <| lk0) (own_box rfl) (lk4 rfl <| lk2 rfl <| lk0) (hr.reqs.src (fun _ => rfl) (fun _ => Req.enc_one)) (by omega) (by omega) (.k <| .z) .box fun v90 R91 ho92 => ⟨fun _ _ => (fun _ h => h.drop (List.sublist_append_of_sublist_right <| List.sublist_append_of_sublist_right <| List.sublist_append_of_sublist_right <| .cons _ <| .cons_cons _ <| .cons_cons _ <| .cons_cons _ <| .refl _)), ?_⟩)
       have hoQ : Own 58 4 v90 r.reqs.length (r.reqs.flatMap Req.enc) R91 := by simpa using ho92
       refine WX_orderB (.one (.skip <| .skip <| .skip <| .here) <| .one (.skip <| .skip <| .skip <| .here) <| .one (.skip <| .skip <| .skip <| .here) <| .one (.skip <| .skip <| .lastS) <| .blk (.skip <| .lastS) <| .blk (.here) <| .lastb (.last)) ?_
       refine WX_x0 13 rfl (by kernel_rfl) (x_store1 sz_22 (lk2 rfl <| lk0) (lk2 rfl <| lk1 rfl <| lk0) (i := 0) rfl (.here) (by first | exact hoB.one | exact hoR.one | exact hoQ.one) (.here) ⟨fun _ _ => (fun _ h => h.drop (.cons _ <| .cons_cons _ <| .cons_cons _ <| .cons_cons _ <| List.sublist_append_of_sublist_right <| List.sublist_append_of_sublist_right <| List.nil_sublist _)), ?_⟩)
       refine WX_take 14 rfl (by kernel_rfl) (by kernel_rfl) (by kernel_rfl) (by kernel_rfl) rfl rfl (fun _ h => h.drop (.cons _ <| .cons_cons _ <| .cons_cons _ <| .cons_cons _ <| List.sublist_append_of_sublist_right <| List.sublist_append_of_sublist_right <| List.nil_sublist _)) (fun _ _ _ h => h) (q_fieldAddrB fd_27_1 (lk8 rfl <| lk4 rfl <| lk1 rfl <| lk0)) ?_
       refine WX_x0 15 rfl (by kernel_rfl) (x_store1 sz_23 (lk0) (lk2 rfl <| lk0) (i := 0) rfl (.next <| .here) (by first | exact hoB.one | exact hoR.one | exact hoQ.one) (.here) ⟨fun _ _ => (fun _ h => h.drop (.cons _ <| .cons_cons _ <| .cons_cons _ <| .cons_cons _ <| List.sublist_append_of_sublist_right <| List.sublist_append_of_sublist_right <| List.nil_sublist _)), ?_⟩)
       refine WX_take 16 rfl (by kernel_rfl) (by kernel_rfl) (by kernel_rfl) (by kernel_rfl) rfl rfl (fun _ h => h.drop (.cons _ <| .cons_cons _ <| .cons_cons _ <| .cons_cons _ <| List.sublist_append_of_sublist_right <| List.sublist_append_of_sublist_right <| List.nil_sublist _)) (fun _ _ _ h => h) (q_fieldAddrB fd_27_3 (lk8 rfl <| lk4 rfl <| lk2 rfl <| lk0)) ?_
       refine WX_x0 17 rfl (by kernel_rfl) (x_store1 sz_25 (lk0) (lk2 rfl <| lk0) (i := 0) rfl (.next <| .next <| .next <| .here) (by first | exact hoB.one | exact hoR.one | exact hoQ.one) (.here) ⟨(fun h => nomatch h), ?_⟩)
       refine WX_done (by kernel_rfl) ?_ _
       refine then_n ⟨_, Off.eq (ou8 rfl <| ou4 rfl <| ou2 rfl <| ou1 rfl <| off_refl), ?_⟩
       exact ⟨_, _, _, _, _, _, hoB, hoR, hoQ, rfl⟩
    ·
     refine WXop_x rfl rfl (x_build0 sl_23 fun b93 hb93 nb93 => ⟨fun _ _ => (fun _ h => h.drop (.cons _ <| .cons _ <| .cons_cons _ <| .cons_cons _ <| .cons_cons _ <| .refl _)), ?_⟩)
     refine WX_pick [0, 8] (by kernel_rfl) (by decide) (in2 ?_ ?_)
     ·
      refine WXop_x rfl rfl (x_build0 sl_22 fun b94 hb94 nb94 => ⟨fun _ _ => (fun _ h => h.drop (.cons _ <| .cons _ <| .cons _ <| .cons_cons _ <| .cons_cons _ <| .cons_cons _ <| .refl _)), ?_⟩)
      refine WX_pick [3, 8] (by kernel_rfl) (by decide) (in2 ?_ ?_)
      ·
       refine WXop_x rfl rfl (x_append sl_22 el_62 (lk0) (own_box rfl) (lk4 rfl <| lk2 rfl <| lk0) (hr.books.src (fun _ => rfl) (fun _ => Book.enc_one)) (by omega) (by omega) (.z) .box fun v95 R96 ho97 => ⟨fun _ _ => (fun _ h => h.drop (List.sublist_append_of_sublist_right <| .cons _ <| .cons _ <| .cons_cons _ <| .cons_cons _ <| .cons_cons _ <| .refl _)), ?_⟩)
       have hoB : Own 62 5 v95 r.books.length (r.books.flatMap Book.enc) R96 := by simpa using ho97
       refine WX_take 12 rfl (by kernel_rfl) (by kernel_rfl) (by kernel_rfl) (by kernel_rfl) rfl rfl (fun _ h => h.drop (List.sublist_append_of_sublist_right <| .cons _ <| .cons _ <| .cons_cons _ <| .cons_cons _ <| .cons_cons _ <| .refl _)) (fun _ _ _ h => h) (q_fieldAddrB fd_27_0 (lk8 rfl <| lk1 rfl <| lk0)) ?_
       refine WX_pick [7, 8] (by kernel_rfl) (by decide) (in2 ?_ ?_)
       ·
        refine WXop_x rfl rfl (x_append sl_23 el_64 (lk2 rfl <| lk1 rfl <| lk0) (own_box rfl) (lk4 rfl <| lk2 rfl <| lk0) (hr.readers.src (fun _ => rfl) (fun _ => Rdr.enc_one)) (by omega) (by omega) (.k <| .z) .box fun v98 R99 ho100 => ⟨fun _ _ => (fun _ h => h.drop (List.sublist_append_of_sublist_right <| List.sublist_append_of_sublist_right <| .cons _ <| .cons_cons _ <| .cons_cons _ <| .cons_cons _ <| .refl _)), ?_⟩)
        have hoR : Own 64 2 v98 r.readers.length (r.readers.flatMap Rdr.enc) R99 := by simpa using ho100
        refine WX_x 8 rfl (by kernel_rfl) rfl (x_build0 sl_25 fun b101 hb101 nb101 => ⟨fun _ _ => (fun _ h => h.drop (.cons _ <| List.sublist_append_of_sublist_right <| List.sublist_append_of_sublist_right <| .cons _ <| .cons_cons _ <| .cons_cons _ <| .cons_cons _ <| .refl _)), ?_⟩)
        refine WX_x 11 rfl (by kernel_rfl) rfl (x_append sl_25 el_58 (lk0) (own_box rfl) (lk4 rfl <| lk2 rfl <| lk0) (hr.reqs.src (fun _ => rfl) (fun _ => Req.enc_one)) (by omega) (by omega) (.z) .box fun v102 R103 ho104 => ⟨fun _ _ => (fun _ h => h.drop (List.sublist_append_of_sublist_right <| List.sublist_append_of_sublist_right <| List.sublist_append_of_sublist_right <| .cons _ <| .cons_cons _ <| .cons_cons _ <| .cons_cons _ <| .refl _)), ?_⟩)
        have hoQ : Own 58 4 v102 r.reqs.length (r.reqs.flatMap Req.enc) R103 := by simpa using ho104
        refine WX_orderB (.one (.skip <| .skip <| .skip <| .here) <| .one (.skip <| .skip <| .skip <| .here) <| .one (.skip <| .skip <| .skip <| .here) <| .one (.skip <| .skip <| .lastS) <| .blk (.skip <| .here) <| .blk (.lastS) <| .lastb (.last)) ?_
        refine WX_x0 13 rfl (by kernel_rfl) (x_store1 sz_22 (lk2 rfl <| lk1 rfl <| lk0) (lk4 rfl <| lk0) (i := 0) rfl (.here) (by first | exact hoB.one | exact hoR.one | exact hoQ.one) (.here) ⟨fun _ _ => (fun _ h => h.drop (.cons _ <| .cons_cons _ <| .cons_cons _ <| .cons_cons _ <| List.sublist_append_of_sublist_right <| List.sublist_append_of_sublist_right <| List.nil_sublist _)), ?_⟩)
        refine WX_take 14 rfl (by kernel_rfl) (by kernel_rfl) (by kernel_rfl) (by kernel_rfl) rfl rfl (fun _ h => h.drop (.cons _ <| .cons_cons _ <| .cons_cons _ <| .cons_cons _ <| List.sublist_append_of_sublist_right <| List.sublist_append_of_sublist_right <| List.nil_sublist _)) (fun _ _ _ h => h) (q_fieldAddrB fd_27_1 (lk8 rfl <| lk4 rfl <| lk1 rfl <| lk0)) ?_
        refine WX_x0 15 rfl (by kernel_rfl) (x_store1 sz_23 (lk0) (lk2 rfl <| lk1 rfl <| lk0) (i := 0) rfl (.next <| .here) (by first | exact hoB.one | exact hoR.one | exact hoQ.one) (.here) ⟨fun _ _ => (fun _ h => h.drop (.cons _ <| .cons_cons _ <| .cons_cons _ <| .cons_cons _ <| List.sublist_append_of_sublist_right <| List.sublist_append_of_sublist_right <| List.nil_sublist _)), ?_⟩)
        refine WX_take 16 rfl (by kernel_rfl) (by kernel_rfl) (by kernel_rfl) (by kernel_rfl) rfl rfl (fun _ h => h.drop (.cons _ <| .cons_cons _ <| .cons_cons _ <| .cons_cons _ <| List.sublist_append_of_sublist_right <| List.sublist_append_of_sublist_right <| List.nil_sublist _)) (fun _ _ _ h => h) (q_fieldAddrB fd_27_3 (lk8 rfl <| lk4 rfl <| lk2 rfl <| lk0)) ?_
        refine WX_x0 17 rfl (by kernel_rfl) (x_store1 sz_25 (lk0) (lk2 rfl <| lk0) (i := 0) rfl (.next <| .next <| .next <| .here) (by first | exact hoB.one | exact hoR.one | exact hoQ.one) (.here) ⟨(fun h => nomatch h), ?_⟩)
        refine WX_done (by kernel_rfl) ?_ _
        refine then_n ⟨_, Off.eq (ou8 rfl <| ou4 rfl <| ou2 rfl <| ou1 rfl <| off_refl), ?_⟩
        exact ⟨_, _, _, _, _, _, hoB, hoR, hoQ, rfl⟩
       ·
        refine WXop_x rfl rfl (x_build0 sl_25 fun b105 hb105 nb105 => ⟨fun _ _ => (fun _ h => h.drop (.cons _ <| List.sublist_append_of_sublist_right <| .cons _ <| .cons _ <| .cons_cons _ <| .cons_cons _ <| .cons_cons _ <| .refl _)), ?_⟩)
        refine WX_x 7 rfl (by kernel_rfl) rfl (x_append sl_23 el_64 (lk4 rfl <| lk0) (own_box rfl) (lk4 rfl <| lk2 rfl <| lk1 rfl <| lk0) (hr.readers.src (fun _ => rfl) (fun _ => Rdr.enc_one)) (by omega) (by omega) (.s <| .k <| .z) .box fun v106 R107 ho108 => ⟨fun _ _ => (fun _ h => h.drop (.cons _ <| List.sublist_append_of_sublist_right <| List.sublist_append_of_sublist_right <| .cons _ <| .cons_cons _ <| .cons_cons _ <| .cons_cons _ <| .refl _)), ?_⟩)
        have hoR : Own 64 2 v106 r.readers.length (r.readers.flatMap Rdr.enc) R107 := by simpa using ho108
        refine WX_x 11 rfl (by kernel_rfl) rfl (x_append sl_25 el_58 (lk1 rfl <| lk0) (own_box rfl) (lk4 rfl <| lk2 rfl <| lk0) (hr.reqs.src (fun _ => rfl) (fun _ => Req.enc_one)) (by omega) (by omega) (.z) .box fun v109 R110 ho111 => ⟨fun _ _ => (fun _ h => h.drop (List.sublist_append_of_sublist_right <| List.sublist_append_of_sublist_right <| List.sublist_append_of_sublist_right <| .cons _ <| .cons_cons _ <| .cons_cons _ <| .cons_cons _ <| .refl _)), ?_⟩)
        have hoQ : Own 58 4 v109 r.reqs.length (r.reqs.flatMap Req.enc) R110 := by simpa using ho111
        refine WX_orderB (.one (.skip <| .skip <| .skip <| .here) <| .one (.skip <| .skip <| .skip <| .here) <| .one (.skip <| .skip <| .skip <| .here) <| .one (.skip <| .skip <| .lastS) <| .blk (.skip <| .here) <| .blk (.lastS) <| .lastb (.last)) ?_
        refine WX_x0 13 rfl (by kernel_rfl) (x_store1 sz_22 (lk2 rfl <| lk1 rfl <| lk0) (lk4 rfl <| lk0) (i := 0) rfl (.here) (by first | exact hoB.one | exact hoR.one | exact hoQ.one) (.here) ⟨fun _ _ => (fun _ h => h.drop (.cons _ <| .cons_cons _ <| .cons_cons _ <| .cons_cons _ <| List.sublist_append_of_sublist_right <| List.sublist_append_of_sublist_right <| List.nil_sublist _)), ?_⟩)
        refine WX_take 14 rfl (by kernel_rfl) (by kernel_rfl) (by kernel_rfl) (by kernel_rfl) rfl rfl (fun _ h => h.drop (.cons _ <| .cons_cons _ <| .cons_cons _ <| .cons_cons _ <| List.sublist_append_of_sublist_right <| List.sublist_append_of_sublist_right <| List.nil_sublist _)) (fun _ _ _ h => h) (q_fieldAddrB fd_27_1 (lk8 rfl <| lk4 rfl <| lk1 rfl <| lk0)) ?_
        refine WX_x0 15 rfl (by kernel_rfl) (x_store1 sz_23 (lk0) (lk2 rfl <| lk0) (i := 0) rfl (.next <| .here) (by first | exact hoB.one | exact hoR.one | exact hoQ.one) (.here) ⟨fun _ _ => (fun _ h => h.drop (.cons _ <| .cons_cons _ <| .cons_cons _ <| .cons_cons _ <| List.sublist_append_of_sublist_right <| List.sublist_append_of_sublist_right <| List.nil_sublist _)), ?_⟩)
        refine WX_take 16 rfl (by kernel_rfl) (by kernel_rfl) (by kernel_rfl) (by kernel_rfl) rfl rfl (fun _ h => h.drop (.cons _ <| .cons_cons _ <| .cons_cons _ <| .cons_cons _ <| List.sublist_append_of_sublist_right <| List.sublist_append_of_sublist_right <| List.nil_sublist _)) (fun _ _ _ h => h) (q_fieldAddrB fd_27_3 (lk8 rfl <| lk4 rfl <| lk2 rfl <| lk0)) ?_
        refine WX_x0 17 rfl (by kernel_rfl) (x_store1 sz_25 (lk0) (lk2 rfl <| lk0) (i := 0) rfl (.next <| .next <| .next <| .here) (by first | exact hoB.one | exact hoR.one | exact hoQ.one) (.here) ⟨(fun h => nomatch h), ?_⟩)
        refine WX_done (by kernel_rfl) ?_ _
        refine then_n ⟨_, Off.eq (ou8 rfl <| ou4 rfl <| ou2 rfl <| ou1 rfl <| off_refl), ?_⟩
        exact ⟨_, _, _, _, _, _, hoB, hoR, hoQ, rfl⟩
      ·
       refine WXop_x rfl rfl (x_build0 sl_25 fun b112 hb112 nb112 => ⟨fun _ _ => (fun _ h => h.drop (.cons _ <| .cons _ <| .cons _ <| .cons _ <| .cons_cons _ <| .cons_cons _ <| .cons_cons _ <| .refl _)), ?_⟩)
       refine WX_x 3 rfl (by kernel_rfl) rfl (x_append sl_22 el_62 (lk1 rfl <| lk0) (own_box rfl) (lk4 rfl <| lk2 rfl <| lk1 rfl <| lk0) (hr.books.src (fun _ => rfl) (fun _ => Book.enc_one)) (by omega) (by omega) (.s <| .z) .box fun v113 R114 ho115 => ⟨fun _ _ => (fun _ h => h.drop (.cons _ <| List.sublist_append_of_sublist_right <| .cons _ <| .cons _ <| .cons_cons _ <| .cons_cons _ <| .cons_cons _ <| .refl _)), ?_⟩)
       have hoB : Own 62 5 v113 r.books.length (r.books.flatMap Book.enc) R114 := by simpa using ho115
       refine WX_take 12 rfl (by kernel_rfl) (by kernel_rfl) (by kernel_rfl) (by kernel_rfl) rfl rfl (fun _ h => h.drop (.cons _ <| List.sublist_append_of_sublist_right <| .cons _ <| .cons _ <| .cons_cons _ <| .cons_cons _ <| .cons_cons _ <| .refl _)) (fun _ _ _ h => h) (q_fieldAddrB fd_27_0 (lk8 rfl <| lk2 rfl <| lk0)) ?_
       refine WX_x 7 rfl (by kernel_rfl) rfl (x_append sl_23 el_64 (lk4 rfl <| lk0) (own_box rfl) (lk4 rfl <| lk2 rfl <| lk1 rfl <| lk0) (hr.readers.src (fun _ => rfl) (fun _ => Rdr.enc_one)) (by omega) (by omega) (.s <| .k <| .z) .box fun v116 R117 ho118 => ⟨fun _ _ => (fun _ h => h.drop (.cons _ <| List.sublist_append_of_sublist_right <| List.sublist_append_of_sublist_right <| .cons _ <| .cons_cons _ <| .cons_cons _ <| .cons_cons _ <| .refl _)), ?_⟩)
       have hoR : Own 64 2 v116 r.readers.length (r.readers.flatMap Rdr.enc) R117 := by simpa using ho118
       refine WX_x 11 rfl (by kernel_rfl) rfl (x_append sl_25 el_58 (lk2 rfl <| lk1 rfl <| lk0) (own_box rfl) (lk4 rfl <| lk2 rfl <| lk0) (hr.reqs.src (fun _ => rfl) (fun _ => Req.enc_one)) (by omega) (by omega) (.z) .box fun v119 R120 ho121 => ⟨fun _ _ => (fun _ h => h.drop (List.sublist_append_of_sublist_right <| List.sublist_append_of_sublist_right <| List.sublist_append_of_sublist_right <| .cons _ <| .cons_cons _ <| .cons_cons _ <| .cons_cons _ <| .refl _)), ?_⟩)
       have hoQ : Own 58 4 v119 r.reqs.length (r.reqs.flatMap Req.enc) R120 := by simpa using ho121
       refine WX_orderB (.one (.skip <| .skip <| .skip <| .here) <| .one (.skip <| .skip <| .skip <| .here) <| .one (.skip <| .skip <| .skip <| .here) <| .one (.skip <| .skip <| .lastS) <| .blk (.skip <| .here) <| .blk (.lastS) <| .lastb (.last)) ?_
       refine WX_x0 13 rfl (by kernel_rfl) (x_store1 sz_22 (lk2 rfl <| lk0) (lk2 rfl <| lk1 rfl <| lk0) (i := 0) rfl (.here) (by first | exact hoB.one | exact hoR.one | exact hoQ.one) (.here) ⟨fun _ _ => (fun _ h => h.drop (.cons _ <| .cons_cons _ <| .cons_cons _ <| .cons_cons _ <| List.sublist_append_of_sublist_right <| List.sublist_append_of_sublist_right <| List.nil_sublist _)), ?_⟩)
       refine WX_take 14 rfl (by kernel_rfl) (by kernel_rfl) (by kernel_rfl) (by kernel_rfl) rfl rfl (fun _ h => h.drop (.cons _ <| .cons_cons _ <| .cons_cons _ <| .cons_cons _ <| List.sublist_append_of_sublist_right <| List.sublist_append_of_sublist_right <| List.nil_sublist _)) (fun _ _ _ h => h) (q_fieldAddrB fd_27_1 (lk8 rfl <| lk4 rfl <| lk1 rfl <| lk0)) ?_
       refine WX_x0 15 rfl (by kernel_rfl) (x_store1 sz_23 (lk0) (lk2 rfl <| lk0) (i := 0) rfl (.next <| .here) (by first | exact hoB.one | exact hoR.one | exact hoQ.one) (.here) ⟨fun _ _ => (fun _ h => h.drop (.cons _ <| .cons_cons _ <| .cons_cons _ <| .cons_cons _ <| List.sublist_append_of_sublist_right <| List.sublist_append_of_sublist_right <| List.nil_sublist _)), ?_⟩)
       refine WX_take 16 rfl (by kernel_rfl) (by kernel_rfl) (by kernel_rfl) (by kernel_rfl) rfl rfl (fun _ h => h.drop (.cons _ <| .cons_cons _ <| .cons_cons _ <| .cons_cons _ <| List.sublist_append_of_sublist_right <| List.sublist_append_of_sublist_right <| List.nil_sublist _)) (fun _ _ _ h => h) (q_fieldAddrB fd_27_3 (lk8 rfl <| lk4 rfl <| lk2 rfl <| lk0)) ?_
       refine WX_x0 17 rfl (by kernel_rfl) (x_store1 sz_25 (lk0) (lk2 rfl <| lk0) (i := 0) rfl (.next <| .next <| .next <| .here) (by first | exact hoB.one | exact hoR.one | exact hoQ.one) (.here) ⟨(fun h => nomatch h), ?_⟩)
       refine WX_done (by kernel_rfl) ?_ _
       refine then_n ⟨_, Off.eq (ou8 rfl <| ou4 rfl <| ou2 rfl <| ou1 rfl <| off_refl), ?_⟩
       exact ⟨_, _, _, _, _, _, hoB, hoR, hoQ, rfl⟩
     ·
      refine WXop_x rfl rfl (x_build0 sl_25 fun b122 hb122 nb122 => ⟨fun _ _ => (fun _ h => h.drop (.cons _ <| .cons _ <| .cons _ <| .cons_cons _ <| .cons_cons _ <| .cons_cons _ <| .refl _)), ?_⟩)
      refine WX_x 0 rfl (by kernel_rfl) rfl (x_build0 sl_22 fun b123 hb123 nb123 => ⟨fun _ _ => (fun _ h => h.drop (.cons _ <| .cons _ <| .cons _ <| .cons _ <| .cons_cons _ <| .cons_cons _ <| .cons_cons _ <| .refl _)), ?_⟩)
      refine WX_x 3 rfl (by kernel_rfl) rfl (x_append sl_22 el_62 (lk0) (own_box rfl) (lk4 rfl <| lk2 rfl <| lk1 rfl <| lk0) (hr.books.src (fun _ => rfl) (fun _ => Book.enc_one)) (by omega) (by omega) (.z) .box fun v124 R125 ho126 => ⟨fun _ _ => (fun _ h => h.drop (List.sublist_append_of_sublist_right <| .cons _ <| .cons _ <| .cons _ <| .cons_cons _ <| .cons_cons _ <| .cons_cons _ <| .refl _)), ?_⟩)
      have hoB : Own 62 5 v124 r.books.length (r.books.flatMap Book.enc) R125 := by simpa using ho126
      refine WX_take 12 rfl (by kernel_rfl) (by kernel_rfl) (by kernel_rfl) (by kernel_rfl) rfl rfl (fun _ h => h.drop (List.sublist_append_of_sublist_right <| .cons _ <| .cons _ <| .cons _ <| .cons_cons _ <| .cons_cons _ <| .cons_cons _ <| .refl _)) (fun _ _ _ h => h) (q_fieldAddrB fd_27_0 (lk8 rfl <| lk2 rfl <| lk0)) ?_
      refine WX_x 7 rfl (by kernel_rfl) rfl (x_append sl_23 el_64 (lk4 rfl <| lk0) (own_box rfl) (lk4 rfl <| lk2 rfl <| lk1 rfl <| lk0) (hr.readers.src (fun _ => rfl) (fun _ => Rdr.enc_one)) (by omega) (by omega) (.k <| .s <| .z) .box fun v127 R128 ho129 => ⟨fun _ _ => (fun _ h => h.drop (List.sublist_append_of_sublist_right <| .cons _ <| List.sublist_append_of_sublist_right <| .cons _ <| .cons_cons _ <| .cons_cons _ <| .cons_cons _ <| .refl _)), ?_⟩)
      have hoR : Own 64 2 v127 r.readers.length (r.readers.flatMap Rdr.enc) R128 := by simpa using ho129
      refine WX_x 11 rfl (by kernel_rfl) rfl (x_append sl_25 el_58 (lk4 rfl <| lk0) (own_box rfl) (lk4 rfl <| lk2 rfl <| lk0) (hr.reqs.src (fun _ => rfl) (fun _ => Req.enc_one)) (by omega) (by omega) (.k <| .z) .box fun v130 R131 ho132 => ⟨fun _ _ => (fun _ h => h.drop (List.sublist_append_of_sublist_right <| List.sublist_append_of_sublist_right <| List.sublist_append_of_sublist_right <| .cons _ <| .cons_cons _ <| .cons_cons _ <| .cons_cons _ <| .refl _)), ?_⟩)
      have hoQ : Own 58 4 v130 r.reqs.length (r.reqs.flatMap Req.enc) R131 := by simpa using ho132
      refine WX_orderB (.one (.skip <| .skip <| .skip <| .here) <| .one (.skip <| .skip <| .skip <| .here) <| .one (.skip <| .skip <| .skip <| .here) <| .one (.skip <| .skip <| .lastS) <| .blk (.here) <| .blk (.lastS) <| .lastb (.last)) ?_
      refine WX_x0 13 rfl (by kernel_rfl) (x_store1 sz_22 (lk2 rfl <| lk0) (lk2 rfl <| lk1 rfl <| lk0) (i := 0) rfl (.here) (by first | exact hoB.one | exact hoR.one | exact hoQ.one) (.here) ⟨fun _ _ => (fun _ h => h.drop (.cons _ <| .cons_cons _ <| .cons_cons _ <| .cons_cons _ <| List.sublist_append_of_sublist_right <| List.sublist_append_of_sublist_right <| List.nil_sublist _)), ?_⟩)
      refine WX_take 14 rfl (by kernel_rfl) (by kernel_rfl) (by kernel_rfl) (by kernel_rfl) rfl rfl (fun _ h => h.drop (.cons _ <| .cons_cons _ <| .cons_cons _ <| .cons_cons _ <| List.sublist_append_of_sublist_right <| List.sublist_append_of_sublist_right <| List.nil_sublist _)) (fun _ _ _ h => h) (q_fieldAddrB fd_27_1 (lk8 rfl <| lk4 rfl <| lk1 rfl <| lk0)) ?_
      refine WX_x0 15 rfl (by kernel_rfl) (x_store1 sz_23 (lk0) (lk2 rfl <| lk0) (i := 0) rfl (.next <| .here) (by first | exact hoB.one | exact hoR.one | exact hoQ.one) (.here) ⟨fun _ _ => (fun _ h => h.drop (.cons _ <| .cons_cons _ <| .cons_cons _ <| .cons_cons _ <| List.sublist_append_of_sublist_right <| List.sublist_append_of_sublist_right <| List.nil_sublist _)), ?_⟩)
      refine WX_take 16 rfl (by kernel_rfl) (by kernel_rfl) (by kernel_rfl) (by kernel_rfl) rfl rfl (fun _ h => h.drop (.cons _ <| .cons_cons _ <| .cons_cons _ <| .cons_cons _ <| List.sublist_append_of_sublist_right <| List.sublist_append_of_sublist_right <| List.nil_sublist _)) (fun _ _ _ h => h) (q_fieldAddrB fd_27_3 (lk8 rfl <| lk4 rfl <| lk2 rfl <| lk0)) ?_
      refine WX_x0 17 rfl (by kernel_rfl) (x_store1 sz_25 (lk0) (lk2 rfl <| lk0) (i := 0) rfl (.next <| .next <| .next <| .here) (by first | exact hoB.one | exact hoR.one | exact hoQ.one) (.here) ⟨(fun h => nomatch h), ?_⟩)
      refine WX_done (by kernel_rfl) ?_ _
      refine then_n ⟨_, Off.eq (ou8 rfl <| ou4 rfl <| ou2 rfl <| ou1 rfl <| off_refl), ?_⟩
      exact ⟨_, _, _, _, _, _, hoB, hoR, hoQ, rfl⟩
    ·
     refine WXop_x rfl rfl (x_build0 sl_25 fun b133 hb133 nb133 => ⟨fun _ _ => (fun _ h => h.drop (.cons _ <| .cons _ <| .cons_cons _ <| .cons_cons _ <| .cons_cons _ <| .refl _)), ?_⟩)
     refine WX_pick [0, 4] (by kernel_rfl) (by decide) (in2 ?_ ?_)
     ·
      refine WXop_x rfl rfl (x_build0 sl_22 fun b134 hb134 nb134 => ⟨fun _ _ => (fun _ h => h.drop (.cons _ <| .cons _ <| .cons _ <| .cons_cons _ <| .cons_cons _ <| .cons_cons _ <| .refl _)), ?_⟩)
      refine WX_pick [3, 4] (by kernel_rfl) (by decide) (in2 ?_ ?_)
      ·
       refine WXop_x rfl rfl (x_append sl_22 el_62 (lk0) (own_box rfl) (lk4 rfl <| lk2 rfl <| lk0) (hr.books.src (fun _ => rfl) (fun _ => Book.enc_one)) (by omega) (by omega) (.z) .box fun v135 R136 ho137 => ⟨fun _ _ => (fun _ h => h.drop (List.sublist_append_of_sublist_right <| .cons _ <| .cons _ <| .cons_cons _ <| .cons_cons _ <| .cons_cons _ <| .refl _)), ?_⟩)
       have hoB : Own 62 5 v135 r.books.length (r.books.flatMap Book.enc) R136 := by simpa using ho137
       refine WX_take 12 rfl (by kernel_rfl) (by kernel_rfl) (by kernel_rfl) (by kernel_rfl) rfl rfl (fun _ h => h.drop (List.sublist_append_of_sublist_right <| .cons _ <| .cons _ <| .cons_cons _ <| .cons_cons _ <| .cons_cons _ <| .refl _)) (fun _ _ _ h => h) (q_fieldAddrB fd_27_0 (lk8 rfl <| lk1 rfl <| lk0)) ?_
       refine WX_x 4 rfl (by kernel_rfl) rfl (x_build0 sl_23 fun b138 hb138 nb138 => ⟨fun _ _ => (fun _ h => h.drop (.cons _ <| List.sublist_append_of_sublist_right <| .cons _ <| .cons _ <| .cons_cons _ <| .cons_cons _ <| .cons_cons _ <| .refl _)), ?_⟩)
       refine WX_x 7 rfl (by kernel_rfl) rfl (x_append sl_23 el_64 (lk0) (own_box rfl) (lk4 rfl <| lk2 rfl <| lk1 rfl <| lk0) (hr.readers.src (fun _ => rfl) (fun _ => Rdr.enc_one)) (by omega) (by omega) (.z) .box fun v139 R140 ho141 => ⟨fun _ _ => (fun _ h => h.drop (List.sublist_append_of_sublist_right <| List.sublist_append_of_sublist_right <| .cons _ <| .cons _ <| .cons_cons _ <| .cons_cons _ <| .cons_cons _ <| .refl _)), ?_⟩)
       have hoR : Own 64 2 v139 r.readers.length (r.readers.flatMap Rdr.enc) R140 := by simpa using ho141
       refine WX_x 11 rfl (by kernel_rfl) rfl (x_append sl_25 el_58 (lk4 rfl <| lk1 rfl <| lk0) (own_box rfl) (lk4 rfl <| lk2 rfl <| lk0) (hr.reqs.src (fun _ => rfl) (fun _ => Req.enc_one)) (by omega) (by omega) (.k <| .k <| .z) .box fun v142 R143 ho144 => ⟨fun _ _ => (fun _ h => h.drop (List.sublist_append_of_sublist_right <| List.sublist_append_of_sublist_right <| List.sublist_append_of_sublist_right <| .cons _ <| .cons_cons _ <| .cons_cons _ <| .cons_cons _ <| .refl _)), ?_⟩)
       have hoQ : Own 58 4 v142 r.reqs.length (r.reqs.flatMap Req.enc) R143 := by simpa using ho144
       refine WX_orderB (.one (.skip <| .skip <| .skip <| .here) <| .one (.skip <| .skip <| .skip <| .here) <| .one (.skip <| .skip <| .skip <| .here) <| .one (.skip <| .skip <| .lastS) <| .blk (.skip <| .here) <| .blk (.here) <| .lastb (.last)) ?_
       refine WX_x0 13 rfl (by kernel_rfl) (x_store1 sz_22 (lk2 rfl <| lk1 rfl <| lk0) (lk4 rfl <| lk0) (i := 0) rfl (.here) (by first | exact hoB.one | exact hoR.one | exact hoQ.one) (.here) ⟨fun _ _ => (fun _ h => h.drop (.cons _ <| .cons_cons _ <| .cons_cons _ <| .cons_cons _ <| List.sublist_append_of_sublist_right <| List.sublist_append_of_sublist_right <| List.nil_sublist _)), ?_⟩)
       refine WX_take 14 rfl (by kernel_rfl) (by kernel_rfl) (by kernel_rfl) (by kernel_rfl) rfl rfl (fun _ h => h.drop (.cons _ <| .cons_cons _ <| .cons_cons _ <| .cons_cons _ <| List.sublist_append_of_sublist_right <| List.sublist_append_of_sublist_right <| List.nil_sublist _)) (fun _ _ _ h => h) (q_fieldAddrB fd_27_1 (lk8 rfl <| lk4 rfl <| lk1 rfl <| lk0)) ?_
       refine WX_x0 15 rfl (by kernel_rfl) (x_store1 sz_23 (lk0) (lk2 rfl <| lk0) (i := 0) rfl (.next <| .here) (by first | exact hoB.one | exact hoR.one | exact hoQ.one) (.here) ⟨fun _ _ => (fun _ h => h.drop (.cons _ <| .cons_cons _ <| .cons_cons _ <| .cons_cons _ <| List.sublist_append_of_sublist_right <| List.sublist_append_of_sublist_right <| List.nil_sublist _)), ?_⟩)
       refine WX_take 16 rfl (by kernel_rfl) (by kernel_rfl) (by kernel_rfl) (by kernel_rfl) rfl rfl (fun _ h => h.drop (.cons _ <| .cons_cons _ <| .cons_cons _ <| .cons_cons _ <| List.sublist_append_of_sublist_right <| List.sublist_append_of_sublist_right <| List.nil_sublist _)) (fun _ _ _ h => h) (q_fieldAddrB fd_27_3 (lk8 rfl <| lk4 rfl <| lk2 rfl <| lk0)) ?_
       refine WX_x0 17 rfl (by kernel_rfl) (x_store1 sz_25 (lk0) (lk2 rfl <| lk0) (i := 0) rfl (.next <| .next <| .next <| .here) (by first | exact hoB.one | exact hoR.one | exact hoQ.one) (.here) ⟨(fun h => nomatch h), ?_⟩)
       refine WX_done (by kernel_rfl) ?_ _
       refine then_n ⟨_, Off.eq (ou8 rfl <| ou4 rfl <| ou2 rfl <| ou1 rfl <| off_refl), ?_⟩
       exact ⟨_, _, _, _, _, _, hoB, hoR, hoQ, rfl⟩
      ·
       refine WXop_x rfl rfl (x_build0 sl_23 fun b145 hb145 nb145 => ⟨fun _ _ => (fun _ h => h.drop (.cons _ <| .cons _ <| .cons _ <| .cons _ <| .cons_cons _ <| .cons_cons _ <| .cons_cons _ <| .refl _)), ?_⟩)
       refine WX_x 3 rfl (by kernel_rfl) rfl (x_append sl_22 el_62 (lk1 rfl <| lk0) (own_box rfl) (lk4 rfl <| lk2 rfl <| lk1 rfl <| lk0) (hr.books.src (fun _ => rfl) (fun _ => Book.enc_one)) (by omega) (by omega) (.s <| .z) .box fun v146 R147 ho148 => ⟨fun _ _ => (fun _ h => h.drop (.cons _ <| List.sublist_append_of_sublist_right <| .cons _ <| .cons _ <| .cons_cons _ <| .cons_cons _ <| .cons_cons _ <| .refl _)), ?_⟩)
       have hoB : Own 62 5 v146 r.books.length (r.books.flatMap Book.enc) R147 := by simpa using ho148
       refine WX_take 12 rfl (by kernel_rfl) (by kernel_rfl) (by kernel_rfl) (by kernel_rfl) rfl rfl (fun _ h => h.drop (.cons _ <| List.sublist_append_of_sublist_right <| .cons _ <| .cons _ <| .cons_cons _ <| .cons_cons _ <| .cons_cons _ <| .refl _)) (fun _ _ _ h => h) (q_fieldAddrB fd_27_0 (lk8 rfl <| lk2 rfl <| lk0)) ?_
       refine WX_x 7 rfl (by kernel_rfl) rfl (x_append sl_23 el_64 (lk2 rfl <| lk0) (own_box rfl) (lk4 rfl <| lk2 rfl <| lk1 rfl <| lk0) (hr.readers.src (fun _ => rfl) (fun _ => Rdr.enc_one)) (by omega) (by omega) (.z) .box fun v149 R150 ho151 => ⟨fun _ _ => (fun _ h => h.drop (List.sublist_append_of_sublist_right <| List.sublist_append_of_sublist_right <| .cons _ <| .cons _ <| .cons_cons _ <| .cons_cons _ <| .cons_cons _ <| .refl _)), ?_⟩)
       have hoR : Own 64 2 v149 r.readers.length (r.readers.flatMap Rdr.enc) R150 := by simpa using ho151
       refine WX_x 11 rfl (by kernel_rfl) rfl (x_append sl_25 el_58 (lk4 rfl <| lk1 rfl <| lk0) (own_box rfl) (lk4 rfl <| lk2 rfl <| lk0) (hr.reqs.src (fun _ => rfl) (fun _ => Req.enc_one)) (by omega) (by omega) (.k <| .k <| .z) .box fun v152 R153 ho154 => ⟨fun _ _ => (fun _ h => h.drop (List.sublist_append_of_sublist_right <| List.sublist_append_of_sublist_right <| List.sublist_append_of_sublist_right <| .cons _ <| .cons_cons _ <| .cons_cons _ <| .cons_cons _ <| .refl _)), ?_⟩)
       have hoQ : Own 58 4 v152 r.reqs.length (r.reqs.flatMap Req.enc) R153 := by simpa using ho154
       refine WX_orderB (.one (.skip <| .skip <| .skip <| .here) <| .one (.skip <| .skip <| .skip <| .here) <| .one (.skip <| .skip <| .skip <| .here) <| .one (.skip <| .skip <| .lastS) <| .blk (.skip <| .here) <| .blk (.here) <| .lastb (.last)) ?_
       refine WX_x0 13 rfl (by kernel_rfl) (x_store1 sz_22 (lk2 rfl <| lk0) (lk2 rfl <| lk1 rfl <| lk0) (i := 0) rfl (.here) (by first | exact hoB.one | exact hoR.one | exact hoQ.one) (.here) ⟨fun _ _ => (fun _ h => h.drop (.cons _ <| .cons_cons _ <| .cons_cons _ <| .cons_cons _ <| List.sublist_append_of_sublist_right <| List.sublist_append_of_sublist_right <| List.nil_sublist _)), ?_⟩)
       refine WX_take 14 rfl (by kernel_rfl) (by kernel_rfl) (by kernel_rfl) (by kernel_rfl) rfl rfl (fun _ h => h.drop (.cons _ <| .cons_cons _ <| .cons_cons _ <| .cons_cons _ <| List.sublist_append_of_sublist_right <| List.sublist_append_of_sublist_right <| List.nil_sublist _)) (fun _ _ _ h => h) (q_fieldAddrB fd_27_1 (lk8 rfl <| lk4 rfl <| lk1 rfl <| lk0)) ?_
       refine WX_x0 15 rfl (by kernel_rfl) (x_store1 sz_23 (lk0) (lk2 rfl <| lk0) (i := 0) rfl (.next <| .here) (by first | exact hoB.one | exact hoR.one | exact hoQ.one) (.here) ⟨fun _ _ => (fun _ h => h.drop (.cons _ <| .cons_cons _ <| .cons_cons _ <| .cons_cons _ <| List.sublist_append_of_sublist_right <| List.sublist_append_of_sublist_right <| List.nil_sublist _)), ?_⟩)
       refine WX_take 16 rfl (by kernel_rfl) (by kernel_rfl) (by kernel_rfl) (by kernel_rfl) rfl rfl (fun _ h => h.drop (.cons _ <| .cons_cons _ <| .cons_cons _ <| .cons_cons _ <| List.sublist_append_of_sublist_right <| List.sublist_append_of_sublist_right <| List.nil_sublist _)) (fun _ _ _ h => h) (q_fieldAddrB fd_27_3 (lk8 rfl <| lk4 rfl <| lk2 rfl <| lk0)) ?_
       refine WX_x0 17 rfl (by kernel_rfl) (x_store1 sz_25 (lk0) (lk2 rfl <| lk0) (i := 0) rfl (.next <| .next <| .next <| .here) (by first | exact hoB.one | exact hoR.one | exact hoQ.one) (.here) ⟨(fun h => nomatch h), ?_⟩)
       refine WX_done (by kernel_rfl) ?_ _
       refine then_n ⟨_, Off.eq (ou8 rfl <| ou4 rfl <| ou2 rfl <| ou1 rfl <| off_refl), ?_⟩
       exact ⟨_, _, _, _, _, _, hoB, hoR, hoQ, rfl⟩
     ·
      refine WXop_x rfl rfl (x_build0 sl_23 fun b155 hb155 nb155 => ⟨fun _ _ => (fun _ h => h.drop (.cons _ <| .cons _ <| .cons _ <| .cons_cons _ <| .cons_cons _ <| .cons_cons _ <| .refl _)), ?_⟩)
      refine WX_x 0 rfl (by kernel_rfl) rfl (x_build0 sl_22 fun b156 hb156 nb156 => ⟨fun _ _ => (fun _ h => h.drop (.cons _ <| .cons _ <| .cons _ <| .cons _ <| .cons_cons _ <| .cons_cons _ <| .cons_cons _ <| .refl _)), ?_⟩)
      refine WX_x 3 rfl (by kernel_rfl) rfl (x_append sl_22 el_62 (lk0) (own_box rfl) (lk4 rfl <| lk2 rfl <| lk1 rfl <| lk0) (hr.books.src (fun _ => rfl) (fun _ => Book.enc_one)) (by omega) (by omega) (.z) .box fun v157 R158 ho159 => ⟨fun _ _ => (fun _ h => h.drop (List.sublist_append_of_sublist_right <| .cons _ <| .cons _ <| .cons _ <| .cons_cons _ <| .cons_cons _ <| .cons_cons _ <| .refl _)), ?_⟩)
      have hoB : Own 62 5 v157 r.books.length (r.books.flatMap Book.enc) R158 := by simpa using ho159
      refine WX_take 12 rfl (by kernel_rfl) (by kernel_rfl) (by kernel_rfl) (by kernel_rfl) rfl rfl (fun _ h => h.drop (List.sublist_append_of_sublist_right <| .cons _ <| .cons _ <| .cons _ <| .cons_cons _ <| .cons_cons _ <| .cons_cons _ <| .refl _)) (fun _ _ _ h => h) (q_fieldAddrB fd_27_0 (lk8 rfl <| lk2 rfl <| lk0)) ?_
      refine WX_x 7 rfl (by kernel_rfl) rfl (x_append sl_23 el_64 (lk2 rfl <| lk1 rfl <| lk0) (own_box rfl) (lk4 rfl <| lk2 rfl <| lk1 rfl <| lk0) (hr.readers.src (fun _ => rfl) (fun _ => Rdr.enc_one)) (by omega) (by omega) (.k <| .z) .box fun v160 R161 ho162 => ⟨fun _ _ => (fun _ h => h.drop (List.sublist_append_of_sublist_right <| List.sublist_append_of_sublist_right <| .cons _ <| .cons _ <| .cons_cons _ <| .cons_cons _ <| .cons_cons _ <| .refl _)), ?_⟩)
      have hoR : Own 64 2 v160 r.readers.length (r.readers.flatMap Rdr.enc) R161 := by simpa using ho162
      refine WX_x 11 rfl (by kernel_rfl) rfl (x_append sl_25 el_58 (lk4 rfl <| lk1 rfl <| lk0) (own_box rfl) (lk4 rfl <| lk2 rfl <| lk0) (hr.reqs.src (fun _ => rfl) (fun _ => Req.enc_one)) (by omega) (by omega) (.k <| .k <| .z) .box fun v163 R164 ho165 => ⟨fun _ _ => (fun _ h => h.drop (List.sublist_append_of_sublist_right <| List.sublist_append_of_sublist_right <| List.sublist_append_of_sublist_right <| .cons _ <| .cons_cons _ <| .cons_cons _ <| .cons_cons _ <| .refl _)), ?_⟩)
      have hoQ : Own 58 4 v163 r.reqs.length (r.reqs.flatMap Req.enc) R164 := by simpa using ho165
      refine WX_orderB (.one (.skip <| .skip <| .skip <| .here) <| .one (.skip <| .skip <| .skip <| .here) <| .one (.skip <| .skip <| .skip <| .here) <| .one (.skip <| .skip <| .lastS) <| .blk (.here) <| .blk (.here) <| .lastb (.last)) ?_
      refine WX_x0 13 rfl (by kernel_rfl) (x_store1 sz_22 (lk2 rfl <| lk0) (lk2 rfl <| lk1 rfl <| lk0) (i := 0) rfl (.here) (by first | exact hoB.one | exact hoR.one | exact hoQ.one) (.here) ⟨fun _ _ => (fun _ h => h.drop (.cons _ <| .cons_cons _ <| .cons_cons _ <| .cons_cons _ <| List.sublist_append_of_sublist_right <| List.sublist_append_of_sublist_right <| List.nil_sublist _)), ?_⟩)
      refine WX_take 14 rfl (by kernel_rfl) (by kernel_rfl) (by kernel_rfl) (by kernel_rfl) rfl rfl (fun _ h => h.drop (.cons _ <| .cons_cons _ <| .cons_cons _ <| .cons_cons _ <| List.sublist_append_of_sublist_right <| List.sublist_append_of_sublist_right <| List.nil_sublist _)) (fun _ _ _ h => h) (q_fieldAddrB fd_27_1 (lk8 rfl <| lk4 rfl <| lk1 rfl <| lk0)) ?_
      refine WX_x0 15 rfl (by kernel_rfl) (x_store1 sz_23 (lk0) (lk2 rfl <| lk0) (i := 0) rfl (.next <| .here) (by first | exact hoB.one | exact hoR.one | exact hoQ.one) (.here) ⟨fun _ _ => (fun _ h => h.drop (.cons _ <| .cons_cons _ <| .cons_cons _ <| .cons_cons _ <| List.sublist_append_of_sublist_right <| List.sublist_append_of_sublist_right <| List.nil_sublist _)), ?_⟩)
      refine WX_take 16 rfl (by kernel_rfl) (by kernel_rfl) (by kernel_rfl) (by kernel_rfl) rfl rfl (fun _ h => h.drop (.cons _ <| .cons_cons _ <| .cons_cons _ <| .cons_cons _ <| List.sublist_append_of_sublist_right <| List.sublist_append_of_sublist_right <| List.nil_sublist _)) (fun _ _ _ h => h) (q_fieldAddrB fd_27_3 (lk8 rfl <| lk4 rfl <| lk2 rfl <| lk0)) ?_
      refine WX_x0 17 rfl (by kernel_rfl) (x_store1 sz_25 (lk0) (lk2 rfl <| lk0) (i := 0) rfl (.next <| .next <| .next <| .here) (by first | exact hoB.one | exact hoR.one | exact hoQ.one) (.here) ⟨(fun h => nomatch h), ?_⟩)
      refine WX_done (by kernel_rfl) ?_ _
      refine then_n ⟨_, Off.eq (ou8 rfl <| ou4 rfl <| ou2 rfl <| ou1 rfl <| off_refl), ?_⟩
      exact ⟨_, _, _, _, _, _, hoB, hoR, hoQ, rfl⟩
   rintro e9 _ ⟨x0, x1, x3, R0, R1, R3, hoB, hoR, hoQ, rfl⟩
   refine WC_seq ?_
   refine WC_seq ?_
   refine WC_reg fun ds => ?_
   refine WL_q rfl (q_fieldAddrB fd_27_2 (lk_off rfl <| lk2 rfl <| lk_off rfl <| lk_off rfl <| lk16 rfl <| lk2 rfl <| lk1 rfl <| lk0)) ?_
   refine WL_q rfl (q_load1 one_24 (lk0) (Cell.own 3 rfl rfl)) ?_
   refine WL_q rfl (q_lenP sl_24 (lk0) hr.seats.plain) ?_
   refine WL_q rfl (q_lss (lk0) lk_const) ?_
   refine WL_nil ?_
   refine then_n ?_
   refine WC_cut [83, 84, 85, 86, 87, 88, 89, 90, 91] (fun st σ => ∃ (G : Heap) (x2 : Value), F.le G ∧ RoomR G vb vr vs vq r ∧ Nats G wl (chosenL r ba) ∧ Sl G x2 2 Seat.enc (easyS r ⟨sl, ss⟩) ∧ σ = ⟨G, (b16, bx 27 [x0, x1, x2, x3]) :: (b3, bx 82 [.int .i64 sl, .bool ss, .int .u8 (u0 : Int), .int .u8 (u1 : Int), .int .u8 (u2 : Int), .int .u8 (y0 : Int), .int .u8 (y1 : Int), .int .u8 (y2 : Int)]) :: (b2, bx 77 [.int .u8 (ba : Int), .int .u8 (bb : Int)]) :: (b1, bx 27 [vb, vr, vs, vq]) :: (R0 ++ (R1 ++ R3))⟩) ?_ ?_
   ·
    by_cases hs6 : r.seats.length < 6
    ·
     refine WC_if_true (lk0) (decide_eq_true (by omega)) ?_
     have hleS := hle0
     refine WC_drawS (.inl rfl) (fun _ _ h => h) (.cons_cons _ <| .cons_cons _ <| .cons_cons _ <| .cons_cons _ <| .refl _) [9] (by kernel_rfl) fun ds => ?_
     refine WX_take 1 rfl (by kernel_rfl) (by kernel_rfl) (by kernel_rfl) (by kernel_rfl) rfl rfl (fun _ h => h.drop (.cons_cons _ <| .cons_cons _ <| .cons_cons _ <| .cons_cons _ <| .refl _)) (fun _ _ _ h => h) (q_fieldAddrB fd_27_2 (lk4 rfl <| lk_off rfl <| lk2 rfl <| lk_off rfl <| lk_off rfl <| lk16 rfl <| lk2 rfl <| lk1 rfl <| lk0)) ?_
     refine WX_take 2 rfl (by kernel_rfl) (by kernel_rfl) (by kernel_rfl) (by kernel_rfl) rfl rfl (fun _ h => h.drop (.cons_cons _ <| .cons_cons _ <| .cons_cons _ <| .cons_cons _ <| .refl _)) (fun _ _ _ h => h) (q_load1 one_24 (lk0) (Cell.own 3 rfl rfl)) ?_
     refine WX_take 4 rfl (by kernel_rfl) (by kernel_rfl) (by kernel_rfl) (by kernel_rfl) rfl rfl (fun _ h => h.drop (.cons_cons _ <| .cons_cons _ <| .cons_cons _ <| .cons_cons _ <| .refl _)) (fun _ _ _ h => h) (q_fieldAddrB fd_82_0 (lk4 rfl <| lk2 rfl <| lk_off rfl <| lk2 rfl <| lk_off rfl <| lk_off rfl <| lk16 rfl <| lk1 rfl <| lk0)) ?_
     refine WX_take 5 rfl (by kernel_rfl) (by kernel_rfl) (by kernel_rfl) (by kernel_rfl) rfl rfl (fun _ h => h.drop (.cons_cons _ <| .cons_cons _ <| .cons_cons _ <| .cons_cons _ <| .refl _)) (fun _ _ _ h => h) (q_loadN (vs := [.int .i64 sl, .bool ss]) agg_66 (lk0) rfl rfl (own_part 1 rfl rfl)) ?_
     refine WX_pick [0, 6] (by kernel_rfl) (by decide) (in2 ?_ ?_)
     ·
      refine WXop_x rfl rfl (x_build0 sl_24 fun b166 hb166 nb166 => ⟨fun _ _ => (fun _ h => h.drop (.cons _ <| .cons_cons _ <| .cons_cons _ <| .cons_cons _ <| .cons_cons _ <| .refl _)), ?_⟩)
      refine WX_pick [3, 6] (by kernel_rfl) (by decide) (in2 ?_ ?_)
      ·
       refine WXop_x rfl rfl (x_append sl_24 el_66 (lk0) (own_box rfl) (lk2 rfl <| lk1 rfl <| lk0) (hr.seats.src (fun _ => rfl) (fun _ => Seat.enc_one)) (by omega) (by omega) (.z) .box fun v167 R168 ho169 => ⟨fun _ _ => (fun _ h => h.drop (List.sublist_append_of_sublist_right <| .cons_cons _ <| .cons_cons _ <| .cons_cons _ <| .cons_cons _ <| .refl _)), ?_⟩)
       have hoC : Own 66 2 v167 r.seats.length (r.seats.flatMap Seat.enc) R168 := by simpa using ho169
       refine WX_x 6 rfl (by kernel_rfl) rfl (x_buildN (offs := [(0, 2)]) (zl := [.int .i64 0, .bool false]) sl_24 zr_66 rfl (.cons (lk2 rfl <| lk0) rfl .nil) (by intro i p h; rcases i with _ | i <;> simp at h <;> subst h <;> rfl) (.cons rfl rfl (Nat.le_of_ble_eq_true rfl) (.cons (.here) (.cons (.next <| .here) .nil)) .nil) (by decide) (by decide) fun b170 hb170 nb170 => ⟨fun _ _ => (fun _ h => h.drop (.cons _ <| List.sublist_append_of_sublist_right <| .cons_cons _ <| .cons_cons _ <| .cons_cons _ <| .cons_cons _ <| .refl _)), ?_⟩)
       refine WX_x 7 rfl (by kernel_rfl) rfl (x_append sl_24 el_66 (lk1 rfl <| lk0) hoC (lk0) (src_box (s := 2) 0 rfl rfl (by simp [Value.oneCell'])) (by omega) (by omega) (.s <| .z) .more fun v171 R172 ho173 => ⟨fun _ _ => (fun _ h => h.drop (.cons _ <| List.sublist_append_of_sublist_right <| .cons_cons _ <| .cons_cons _ <| .cons_cons _ <| .cons_cons _ <| .refl _)), ?_⟩)
       have hoS := ho173.snoc (x := (⟨sl, ss⟩ : Seat)) rfl rfl
       refine WX_take 8 rfl (by kernel_rfl) (by kernel_rfl) (by kernel_rfl) (by kernel_rfl) rfl rfl (fun _ h => h.drop (.cons _ <| List.sublist_append_of_sublist_right <| .cons_cons _ <| .cons_cons _ <| .cons_cons _ <| .cons_cons _ <| .refl _)) (fun _ _ _ h => h) (q_fieldAddrB fd_27_2 (lk8 rfl <| lk4 rfl <| lk_off rfl <| lk0)) ?_
       refine WX_orderB (.one (.next <| .skip <| .here) <| .one (.next <| .skip <| .here) <| .one (.next <| .skip <| .here) <| .one (.next <| .skip <| .here) <| .blk (.next <| .skip <| .here) <| .blk (.next <| .skip <| .here) <| .blk (.next <| .lastS) <| .lastb (.next <| .last)) ?_
       refine WX_freezeR (σ := ⟨_, _⟩) (by rfl) hoS (.s <| .s <| .s <| .s <| .k <| .k <| .k <| .z) .last fun F174 hF175 hz176 => ?_
       replace hr := hr.mono hF175
       replace hle0 := Heap.le_trans hle0 hF175
       replace hl := hl.mono hF175
       refine WX_orderB (.one (.here) <| .one (.here) <| .one (.here) <| .one (.here) <| .blk (.here) <| .blk (.here) <| .lastb (.here)) ?_
       have hns := hoS.sl (fun _ => rfl) hz176 (by simp only [List.length_append, List.length_singleton]; omega)
       refine WX_x0 9 rfl (by kernel_rfl) (x_store1 sz_24 (lk0) (lk1 rfl <| lk0) (i := 0) rfl (.next <| .next <| .here) hns.plain.one (.here) ⟨(fun h => nomatch h), ?_⟩)
       refine WX_done (by kernel_rfl) ?_ _
       refine then_n ⟨_, Off.eq (ou8 rfl <| ou1 rfl <| off_refl), ?_⟩
       refine ⟨_, _, hle0, hr, hl, ?_, rfl⟩
       unfold easyS; rw [if_pos hs6]; exact hns
      ·
       refine WXop_x rfl rfl (x_buildN (offs := [(0, 2)]) (zl := [.int .i64 0, .bool false]) sl_24 zr_66 rfl (.cons (lk1 rfl <| lk0) rfl .nil) (by intro i p h; rcases i with _ | i <;> simp at h <;> subst h <;> rfl) (.cons rfl rfl (Nat.le_of_ble_eq_true rfl) (.cons (.here) (.cons (.next <| .here) .nil)) .nil) (by decide) (by decide) fun b177 hb177 nb177 => ⟨fun _ _ => (fun _ h => h.drop (.cons _ <| .cons _ <| .cons_cons _ <| .cons_cons _ <| .cons_cons _ <| .cons_cons _ <| .refl _)), ?_⟩)
       refine WX_x 3 rfl (by kernel_rfl) rfl (x_append sl_24 el_66 (lk1 rfl <| lk0) (own_box rfl) (lk4 rfl <| lk0) (hr.seats.src (fun _ => rfl) (fun _ => Seat.enc_one)) (by omega) (by omega) (.s <| .z) .box fun v178 R179 ho180 => ⟨fun _ _ => (fun _ h => h.drop (.cons _ <| List.sublist_append_of_sublist_right <| .cons_cons _ <| .cons_cons _ <| .cons_cons _ <| .cons_cons _ <| .refl _)), ?_⟩)
       have hoC : Own 66 2 v178 r.seats.length (r.seats.flatMap Seat.enc) R179 := by simpa using ho180
       refine WX_x 7 rfl (by kernel_rfl) rfl (x_append sl_24 el_66 (lk0) hoC (lk1 rfl <| lk0) (src_box (s := 2) 0 rfl rfl (by simp [Value.oneCell'])) (by omega) (by omega) (.s <| .z) .more fun v181 R182 ho183 => ⟨fun _ _ => (fun _ h => h.drop (.cons _ <| List.sublist_append_of_sublist_right <| .cons_cons _ <| .cons_cons _ <| .cons_cons _ <| .cons_cons _ <| .refl _)), ?_⟩)
       have hoS := ho183.snoc (x := (⟨sl, ss⟩ : Seat)) rfl rfl
       refine WX_take 8 rfl (by kernel_rfl) (by kernel_rfl) (by kernel_rfl) (by kernel_rfl) rfl rfl (fun _ h => h.drop (.cons _ <| List.sublist_append_of_sublist_right <| .cons_cons _ <| .cons_cons _ <| .cons_cons _ <| .cons_cons _ <| .refl _)) (fun _ _ _ h => h) (q_fieldAddrB fd_27_2 (lk8 rfl <| lk4 rfl <| lk_off rfl <| lk0)) ?_
       refine WX_orderB (.one (.next <| .skip <| .here) <| .one (.next <| .skip <| .here) <| .one (.next <| .skip <| .here) <| .one (.next <| .skip <| .here) <| .blk (.next <| .skip <| .here) <| .blk (.next <| .skip <| .here) <| .blk (.next <| .lastS) <| .lastb (.next <| .last)) ?_
       refine WX_freezeR (σ := ⟨_, _⟩) (by rfl) hoS (.s <| .s <| .s <| .s <| .k <| .k <| .k <| .z) .last fun F184 hF185 hz186 => ?_
       replace hr := hr.mono hF185
       replace hle0 := Heap.le_trans hle0 hF185
       replace hl := hl.mono hF185
       refine WX_orderB (.one (.here) <| .one (.here) <| .one (.here) <| .one (.here) <| .blk (.here) <| .blk (.here) <| .lastb (.here)) ?_
       have hns := hoS.sl (fun _ => rfl) hz186 (by simp only [List.length_append, List.length_singleton]; omega)
       refine WX_x0 9 rfl (by kernel_rfl) (x_store1 sz_24 (lk0) (lk1 rfl <| lk0) (i := 0) rfl (.next <| .next <| .here) hns.plain.one (.here) ⟨(fun h => nomatch h), ?_⟩)
       refine WX_done (by kernel_rfl) ?_ _
       refine then_n ⟨_, Off.eq (ou8 rfl <| ou1 rfl <| off_refl), ?_⟩
       refine ⟨_, _, hle0, hr, hl, ?_, rfl⟩
       unfold easyS; rw [if_pos hs6]; exact hns
     ·
      refine WXop_x rfl rfl (x_buildN (offs := [(0, 2)]) (zl := [.int .i64 0, .bool false]) sl_24 zr_66 rfl (.cons (lk0) rfl .nil) (by intro i p h; rcases i with _ | i <;> simp at h <;> subst h <;> rfl) (.cons rfl rfl (Nat.le_of_ble_eq_true rfl) (.cons (.here) (.cons (.next <| .here) .nil)) .nil) (by decide) (by decide) fun b187 hb187 nb187 => ⟨fun _ _ => (fun _ h => h.drop (.cons _ <| .cons_cons _ <| .cons_cons _ <| .cons_cons _ <| .cons_cons _ <| .refl _)), ?_⟩)
      refine WX_x 0 rfl (by kernel_rfl) rfl (x_build0 sl_24 fun b188 hb188 nb188 => ⟨fun _ _ => (fun _ h => h.drop (.cons _ <| .cons _ <| .cons_cons _ <| .cons_cons _ <| .cons_cons _ <| .cons_cons _ <| .refl _)), ?_⟩)
      refine WX_x 3 rfl (by kernel_rfl) rfl (x_append sl_24 el_66 (lk0) (own_box rfl) (lk4 rfl <| lk0) (hr.seats.src (fun _ => rfl) (fun _ => Seat.enc_one)) (by omega) (by omega) (.z) .box fun v189 R190 ho191 => ⟨fun _ _ => (fun _ h => h.drop (List.sublist_append_of_sublist_right <| .cons _ <| .cons_cons _ <| .cons_cons _ <| .cons_cons _ <| .cons_cons _ <| .refl _)), ?_⟩)
      have hoC : Own 66 2 v189 r.seats.length (r.seats.flatMap Seat.enc) R190 := by simpa using ho191
      refine WX_x 7 rfl (by kernel_rfl) rfl (x_append sl_24 el_66 (lk0) hoC (lk2 rfl <| lk0) (src_boxM (s := 2) (List.mem_append_right _ <| .head _) rfl (by simp [Value.oneCell'])) (by omega) (by omega) (.z) .more fun v192 R193 ho194 => ⟨fun _ _ => (fun _ h => h.drop (List.sublist_append_of_sublist_right <| .cons _ <| .cons_cons _ <| .cons_cons _ <| .cons_cons _ <| .cons_cons _ <| .refl _)), ?_⟩)
      have hoS := ho194.snoc (x := (⟨sl, ss⟩ : Seat)) rfl rfl
      refine WX_take 8 rfl (by kernel_rfl) (by kernel_rfl) (by kernel_rfl) (by kernel_rfl) rfl rfl (fun _ h => h.drop (List.sublist_append_of_sublist_right <| .cons _ <| .cons_cons _ <| .cons_cons _ <| .cons_cons _ <| .cons_cons _ <| .refl _)) (fun _ _ _ h => h) (q_fieldAddrB fd_27_2 (lk8 rfl <| lk4 rfl <| lk_off rfl <| lk0)) ?_
      refine WX_orderB (.one (.skip <| .next <| .here) <| .one (.skip <| .next <| .here) <| .one (.skip <| .next <| .here) <| .one (.skip <| .next <| .here) <| .blk (.skip <| .next <| .here) <| .blk (.skip <| .next <| .here) <| .blk (.skip <| .next <| .last) <| .lastb (.here)) ?_
      refine WX_freezeR (σ := ⟨_, _⟩) (by rfl) hoS (.s <| .s <| .s <| .s <| .k <| .k <| .k <| .z) .last fun F195 hF196 hz197 => ?_
      replace hr := hr.mono hF196
      replace hle0 := Heap.le_trans hle0 hF196
      replace hl := hl.mono hF196
      refine WX_orderB (.one (.here) <| .one (.here) <| .one (.here) <| .one (.here) <| .blk (.here) <| .blk (.here) <| .lastb (.here)) ?_
      have hns := hoS.sl (fun _ => rfl) hz197 (by simp only [List.length_append, List.length_singleton]; omega)
      refine WX_x0 9 rfl (by kernel_rfl) (x_store1 sz_24 (lk0) (lk1 rfl <| lk0) (i := 0) rfl (.next <| .next <| .here) hns.plain.one (.here) ⟨(fun h => nomatch h), ?_⟩)
      refine WX_done (by kernel_rfl) ?_ _
      refine then_n ⟨_, Off.eq (ou8 rfl <| ou1 rfl <| off_refl), ?_⟩
      refine ⟨_, _, hle0, hr, hl, ?_, rfl⟩
      unfold easyS; rw [if_pos hs6]; exact hns
    ·
     refine WC_if_false (lk0) (decide_eq_false (by omega)) ?_
     refine WC_skip ?_
     refine then_n ⟨_, Off.eq (off_refl), ?_⟩
     refine ⟨_, _, hle0, hr, hl, ?_, rfl⟩
     unfold easyS; rw [if_neg hs6]; exact hr.seats
   rintro e11 _ ⟨G, x2, hle0, hr, hl, hns, rfl⟩
   refine WC_seq ?_
   refine WC_seq ?_
   refine WC_reg fun ds => ?_
   refine WL_q rfl (q_fieldAddrB fd_27_1 (lk_off rfl <| lk4 rfl <| lk_off rfl <| lk2 rfl <| lk_off rfl <| lk_off rfl <| lk16 rfl <| lk2 rfl <| lk1 rfl <| lk0)) ?_
   refine WL_q rfl (q_load1 one_23 (lk0) (Cell.own 3 rfl rfl)) ?_
   refine WL_q rfl (q_lenP sl_23 (lk0) hr.readers.plain) ?_
   refine WL_q rfl (q_gtr (lk0) lk_const) ?_
   refine WL_nil ?_
   refine then_n ?_
   refine WC_cut [13, 96, 97, 98, 99, 100, 101, 102, 103, 104, 105, 106, 107, 108, 109, 110, 111, 112, 113, 114, 115, 116, 117, 118, 119, 120] (fun st σ => ∃ (S : List (Nat × Obj)), Own 64 2 x1 (easyR r u0 y0).length ((easyR r u0 y0).flatMap Rdr.enc) S ∧ σ = ⟨G, (b16, bx 27 [x0, x1, x2, x3]) :: (b3, bx 82 [.int .i64 sl, .bool ss, .int .u8 (u0 : Int), .int .u8 (u1 : Int), .int .u8 (u2 : Int), .int .u8 (y0 : Int), .int .u8 (y1 : Int), .int .u8 (y2 : Int)]) :: (b2, bx 77 [.int .u8 (ba : Int), .int .u8 (bb : Int)]) :: (b1, bx 27 [vb, vr, vs, vq]) :: (R0 ++ (S ++ R3))⟩) ?_ ?_
   ·
    by_cases hn0 : 0 < r.readers.length
    ·
     have hJ : (u0 % r.readers.length) < r.readers.length := Nat.mod_lt _ hn0
     have hRd := hv.rd _ hJ
     rw [← rd_at hJ] at hRd
     refine WC_if_true (lk0) (decide_eq_true (by omega)) ?_
     refine WC_seq ?_
     refine WC_draw (.inl rfl) (fun _ _ h => h) (by kernel_rfl) (by kernel_rfl) fun ds => ?_
     refine WQ_q rfl (q_fieldAddrB fd_27_1 (lk4 rfl <| lk_off rfl <| lk4 rfl <| lk_off rfl <| lk0)) ?_
     refine WQ_q rfl (q_load1 one_23 (lk0) (Cell.own 0 rfl rfl)) ?_
     refine WQ_q rfl (q_fieldAddrB fd_82_1 (lk4 rfl <| lk2 rfl <| lk_off rfl <| lk4 rfl <| lk_off rfl <| lk2 rfl <| lk_off rfl <| lk_off rfl <| lk16 rfl <| lk1 rfl <| lk0)) ?_
     refine WQ_q rfl (q_indexArrB (k := 0) ar_80 (lk0) lk_const rfl (by decide)) ?_
     refine WQ_q rfl (q_load1 one_5 (lk0) (Cell.own 1 rfl rfl)) ?_
     refine WQ_q rfl (q_convert ⟨_, Try.underlying5⟩ Try.underlying3 (lk0) (IntWalk.i64_in _ ⟨by omega, by omega⟩)) ?_
     refine WQ_q rfl (q_fieldAddrB fd_27_1 (lk8 rfl <| lk2 rfl <| lk_off rfl <| lk4 rfl <| lk_off rfl <| lk2 rfl <| lk_off rfl <| lk_off rfl <| lk16 rfl <| lk2 rfl <| lk1 rfl <| lk0)) ?_
     refine WQ_q rfl (q_load1 one_23 (lk0) (Cell.own 3 rfl rfl)) ?_
     refine WQ_q rfl (q_lenP sl_23 (lk0) hr.readers.plain) ?_
     refine WQ_q rfl (q_remN (lk2 rfl <| lk1 rfl <| lk0) (lk0) hn0) ?_
     refine WQ_q rfl (q_index (k := (u0 % r.readers.length)) sl_23 (lk8 rfl <| lk0) (hoR.plain (by omega)) (lk0) rfl hJ) ?_
     refine WQ_q rfl (q_assign (lk0)) ?_
     refine WQ_nil ?_
     refine then_n ?_
     have hleS := hle0
     refine WC_drawS (.inl rfl) (fun _ _ h => h) (.cons_cons _ <| .cons_cons _ <| .cons_cons _ <| .cons_cons _ <| .refl _) [14] (by kernel_rfl) fun ds => ?_
     refine WX_take 0 rfl (by kernel_rfl) (by kernel_rfl) (by kernel_rfl) (by kernel_rfl) rfl rfl (fun _ h => h.drop (.cons_cons _ <| .cons_cons _ <| .cons_cons _ <| .cons_cons _ <| .refl _)) (fun _ _ _ h => h) (q_move (lk0)) ?_
     refine WX_take 1 rfl (by kernel_rfl) (by kernel_rfl) (by kernel_rfl) (by kernel_rfl) rfl rfl (fun _ h => h.drop (.cons_cons _ <| .cons_cons _ <| .cons_cons _ <| .cons_cons _ <| .refl _)) (fun _ _ _ h => h) (q_move (lk1 rfl <| lk0)) ?_
     refine WX_take 2 rfl (by kernel_rfl) (by kernel_rfl) (by kernel_rfl) (by kernel_rfl) rfl rfl (fun _ h => h.drop (.cons_cons _ <| .cons_cons _ <| .cons_cons _ <| .cons_cons _ <| .refl _)) (fun _ _ _ h => h) (q_nilCheck (lk0)) ?_
     refine WX_take 3 rfl (by kernel_rfl) (by kernel_rfl) (by kernel_rfl) (by kernel_rfl) rfl rfl (fun _ h => h.drop (.cons_cons _ <| .cons_cons _ <| .cons_cons _ <| .cons_cons _ <| .refl _)) (fun _ _ _ h => h) (q_fieldAddr fd_64_1 (lk0)) ?_
     refine WX_take 4 rfl (by kernel_rfl) (by kernel_rfl) (by kernel_rfl) (by kernel_rfl) rfl rfl (fun _ h => h.drop (.cons_cons _ <| .cons_cons _ <| .cons_cons _ <| .cons_cons _ <| .refl _)) (fun _ _ _ h => h) (q_load1 one_3 (lk0) (own_cell hoR (fun p hp => .tail _ (.tail _ (.tail _ (.tail _ (List.mem_append_right _ (List.mem_append_left _ hp)))))) (flat_at (enc := Rdr.enc) (s := 2) (fun _ => rfl) r.readers _ hJ (j := 1) rfl))) ?_
     refine WX_take 5 rfl (by kernel_rfl) (by kernel_rfl) (by kernel_rfl) (by kernel_rfl) rfl rfl (fun _ h => h.drop (.cons_cons _ <| .cons_cons _ <| .cons_cons _ <| .cons_cons _ <| .refl _)) (fun _ _ _ h => h) (q_fieldAddrB fd_82_2 (lk16 rfl <| lk4 rfl <| lk1 rfl <| lk_off rfl <| lk4 rfl <| lk_off rfl <| lk2 rfl <| lk_off rfl <| lk_off rfl <| lk16 rfl <| lk1 rfl <| lk0)) ?_
     refine WX_take 6 rfl (by kernel_rfl) (by kernel_rfl) (by kernel_rfl) (by kernel_rfl) rfl rfl (fun _ h => h.drop (.cons_cons _ <| .cons_cons _ <| .cons_cons _ <| .cons_cons _ <| .refl _)) (fun _ _ _ h => h) (q_indexArrB (k := 0) ar_80 (lk0) lk_const rfl (by decide)) ?_
     refine WX_take 7 rfl (by kernel_rfl) (by kernel_rfl) (by kernel_rfl) (by kernel_rfl) rfl rfl (fun _ h => h.drop (.cons_cons _ <| .cons_cons _ <| .cons_cons _ <| .cons_cons _ <| .refl _)) (fun _ _ _ h => h) (q_load1 one_5 (lk0) (Cell.own 1 rfl rfl)) ?_
     refine WX_take 8 rfl (by kernel_rfl) (by kernel_rfl) (by kernel_rfl) (by kernel_rfl) rfl rfl (fun _ h => h.drop (.cons_cons _ <| .cons_cons _ <| .cons_cons _ <| .cons_cons _ <| .refl _)) (fun _ _ _ h => h) (q_convert ⟨_, Try.underlying5⟩ Try.underlying3 (lk0) (IntWalk.i64_in _ ⟨by omega, by omega⟩)) ?_
     refine WX_take 9 rfl (by kernel_rfl) (by kernel_rfl) (by kernel_rfl) (by kernel_rfl) rfl rfl (fun _ h => h.drop (.cons_cons _ <| .cons_cons _ <| .cons_cons _ <| .cons_cons _ <| .refl _)) (fun _ _ _ h => h) (q_remN (b := 3) (lk0) lk_const (by decide)) ?_
     refine WX_take 10 rfl (by kernel_rfl) (by kernel_rfl) (by kernel_rfl) (by kernel_rfl) rfl rfl (fun _ h => h.drop (.cons_cons _ <| .cons_cons _ <| .cons_cons _ <| .cons_cons _ <| .refl _)) (fun _ _ _ h => h) (q_add (lk4 rfl <| lk1 rfl <| lk0) (lk0) rfl (by omega) (by omega)) ?_
     refine WX_take 11 rfl (by kernel_rfl) (by kernel_rfl) (by kernel_rfl) (by kernel_rfl) rfl rfl (fun _ h => h.drop (.cons_cons _ <| .cons_cons _ <| .cons_cons _ <| .cons_cons _ <| .refl _)) (fun _ _ _ h => h) (q_min2 lk_const (lk0)) ?_
     refine WX_take 12 rfl (by kernel_rfl) (by kernel_rfl) (by kernel_rfl) (by kernel_rfl) rfl rfl (fun _ h => h.drop (.cons_cons _ <| .cons_cons _ <| .cons_cons _ <| .cons_cons _ <| .refl _)) (fun _ _ _ h => h) (q_nilCheck (lk8 rfl <| lk2 rfl <| lk1 rfl <| lk0)) ?_
     refine WX_take 13 rfl (by kernel_rfl) (by kernel_rfl) (by kernel_rfl) (by kernel_rfl) rfl rfl (fun _ h => h.drop (.cons_cons _ <| .cons_cons _ <| .cons_cons _ <| .cons_cons _ <| .refl _)) (fun _ _ _ h => h) (q_fieldAddr fd_64_1 (lk0)) ?_
     refine WX_x0 14 rfl (by kernel_rfl) (x_storeR sz_3 (lk0) (lk2 rfl <| lk0) hoR (by rw [flat_len (enc := Rdr.enc) (s := 2) (fun _ => rfl)]; omega) rfl (.s <| .s <| .s <| .s <| .k <| .z) .more fun R8 hoR2 => ⟨(fun h => nomatch h), ?_⟩)
     refine WX_done (by kernel_rfl) ?_ _
     refine then_n ⟨_, Off.eq (ou16 rfl <| ou8 rfl <| ou2 rfl <| off_refl), ?_⟩
     rw [flat_setR hJ, rd_at hJ] at hoR2
     exact ⟨_, hoR2.to (by simp [easyR]), rfl⟩
    ·
     refine WC_if_false (lk0) (decide_eq_false (by omega)) ?_
     refine WC_skip ?_
     refine then_n ⟨_, Off.eq (off_refl), ?_⟩
     exact ⟨_, by rw [easyR_none hn0]; exact hoR, rfl⟩
   rintro eR _ ⟨R8, hoR2, rfl⟩
   refine WC_seq ?_
   refine WC_seq ?_
   refine WC_reg fun ds => ?_
   refine WL_q rfl (q_fieldAddrB fd_27_0 (lk_off rfl <| lk4 rfl <| lk_off rfl <| lk4 rfl <| lk_off rfl <| lk2 rfl <| lk_off rfl <| lk_off rfl <| lk16 rfl <| lk2 rfl <| lk1 rfl <| lk0)) ?_
   refine WL_q rfl (q_load1 one_22 (lk0) (Cell.own 3 rfl rfl)) ?_
   refine WL_q rfl (q_lenP sl_22 (lk0) hr.books.plain) ?_
   refine WL_q rfl (q_gtr (lk0) lk_const) ?_
   refine WL_nil ?_
   refine then_n ?_
   refine WC_cut [14, 125, 126, 127, 128, 129, 130, 131, 132, 133, 134, 135, 136, 137, 138, 139, 140, 141, 142, 143, 144, 145, 146, 147, 148, 149, 150, 151, 152, 153, 154, 155, 156, 157, 158, 159, 160, 161] (fun st σ => ∃ (S : List (Nat × Obj)), Own 62 5 x0 (easyB r u1 y1).length ((easyB r u1 y1).flatMap Book.enc) S ∧ σ = ⟨G, (b16, bx 27 [x0, x1, x2, x3]) :: (b3, bx 82 [.int .i64 sl, .bool ss, .int .u8 (u0 : Int), .int .u8 (u1 : Int), .int .u8 (u2 : Int), .int .u8 (y0 : Int), .int .u8 (y1 : Int), .int .u8 (y2 : Int)]) :: (b2, bx 77 [.int .u8 (ba : Int), .int .u8 (bb : Int)]) :: (b1, bx 27 [vb, vr, vs, vq]) :: (S ++ (R8 ++ R3))⟩) ?_ ?_
   ·
    by_cases hn1 : 0 < r.books.length
    ·
     have hJ : (u1 % r.books.length) < r.books.length := Nat.mod_lt _ hn1
     have hBk := hv.bo _ hJ
     rw [← bk_at hJ] at hBk
     refine WC_if_true (lk0) (decide_eq_true (by omega)) ?_
     refine WC_seq ?_
     refine WC_draw (.inl rfl) (fun _ _ h => h) (by kernel_rfl) (by kernel_rfl) fun ds => ?_
     refine WQ_q rfl (q_fieldAddrB fd_27_0 (lk4 rfl <| lk_off rfl <| lk4 rfl <| lk_off rfl <| lk4 rfl <| lk_off rfl <| lk0)) ?_
     refine WQ_q rfl (q_load1 one_22 (lk0) (Cell.own 0 rfl rfl)) ?_
     refine WQ_q rfl (q_fieldAddrB fd_82_1 (lk4 rfl <| lk2 rfl <| lk_off rfl <| lk4 rfl <| lk_off rfl <| lk4 rfl <| lk_off rfl <| lk2 rfl <| lk_off rfl <| lk_off rfl <| lk16 rfl <| lk1 rfl <| lk0)) ?_
     refine WQ_q rfl (q_indexArrB (k := 1) ar_80 (lk0) lk_const rfl (by decide)) ?_
     refine WQ_q rfl (q_load1 one_5 (lk0) (Cell.own 1 rfl rfl)) ?_
     refine WQ_q rfl (q_convert ⟨_, Try.underlying5⟩ Try.underlying3 (lk0) (IntWalk.i64_in _ ⟨by omega, by omega⟩)) ?_
     refine WQ_q rfl (q_fieldAddrB fd_27_0 (lk8 rfl <| lk2 rfl <| lk_off rfl <| lk4 rfl <| lk_off rfl <| lk4 rfl <| lk_off rfl <| lk2 rfl <| lk_off rfl <| lk_off rfl <| lk16 rfl <| lk2 rfl <| lk1 rfl <| lk0)) ?_
     refine WQ_q rfl (q_load1 one_22 (lk0) (Cell.own 3 rfl rfl)) ?_
     refine WQ_q rfl (q_lenP sl_22 (lk0) hr.books.plain) ?_
     refine WQ_q rfl (q_remN (lk2 rfl <| lk1 rfl <| lk0) (lk0) hn1) ?_
     refine WQ_q rfl (q_index (k := (u1 % r.books.length)) sl_22 (lk8 rfl <| lk0) (hoB.plain (by omega)) (lk0) rfl hJ) ?_
     refine WQ_q rfl (q_assign (lk0)) ?_
     refine WQ_nil ?_
     refine then_n ?_
     have hleS := hle0
     refine WC_drawS (.inl rfl) (fun _ _ h => h) (.cons_cons _ <| .cons_cons _ <| .cons_cons _ <| .cons_cons _ <| .refl _) [26] (by kernel_rfl) fun ds => ?_
     refine WX_take 0 rfl (by kernel_rfl) (by kernel_rfl) (by kernel_rfl) (by kernel_rfl) rfl rfl (fun _ h => h.drop (.cons_cons _ <| .cons_cons _ <| .cons_cons _ <| .cons_cons _ <| .refl _)) (fun _ _ _ h => h) (q_move (lk0)) ?_
     refine WX_take 1 rfl (by kernel_rfl) (by kernel_rfl) (by kernel_rfl) (by kernel_rfl) rfl rfl (fun _ h => h.drop (.cons_cons _ <| .cons_cons _ <| .cons_cons _ <| .cons_cons _ <| .refl _)) (fun _ _ _ h => h) (q_move (lk1 rfl <| lk0)) ?_
     refine WX_take 2 rfl (by kernel_rfl) (by kernel_rfl) (by kernel_rfl) (by kernel_rfl) rfl rfl (fun _ h => h.drop (.cons_cons _ <| .cons_cons _ <| .cons_cons _ <| .cons_cons _ <| .refl _)) (fun _ _ _ h => h) (q_nilCheck (lk0)) ?_
     refine WX_take 3 rfl (by kernel_rfl) (by kernel_rfl) (by kernel_rfl) (by kernel_rfl) rfl rfl (fun _ h => h.drop (.cons_cons _ <| .cons_cons _ <| .cons_cons _ <| .cons_cons _ <| .refl _)) (fun _ _ _ h => h) (q_fieldAddr fd_62_2 (lk0)) ?_
     refine WX_take 4 rfl (by kernel_rfl) (by kernel_rfl) (by kernel_rfl) (by kernel_rfl) rfl rfl (fun _ h => h.drop (.cons_cons _ <| .cons_cons _ <| .cons_cons _ <| .cons_cons _ <| .refl _)) (fun _ _ _ h => h) (q_fieldAddr fd_60_0 (lk0)) ?_
     refine WX_take 5 rfl (by kernel_rfl) (by kernel_rfl) (by kernel_rfl) (by kernel_rfl) rfl rfl (fun _ h => h.drop (.cons_cons _ <| .cons_cons _ <| .cons_cons _ <| .cons_cons _ <| .refl _)) (fun _ _ _ h => h) (q_load1 one_3 (lk0) (own_cell hoB (fun p hp => .tail _ (.tail _ (.tail _ (.tail _ (List.mem_append_left _ hp))))) (flat_at (enc := Book.enc) (s := 5) (fun _ => rfl) r.books _ hJ (j := 2) rfl))) ?_
     refine WX_take 6 rfl (by kernel_rfl) (by kernel_rfl) (by kernel_rfl) (by kernel_rfl) rfl rfl (fun _ h => h.drop (.cons_cons _ <| .cons_cons _ <| .cons_cons _ <| .cons_cons _ <| .refl _)) (fun _ _ _ h => h) (q_fieldAddrB fd_82_2 (lk16 rfl <| lk4 rfl <| lk2 rfl <| lk_off rfl <| lk4 rfl <| lk_off rfl <| lk4 rfl <| lk_off rfl <| lk2 rfl <| lk_off rfl <| lk_off rfl <| lk16 rfl <| lk1 rfl <| lk0)) ?_
     refine WX_take 7 rfl (by kernel_rfl) (by kernel_rfl) (by kernel_rfl) (by kernel_rfl) rfl rfl (fun _ h => h.drop (.cons_cons _ <| .cons_cons _ <| .cons_cons _ <| .cons_cons _ <| .refl _)) (fun _ _ _ h => h) (q_indexArrB (k := 1) ar_80 (lk0) lk_const rfl (by decide)) ?_
     refine WX_take 8 rfl (by kernel_rfl) (by kernel_rfl) (by kernel_rfl) (by kernel_rfl) rfl rfl (fun _ h => h.drop (.cons_cons _ <| .cons_cons _ <| .cons_cons _ <| .cons_cons _ <| .refl _)) (fun _ _ _ h => h) (q_load1 one_5 (lk0) (Cell.own 1 rfl rfl)) ?_
     refine WX_take 9 rfl (by kernel_rfl) (by kernel_rfl) (by kernel_rfl) (by kernel_rfl) rfl rfl (fun _ h => h.drop (.cons_cons _ <| .cons_cons _ <| .cons_cons _ <| .cons_cons _ <| .refl _)) (fun _ _ _ h => h) (q_convert ⟨_, Try.underlying5⟩ Try.underlying3 (lk0) (IntWalk.i64_in _ ⟨by omega, by omega⟩)) ?_
     refine WX_take 10 rfl (by kernel_rfl) (by kernel_rfl) (by kernel_rfl) (by kernel_rfl) rfl rfl (fun _ h => h.drop (.cons_cons _ <| .cons_cons _ <| .cons_cons _ <| .cons_cons _ <| .refl _)) (fun _ _ _ h => h) (q_add (lk4 rfl <| lk0) (lk0) rfl (by omega) (by omega)) ?_
     refine WX_take 11 rfl (by kernel_rfl) (by kernel_rfl) (by kernel_rfl) (by kernel_rfl) rfl rfl (fun _ h => h.drop (.cons_cons _ <| .cons_cons _ <| .cons_cons _ <| .cons_cons _ <| .refl _)) (fun _ _ _ h => h) (q_min2 lk_const (lk0)) ?_
     refine WX_take 12 rfl (by kernel_rfl) (by kernel_rfl) (by kernel_rfl) (by kernel_rfl) rfl rfl (fun _ h => h.drop (.cons_cons _ <| .cons_cons _ <| .cons_cons _ <| .cons_cons _ <| .refl _)) (fun _ _ _ h => h) (q_move (lk8 rfl <| lk4 rfl <| lk0)) ?_
     refine WX_take 13 rfl (by kernel_rfl) (by kernel_rfl) (by kernel_rfl) (by kernel_rfl) rfl rfl (fun _ h => h.drop (.cons_cons _ <| .cons_cons _ <| .cons_cons _ <| .cons_cons _ <| .refl _)) (fun _ _ _ h => h) (q_nilCheck (lk0)) ?_
     refine WX_take 14 rfl (by kernel_rfl) (by kernel_rfl) (by kernel_rfl) (by kernel_rfl) rfl rfl (fun _ h => h.drop (.cons_cons _ <| .cons_cons _ <| .cons_cons _ <| .cons_cons _ <| .refl _)) (fun _ _ _ h => h) (q_fieldAddr fd_62_2 (lk0)) ?_
     refine WX_take 15 rfl (by kernel_rfl) (by kernel_rfl) (by kernel_rfl) (by kernel_rfl) rfl rfl (fun _ h => h.drop (.cons_cons _ <| .cons_cons _ <| .cons_cons _ <| .cons_cons _ <| .refl _)) (fun _ _ _ h => h) (q_fieldAddr fd_60_1 (lk0)) ?_
     refine WX_take 16 rfl (by kernel_rfl) (by kernel_rfl) (by kernel_rfl) (by kernel_rfl) rfl rfl (fun _ h => h.drop (.cons_cons _ <| .cons_cons _ <| .cons_cons _ <| .cons_cons _ <| .refl _)) (fun _ _ _ h => h) (q_load1 one_3 (lk0) (own_cell hoB (fun p hp => .tail _ (.tail _ (.tail _ (.tail _ (List.mem_append_left _ hp))))) (flat_at (enc := Book.enc) (s := 5) (fun _ => rfl) r.books _ hJ (j := 3) rfl))) ?_
     refine WX_take 17 rfl (by kernel_rfl) (by kernel_rfl) (by kernel_rfl) (by kernel_rfl) rfl rfl (fun _ h => h.drop (.cons_cons _ <| .cons_cons _ <| .cons_cons _ <| .cons_cons _ <| .refl _)) (fun _ _ _ h => h) (q_fieldAddrB fd_82_2 (lk32 rfl <| lk1 rfl <| lk_off rfl <| lk4 rfl <| lk_off rfl <| lk4 rfl <| lk_off rfl <| lk2 rfl <| lk_off rfl <| lk_off rfl <| lk16 rfl <| lk1 rfl <| lk0)) ?_
     refine WX_take 18 rfl (by kernel_rfl) (by kernel_rfl) (by kernel_rfl) (by kernel_rfl) rfl rfl (fun _ h => h.drop (.cons_cons _ <| .cons_cons _ <| .cons_cons _ <| .cons_cons _ <| .refl _)) (fun _ _ _ h => h) (q_indexArrB (k := 1) ar_80 (lk0) lk_const rfl (by decide)) ?_
     refine WX_take 19 rfl (by kernel_rfl) (by kernel_rfl) (by kernel_rfl) (by kernel_rfl) rfl rfl (fun _ h => h.drop (.cons_cons _ <| .cons_cons _ <| .cons_cons _ <| .cons_cons _ <| .refl _)) (fun _ _ _ h => h) (q_load1 one_5 (lk0) (Cell.own 1 rfl rfl)) ?_
     refine WX_take 20 rfl (by kernel_rfl) (by kernel_rfl) (by kernel_rfl) (by kernel_rfl) rfl rfl (fun _ h => h.drop (.cons_cons _ <| .cons_cons _ <| .cons_cons _ <| .cons_cons _ <| .refl _)) (fun _ _ _ h => h) (q_convert ⟨_, Try.underlying5⟩ Try.underlying3 (lk0) (IntWalk.i64_in _ ⟨by omega, by omega⟩)) ?_
     refine WX_take 21 rfl (by kernel_rfl) (by kernel_rfl) (by kernel_rfl) (by kernel_rfl) rfl rfl (fun _ h => h.drop (.cons_cons _ <| .cons_cons _ <| .cons_cons _ <| .cons_cons _ <| .refl _)) (fun _ _ _ h => h) (q_add (lk4 rfl <| lk0) (lk0) rfl (by omega) (by omega)) ?_
     refine WX_take 22 rfl (by kernel_rfl) (by kernel_rfl) (by kernel_rfl) (by kernel_rfl) rfl rfl (fun _ h => h.drop (.cons_cons _ <| .cons_cons _ <| .cons_cons _ <| .cons_cons _ <| .refl _)) (fun _ _ _ h => h) (q_min2 lk_const (lk0)) ?_
     refine WX_x 23 rfl (by kernel_rfl) rfl (x_quiet (q_call bd_46 lk_func (.cons (lk8 rfl <| lk2 rfl <| lk1 rfl <| lk0) (.cons (lk0) .nil)) (span_ok _ _) (fun _ _ h => h)) ⟨fun _ _ => (fun _ h => h.drop (.cons_cons _ <| .cons_cons _ <| .cons_cons _ <| .cons_cons _ <| .refl _)), ?_⟩)
     refine WX_take 24 rfl (by kernel_rfl) (by kernel_rfl) (by kernel_rfl) (by kernel_rfl) rfl rfl (fun _ h => h.drop (.cons_cons _ <| .cons_cons _ <| .cons_cons _ <| .cons_cons _ <| .refl _)) (fun _ _ _ h => h) (q_nilCheck (lk16 rfl <| lk4 rfl <| lk2 rfl <| lk1 rfl <| lk0)) ?_
     refine WX_take 25 rfl (by kernel_rfl) (by kernel_rfl) (by kernel_rfl) (by kernel_rfl) rfl rfl (fun _ h => h.drop (.cons_cons _ <| .cons_cons _ <| .cons_cons _ <| .cons_cons _ <| .refl _)) (fun _ _ _ h => h) (q_fieldAddr fd_62_2 (lk0)) ?_
     refine WX_x0 26 rfl (by kernel_rfl) (x_storeR2 sz_60 (lk0) (lk2 rfl <| lk0) rfl hoB (by rw [flat_len (enc := Book.enc) (s := 5) (fun _ => rfl)]; omega) (by simp [Value.oneCell']) (.s <| .s <| .s <| .s <| .z) .more fun R7 hoB2 => ⟨(fun h => nomatch h), ?_⟩)
     refine WX_done (by kernel_rfl) ?_ _
     refine then_n ⟨_, Off.eq (ou32 rfl <| ou4 rfl <| ou2 rfl <| off_refl), ?_⟩
     rw [flat_setL hJ, bk_at hJ] at hoB2
     exact ⟨_, hoB2.to (by simp [easyB]), rfl⟩
    ·
     refine WC_if_false (lk0) (decide_eq_false (by omega)) ?_
     refine WC_skip ?_
     refine then_n ⟨_, Off.eq (off_refl), ?_⟩
     exact ⟨_, by rw [easyB_none hn1]; exact hoB, rfl⟩
   rintro eB _ ⟨R7, hoB2, rfl⟩
   refine WC_seq ?_
   refine WC_seq ?_
   refine WC_reg fun ds => ?_
   refine WL_q rfl (q_fieldAddrB fd_27_3 (lk_off rfl <| lk4 rfl <| lk_off rfl <| lk4 rfl <| lk_off rfl <| lk4 rfl <| lk_off rfl <| lk2 rfl <| lk_off rfl <| lk_off rfl <| lk16 rfl <| lk2 rfl <| lk1 rfl <| lk0)) ?_
   refine WL_q rfl (q_load1 one_25 (lk0) (Cell.own 3 rfl rfl)) ?_
   refine WL_q rfl (q_lenP sl_25 (lk0) hr.reqs.plain) ?_
   refine WL_q rfl (q_gtr (lk0) lk_const) ?_
   refine WL_nil ?_
   refine then_n ?_
   refine WC_cut [15, 166, 167, 168, 169, 170, 171, 172, 173, 174, 175, 176, 177, 178, 179, 180, 181, 182, 183, 184, 185, 186, 187, 188, 189, 190] (fun st σ => ∃ (S : List (Nat × Obj)), Own 58 4 x3 (easyQ r u2 y2).length ((easyQ r u2 y2).flatMap Req.enc) S ∧ σ = ⟨G, (b16, bx 27 [x0, x1, x2, x3]) :: (b3, bx 82 [.int .i64 sl, .bool ss, .int .u8 (u0 : Int), .int .u8 (u1 : Int), .int .u8 (u2 : Int), .int .u8 (y0 : Int), .int .u8 (y1 : Int), .int .u8 (y2 : Int)]) :: (b2, bx 77 [.int .u8 (ba : Int), .int .u8 (bb : Int)]) :: (b1, bx 27 [vb, vr, vs, vq]) :: (R7 ++ (R8 ++ S))⟩) ?_ ?_
   ·
    by_cases hn2 : 0 < r.reqs.length
    ·
     have hJ : (u2 % r.reqs.length) < r.reqs.length := Nat.mod_lt _ hn2
     have hQq := hv.rq _ hJ
     rw [← req_at hJ] at hQq
     refine WC_if_true (lk0) (decide_eq_true (by omega)) ?_
     refine WC_seq ?_
     refine WC_draw (.inl rfl) (fun _ _ h => h) (by kernel_rfl) (by kernel_rfl) fun ds => ?_
     refine WQ_q rfl (q_fieldAddrB fd_27_3 (lk4 rfl <| lk_off rfl <| lk4 rfl <| lk_off rfl <| lk4 rfl <| lk_off rfl <| lk4 rfl <| lk_off rfl <| lk0)) ?_
     refine WQ_q rfl (q_load1 one_25 (lk0) (Cell.own 0 rfl rfl)) ?_
     refine WQ_q rfl (q_fieldAddrB fd_82_1 (lk4 rfl <| lk2 rfl <| lk_off rfl <| lk4 rfl <| lk_off rfl <| lk4 rfl <| lk_off rfl <| lk4 rfl <| lk_off rfl <| lk2 rfl <| lk_off rfl <| lk_off rfl <| lk16 rfl <| lk1 rfl <| lk0)) ?_
     refine WQ_q rfl (q_indexArrB (k := 2) ar_80 (lk0) lk_const rfl (by decide)) ?_
     refine WQ_q rfl (q_load1 one_5 (lk0) (Cell.own 1 rfl rfl)) ?_
     refine WQ_q rfl (q_convert ⟨_, Try.underlying5⟩ Try.underlying3 (lk0) (IntWalk.i64_in _ ⟨by omega, by omega⟩)) ?_
     refine WQ_q rfl (q_fieldAddrB fd_27_3 (lk8 rfl <| lk2 rfl <| lk_off rfl <| lk4 rfl <| lk_off rfl <| lk4 rfl <| lk_off rfl <| lk4 rfl <| lk_off rfl <| lk2 rfl <| lk_off rfl <| lk_off rfl <| lk16 rfl <| lk2 rfl <| lk1 rfl <| lk0)) ?_
     refine WQ_q rfl (q_load1 one_25 (lk0) (Cell.own 3 rfl rfl)) ?_
     refine WQ_q rfl (q_lenP sl_25 (lk0) hr.reqs.plain) ?_
     refine WQ_q rfl (q_remN (lk2 rfl <| lk1 rfl <| lk0) (lk0) hn2) ?_
     refine WQ_q rfl (q_index (k := (u2 % r.reqs.length)) sl_25 (lk8 rfl <| lk0) (hoQ.plain (by omega)) (lk0) rfl hJ) ?_
     refine WQ_q rfl (q_assign (lk0)) ?_
     refine WQ_nil ?_
     refine then_n ?_
     have hleS := hle0
     refine WC_drawS (.inl rfl) (fun _ _ h => h) (.cons_cons _ <| .cons_cons _ <| .cons_cons _ <| .cons_cons _ <| .refl _) [14] (by kernel_rfl) fun ds => ?_
     refine WX_take 0 rfl (by kernel_rfl) (by kernel_rfl) (by kernel_rfl) (by kernel_rfl) rfl rfl (fun _ h => h.drop (.cons_cons _ <| .cons_cons _ <| .cons_cons _ <| .cons_cons _ <| .refl _)) (fun _ _ _ h => h) (q_move (lk0)) ?_
     refine WX_take 1 rfl (by kernel_rfl) (by kernel_rfl) (by kernel_rfl) (by kernel_rfl) rfl rfl (fun _ h => h.drop (.cons_cons _ <| .cons_cons _ <| .cons_cons _ <| .cons_cons _ <| .refl _)) (fun _ _ _ h => h) (q_move (lk1 rfl <| lk0)) ?_
     refine WX_take 2 rfl (by kernel_rfl) (by kernel_rfl) (by kernel_rfl) (by kernel_rfl) rfl rfl (fun _ h => h.drop (.cons_cons _ <| .cons_cons _ <| .cons_cons _ <| .cons_cons _ <| .refl _)) (fun _ _ _ h => h) (q_nilCheck (lk0)) ?_
     refine WX_take 3 rfl (by kernel_rfl) (by kernel_rfl) (by kernel_rfl) (by kernel_rfl) rfl rfl (fun _ h => h.drop (.cons_cons _ <| .cons_cons _ <| .cons_cons _ <| .cons_cons _ <| .refl _)) (fun _ _ _ h => h) (q_fieldAddr fd_58_2 (lk0)) ?_
     refine WX_take 4 rfl (by kernel_rfl) (by kernel_rfl) (by kernel_rfl) (by kernel_rfl) rfl rfl (fun _ h => h.drop (.cons_cons _ <| .cons_cons _ <| .cons_cons _ <| .cons_cons _ <| .refl _)) (fun _ _ _ h => h) (q_load1 one_3 (lk0) (own_cell hoQ (fun p hp => .tail _ (.tail _ (.tail _ (.tail _ (List.mem_append_right _ (List.mem_append_right _ hp)))))) (flat_at (enc := Req.enc) (s := 4) (fun _ => rfl) r.reqs _ hJ (j := 2) rfl))) ?_
     refine WX_take 5 rfl (by kernel_rfl) (by kernel_rfl) (by kernel_rfl) (by kernel_rfl) rfl rfl (fun _ h => h.drop (.cons_cons _ <| .cons_cons _ <| .cons_cons _ <| .cons_cons _ <| .refl _)) (fun _ _ _ h => h) (q_fieldAddrB fd_82_2 (lk16 rfl <| lk4 rfl <| lk1 rfl <| lk_off rfl <| lk4 rfl <| lk_off rfl <| lk4 rfl <| lk_off rfl <| lk4 rfl <| lk_off rfl <| lk2 rfl <| lk_off rfl <| lk_off rfl <| lk16 rfl <| lk1 rfl <| lk0)) ?_
     refine WX_take 6 rfl (by kernel_rfl) (by kernel_rfl) (by kernel_rfl) (by kernel_rfl) rfl rfl (fun _ h => h.drop (.cons_cons _ <| .cons_cons _ <| .cons_cons _ <| .cons_cons _ <| .refl _)) (fun _ _ _ h => h) (q_indexArrB (k := 2) ar_80 (lk0) lk_const rfl (by decide)) ?_
     refine WX_take 7 rfl (by kernel_rfl) (by kernel_rfl) (by kernel_rfl) (by kernel_rfl) rfl rfl (fun _ h => h.drop (.cons_cons _ <| .cons_cons _ <| .cons_cons _ <| .cons_cons _ <| .refl _)) (fun _ _ _ h => h) (q_load1 one_5 (lk0) (Cell.own 1 rfl rfl)) ?_
     refine WX_take 8 rfl (by kernel_rfl) (by kernel_rfl) (by kernel_rfl) (by kernel_rfl) rfl rfl (fun _ h => h.drop (.cons_cons _ <| .cons_cons _ <| .cons_cons _ <| .cons_cons _ <| .refl _)) (fun _ _ _ h => h) (q_convert ⟨_, Try.underlying5⟩ Try.underlying3 (lk0) (IntWalk.i64_in _ ⟨by omega, by omega⟩)) ?_
     refine WX_take 9 rfl (by kernel_rfl) (by kernel_rfl) (by kernel_rfl) (by kernel_rfl) rfl rfl (fun _ h => h.drop (.cons_cons _ <| .cons_cons _ <| .cons_cons _ <| .cons_cons _ <| .refl _)) (fun _ _ _ h => h) (q_remN (b := 4) (lk0) lk_const (by decide)) ?_
     refine WX_take 10 rfl (by kernel_rfl) (by kernel_rfl) (by kernel_rfl) (by kernel_rfl) rfl rfl (fun _ h => h.drop (.cons_cons _ <| .cons_cons _ <| .cons_cons _ <| .cons_cons _ <| .refl _)) (fun _ _ _ h => h) (q_sub (lk4 rfl <| lk1 rfl <| lk0) (lk0) rfl (by omega) (by omega)) ?_
     refine WX_take 11 rfl (by kernel_rfl) (by kernel_rfl) (by kernel_rfl) (by kernel_rfl) rfl rfl (fun _ h => h.drop (.cons_cons _ <| .cons_cons _ <| .cons_cons _ <| .cons_cons _ <| .refl _)) (fun _ _ _ h => h) (q_max2 lk_const (lk0)) ?_
     refine WX_take 12 rfl (by kernel_rfl) (by kernel_rfl) (by kernel_rfl) (by kernel_rfl) rfl rfl (fun _ h => h.drop (.cons_cons _ <| .cons_cons _ <| .cons_cons _ <| .cons_cons _ <| .refl _)) (fun _ _ _ h => h) (q_nilCheck (lk8 rfl <| lk2 rfl <| lk1 rfl <| lk0)) ?_
     refine WX_take 13 rfl (by kernel_rfl) (by kernel_rfl) (by kernel_rfl) (by kernel_rfl) rfl rfl (fun _ h => h.drop (.cons_cons _ <| .cons_cons _ <| .cons_cons _ <| .cons_cons _ <| .refl _)) (fun _ _ _ h => h) (q_fieldAddr fd_58_2 (lk0)) ?_
     refine WX_x0 14 rfl (by kernel_rfl) (x_storeR sz_3 (lk0) (lk2 rfl <| lk0) hoQ (by rw [flat_len (enc := Req.enc) (s := 4) (fun _ => rfl)]; omega) rfl (.s <| .s <| .s <| .s <| .k <| .k <| .z) .last fun R9 hoQ2 => ⟨(fun h => nomatch h), ?_⟩)
     refine WX_done (by kernel_rfl) ?_ _
     refine then_n ⟨_, Off.eq (ou16 rfl <| ou8 rfl <| ou2 rfl <| off_refl), ?_⟩
     rw [flat_setQ hJ, req_at hJ] at hoQ2
     exact ⟨_, hoQ2.to (by simp [easyQ]), rfl⟩
    ·
     refine WC_if_false (lk0) (decide_eq_false (by omega)) ?_
     refine WC_skip ?_
     refine then_n ⟨_, Off.eq (off_refl), ?_⟩
     exact ⟨_, by rw [easyQ_none hn2]; exact hoQ, rfl⟩
   rintro eQ _ ⟨R9, hoQ2, rfl⟩
   refine WC_seq ?_
   refine WC_seq ?_
   have hEa := easy_easier (r := r) (x := ⟨sl, ss⟩) (w0 := u0) (w1 := u1) (w2 := u2) (b0 := y0) (b1 := y1) (b2 := y2) hv
   refine WC_freezeR (σ := ⟨_, _⟩) (by rfl) hoB2 (.s <| .s <| .s <| .s <| .z) .more fun F198 hF199 hz200 => ?_
   replace hr := hr.mono hF199
   replace hle0 := Heap.le_trans hle0 hF199
   replace hl := hl.mono hF199
   replace hns := hns.mono hF199
   refine WC_pickB (.one (.here) <| .one (.here) <| .one (.here) <| .one (.here) <| .blk (.skip <| .here) <| .lastb (.lastS)) ?_
   have hnb := hoB2.sl (fun _ => rfl) hz200 (by simp [easyB]; omega)
   refine WC_freezeR (σ := ⟨_, _⟩) (by rfl) hoR2 (.s <| .s <| .s <| .s <| .z) .more fun F201 hF202 hz203 => ?_
   replace hr := hr.mono hF202
   replace hle0 := Heap.le_trans hle0 hF202
   replace hl := hl.mono hF202
   replace hns := hns.mono hF202
   replace hnb := hnb.mono hF202
   refine WC_pickB (.one (.here) <| .one (.here) <| .one (.here) <| .one (.here) <| .lastb (.lastS)) ?_
   have hnr := hoR2.sl (fun _ => rfl) hz203 (by simp [easyR]; omega)
   refine WC_freezeR (σ := ⟨_, _⟩) (by rfl) hoQ2 (.s <| .s <| .s <| .s <| .z) .last fun F204 hF205 hz206 => ?_
   replace hr := hr.mono hF205
   replace hle0 := Heap.le_trans hle0 hF205
   replace hl := hl.mono hF205
   replace hns := hns.mono hF205
   replace hnb := hnb.mono hF205
   replace hnr := hnr.mono hF205
   have hnq := hoQ2.sl (fun _ => rfl) hz206 (by simp [easyQ]; omega)
   have hre : RoomR _ x0 x1 x2 x3 (easyRoom r ⟨sl, ss⟩ u0 u1 u2 y0 y1 y2) := ⟨hnb, hnr, hns, hnq⟩
   by_cases he : (check (easyRoom r ⟨sl, ss⟩ u0 u1 u2 y0 y1 y2)).2.2 = 0
   ·
    have hve := valid_of he
    have hEe := someErr_idx he (chosen_asc (r := r) (bits := ba)) (fun i hi => by rw [hEa.1]; exact chosen_lt i hi)
    refine WC_reg fun ds => ?_
    refine WL_q rfl (q_loadN agg_27 (lk_off rfl <| lk4 rfl <| lk_off rfl <| lk4 rfl <| lk_off rfl <| lk4 rfl <| lk_off rfl <| lk4 rfl <| lk_off rfl <| lk0) rfl rfl (own_whole 0 rfl)) ?_
    refine WL_c rfl (q_call bd_37 lk_func (.cons (lk0) .nil) (valid_ok hre) (fun _ _ h => h)) ?_
    refine WL_q rfl (q_not (lk0)) ?_
    refine WL_nil ?_
    refine then_n ?_
    refine WC_if_false (lk0) (by simp [he]) ?_
    refine WC_skip ?_
    refine then_n ?_
    refine WC_seq ?_
    refine WC_reg fun ds => ?_
    refine WL_q rfl (q_loadN agg_27 (lk2 rfl <| lk1 rfl <| lk_off rfl <| lk4 rfl <| lk_off rfl <| lk4 rfl <| lk_off rfl <| lk4 rfl <| lk_off rfl <| lk4 rfl <| lk_off rfl <| lk0) rfl rfl (own_whole 0 rfl)) ?_
    refine WL_q rfl (q_move (lk4 rfl <| lk_off rfl <| lk4 rfl <| lk_off rfl <| lk4 rfl <| lk_off rfl <| lk4 rfl <| lk_off rfl <| lk4 rfl <| lk_off rfl <| lk2 rfl <| lk_off rfl <| lk_off rfl <| lk8 rfl <| lk0)) ?_
    refine WL_c rfl (q_call bd_19 lk_func (.cons (lk1 rfl <| lk0) (.cons (lk0) .nil)) (can_top_ok hre (Nats.ints hl)) (fun _ _ h => h.trans (can_val1 (b := canB (easyRoom r ⟨sl, ss⟩ u0 u1 u2 y0 y1 y2) (chosenL r ba)) hEe rfl))) ?_
    refine WL_q rfl (q_move (lk0)) ?_
    refine WL_q rfl (q_extract (lk0) rfl) ?_
    refine WL_q rfl (q_extract (lk1 rfl <| lk0) rfl) ?_
    refine WL_q rfl (q_assign (lk1 rfl <| lk0)) ?_
    refine WL_q rfl (q_assign (lk1 rfl <| lk0)) ?_
    refine WL_nil ?_
    refine then_n ?_
    refine WC_seq ?_
    refine WC_reg fun ds => ?_
    refine WL_q rfl (q_loadN agg_27 (lk8 rfl <| lk2 rfl <| lk1 rfl <| lk_off rfl <| lk4 rfl <| lk_off rfl <| lk4 rfl <| lk_off rfl <| lk4 rfl <| lk_off rfl <| lk4 rfl <| lk_off rfl <| lk2 rfl <| lk_off rfl <| lk_off rfl <| lk16 rfl <| lk2 rfl <| lk1 rfl <| lk0) rfl rfl (own_whole 3 rfl)) ?_
    refine WL_x rfl (x_call bd_30 lk_func (.cons (lk0) .nil) (bestV_ok hr h0) fun v207 F208 hr209 hF210 => ?_)
    replace hr := hr.mono hF210
    replace hle0 := Heap.le_trans hle0 hF210
    replace hl := hl.mono hF210
    replace hns := hns.mono hF210
    replace hnb := hnb.mono hF210
    replace hnr := hnr.mono hF210
    replace hnq := hnq.mono hF210
    replace hre := hre.mono hF210
    obtain ⟨ws1, rfl, hq1⟩ := hr209
    refine WL_q rfl (q_move (lk0)) ?_
    refine WL_q rfl (q_extract (lk0) rfl) ?_
    refine WL_q rfl (q_extract (lk1 rfl <| lk0) rfl) ?_
    refine WL_q rfl (q_extract (lk2 rfl <| lk0) rfl) ?_
    refine WL_q rfl (q_assign (lk2 rfl <| lk0)) ?_
    refine WL_q rfl (q_assign (lk2 rfl <| lk0)) ?_
    refine WL_q rfl (q_assign (lk2 rfl <| lk0)) ?_
    refine WL_nil ?_
    refine then_n ?_
    refine WC_seq ?_
    refine WC_reg fun ds => ?_
    refine WL_q rfl (q_loadN agg_27 (lk16 rfl <| lk4 rfl <| lk_off rfl <| lk4 rfl <| lk_off rfl <| lk4 rfl <| lk_off rfl <| lk4 rfl <| lk_off rfl <| lk4 rfl <| lk_off rfl <| lk0) rfl rfl (own_whole 0 rfl)) ?_
    refine WL_x rfl (x_call bd_30 lk_func (.cons (lk0) .nil) (bestV_ok hre he) fun v211 F212 hr213 hF214 => ?_)
    replace hr := hr.mono hF214
    replace hle0 := Heap.le_trans hle0 hF214
    replace hl := hl.mono hF214
    replace hns := hns.mono hF214
    replace hnb := hnb.mono hF214
    replace hnr := hnr.mono hF214
    replace hnq := hnq.mono hF214
    replace hre := hre.mono hF214
    replace hq1 := hq1.mono hF214
    obtain ⟨ws2, rfl, hq2⟩ := hr213
    refine WL_q rfl (q_move (lk0)) ?_
    refine WL_q rfl (q_extract (lk0) rfl) ?_
    refine WL_q rfl (q_extract (lk1 rfl <| lk0) rfl) ?_
    refine WL_q rfl (q_extract (lk2 rfl <| lk0) rfl) ?_
    refine WL_q rfl (q_assign (lk2 rfl <| lk0)) ?_
    refine WL_q rfl (q_assign (lk2 rfl <| lk0)) ?_
    refine WL_q rfl (q_assign (lk2 rfl <| lk0)) ?_
    refine WL_nil ?_
    refine then_n ?_
    refine WC_seq ?_
    cases hc : canB r (chosenL r ba)
    ·
     refine WC_reg fun ds => ?_
     refine WL_q rfl (q_move (lk16 rfl <| lk2 rfl <| lk0)) ?_
     refine WL_q rfl (q_eql (lk0) lk_const) ?_
     refine WL_q rfl (q_move (lk0)) ?_
     refine WL_want rfl rfl (lk0) rfl ?_
     refine WL_q rfl (q_move (lk8 rfl <| lk4 rfl <| lk0)) ?_
     refine WL_want rfl rfl (lk1 rfl <| lk0) rfl ?_
     refine WL_q rfl (q_eql (lk0) lk_const) ?_
     refine WL_q rfl (q_pick_true (lk2 rfl <| lk0) rfl (lk0)) ?_
     refine WL_q rfl (q_move (lk0)) ?_
     refine WL_want rfl rfl (lk0) rfl ?_
     refine WL_q rfl (q_move (lk4 rfl <| lk2 rfl <| lk1 rfl <| lk0)) ?_
     refine WL_want rfl rfl (lk1 rfl <| lk0) rfl ?_
     refine WL_q rfl (q_eql (lk0) lk_const) ?_
     refine WL_q rfl (q_pick_true (lk2 rfl <| lk0) rfl (lk0)) ?_
     refine WL_q rfl (q_move (lk0)) ?_
     refine WL_want rfl rfl (lk0) rfl ?_
     refine WL_q rfl (q_move (lk32 rfl <| lk8 rfl <| lk_off rfl <| lk4 rfl <| lk_off rfl <| lk4 rfl <| lk_off rfl <| lk4 rfl <| lk_off rfl <| lk4 rfl <| lk_off rfl <| lk2 rfl <| lk_off rfl <| lk_off rfl <| lk1 rfl <| lk0)) ?_
     refine WL_want rfl rfl (lk1 rfl <| lk0) rfl ?_
     refine WL_q rfl (q_not (lk0)) ?_
     refine WL_want rfl rfl (lk2 rfl <| lk0) rfl ?_
     refine WL_q rfl (q_move (lk0)) ?_
     refine WL_pass rfl rfl (lk0) (.inl (congrArg Value.bool rfl)) rfl ?_
     refine WL_want rfl rfl (lk4 rfl <| lk0) rfl ?_
     refine WL_q rfl (q_pick_true (lk1 rfl <| lk0) rfl lk_const) ?_
     refine WL_q rfl (q_pick_true (lk4 rfl <| lk1 rfl <| lk0) rfl (lk0)) ?_
     refine WL_q rfl (q_move (lk0)) ?_
     refine WL_want rfl rfl (lk0) rfl ?_
     refine WL_q rfl (q_move (lk16 rfl <| lk2 rfl <| lk1 rfl <| lk0)) ?_
     refine WL_want rfl rfl (lk1 rfl <| lk0) rfl ?_
     refine WL_q rfl (q_move (lk16 rfl <| lk8 rfl <| lk4 rfl <| lk1 rfl <| lk0)) ?_
     refine WL_want rfl rfl (lk2 rfl <| lk0) rfl ?_
     refine WL_q rfl (q_geq (lk1 rfl <| lk0) (lk0)) ?_
     refine WL_q rfl (q_pick_true (lk2 rfl <| lk1 rfl <| lk0) rfl (lk0)) ?_
     refine WL_q rfl (q_move (lk0)) ?_
     refine WL_want rfl rfl (lk0) (decide_eq_true (hEa.best hv hve)) ?_
     refine WL_c rfl (q_call bd_21 lk_func .nil awake_ok (fun _ _ h => h)) ?_
     refine WL_q rfl (q_pick_true (lk1 rfl <| lk0) (decide_eq_true (hEa.best hv hve)) (lk0)) ?_
     refine WL_q rfl (q_assign (lk0)) ?_
     refine WL_nil ?_
     refine then_n ?_
     refine WC_ret ?_
     refine post_ret rfl (.tmp (lk0) .nil) ?_
     rfl
    ·
     refine WC_reg fun ds => ?_
     refine WL_q rfl (q_move (lk16 rfl <| lk2 rfl <| lk0)) ?_
     refine WL_q rfl (q_eql (lk0) lk_const) ?_
     refine WL_q rfl (q_move (lk0)) ?_
     refine WL_want rfl rfl (lk0) rfl ?_
     refine WL_q rfl (q_move (lk8 rfl <| lk4 rfl <| lk0)) ?_
     refine WL_want rfl rfl (lk1 rfl <| lk0) rfl ?_
     refine WL_q rfl (q_eql (lk0) lk_const) ?_
     refine WL_q rfl (q_pick_true (lk2 rfl <| lk0) rfl (lk0)) ?_
     refine WL_q rfl (q_move (lk0)) ?_
     refine WL_want rfl rfl (lk0) rfl ?_
     refine WL_q rfl (q_move (lk4 rfl <| lk2 rfl <| lk1 rfl <| lk0)) ?_
     refine WL_want rfl rfl (lk1 rfl <| lk0) rfl ?_
     refine WL_q rfl (q_eql (lk0) lk_const) ?_
     refine WL_q rfl (q_pick_true (lk2 rfl <| lk0) rfl (lk0)) ?_
     refine WL_q rfl (q_move (lk0)) ?_
     refine WL_want rfl rfl (lk0) rfl ?_
     refine WL_q rfl (q_move (lk32 rfl <| lk8 rfl <| lk_off rfl <| lk4 rfl <| lk_off rfl <| lk4 rfl <| lk_off rfl <| lk4 rfl <| lk_off rfl <| lk4 rfl <| lk_off rfl <| lk2 rfl <| lk_off rfl <| lk_off rfl <| lk1 rfl <| lk0)) ?_
     refine WL_want rfl rfl (lk1 rfl <| lk0) rfl ?_
     refine WL_q rfl (q_not (lk0)) ?_
     refine WL_want rfl rfl (lk2 rfl <| lk0) rfl ?_
     refine WL_q rfl (q_move (lk0)) ?_
     refine WL_want rfl rfl (lk0) rfl ?_
     refine WL_q rfl (q_move (lk32 rfl <| lk1 rfl <| lk0)) ?_
     refine WL_want rfl rfl (lk4 rfl <| lk0) rfl ?_
     refine WL_q rfl (q_pick_false (lk1 rfl <| lk0) rfl (lk0)) ?_
     refine WL_q rfl (q_pick_true (lk4 rfl <| lk1 rfl <| lk0) rfl (lk0)) ?_
     refine WL_q rfl (q_move (lk0)) ?_
     refine WL_want rfl rfl (lk0) (by first | rfl | exact hEa.can chosen_lt hc) ?_
     refine WL_q rfl (q_move (lk16 rfl <| lk2 rfl <| lk1 rfl <| lk0)) ?_
     refine WL_want rfl rfl (lk1 rfl <| lk0) (by first | rfl | exact hEa.can chosen_lt hc) ?_
     refine WL_q rfl (q_move (lk16 rfl <| lk8 rfl <| lk4 rfl <| lk1 rfl <| lk0)) ?_
     refine WL_want rfl rfl (lk2 rfl <| lk0) (by first | rfl | exact hEa.can chosen_lt hc) ?_
     refine WL_q rfl (q_geq (lk1 rfl <| lk0) (lk0)) ?_
     refine WL_q rfl (q_pick_true (lk2 rfl <| lk1 rfl <| lk0) (by first | rfl | exact hEa.can chosen_lt hc) (lk0)) ?_
     refine WL_q rfl (q_move (lk0)) ?_
     refine WL_want rfl rfl (lk0) (decide_eq_true (hEa.best hv hve)) ?_
     refine WL_c rfl (q_call bd_21 lk_func .nil awake_ok (fun _ _ h => h)) ?_
     refine WL_q rfl (q_pick_true (lk1 rfl <| lk0) (decide_eq_true (hEa.best hv hve)) (lk0)) ?_
     refine WL_q rfl (q_assign (lk0)) ?_
     refine WL_nil ?_
     refine then_n ?_
     refine WC_ret ?_
     refine post_ret rfl (.tmp (lk0) .nil) ?_
     rfl
   ·
    refine WC_reg fun ds => ?_
    refine WL_q rfl (q_loadN agg_27 (lk_off rfl <| lk4 rfl <| lk_off rfl <| lk4 rfl <| lk_off rfl <| lk4 rfl <| lk_off rfl <| lk4 rfl <| lk_off rfl <| lk0) rfl rfl (own_whole 0 rfl)) ?_
    refine WL_c rfl (q_call bd_37 lk_func (.cons (lk0) .nil) (valid_ok hre) (fun _ _ h => h)) ?_
    refine WL_q rfl (q_not (lk0)) ?_
    refine WL_nil ?_
    refine then_n ?_
    refine WC_if_true (lk0) (by simp [he]) ?_
    refine WC_seq ?_
    refine WC_reg fun ds => ?_
    refine WL_c rfl (q_call bd_21 lk_func .nil awake_ok (fun _ _ h => h)) ?_
    refine WL_q rfl (q_assign (lk0)) ?_
    refine WL_nil ?_
    refine then_n ?_
    refine WC_ret ?_
    refine then_r ?_
    refine post_ret rfl (.tmp (lk0) .nil) ?_
    rfl
  ·
   refine WC_seq ?_
   refine WC_reg fun ds => ?_
   refine WL_x rfl (x_box (lk_entry rfl) rfl fun b215 hb215 nb215 => ?_)
   refine WL_x rfl (x_box (lk1 rfl <| lk_entry rfl) rfl fun b216 hb216 nb216 => ?_)
   refine WL_x rfl (x_box (lk2 rfl <| lk_entry rfl) rfl fun b217 hb217 nb217 => ?_)
   refine WL_q rfl (q_assign lk_const) ?_
   refine WL_nil ?_
   refine then_n ?_
   refine WC_seq ?_
   refine WC_seq ?_
   refine WC_reg fun ds => ?_
   refine WL_q rfl (q_loadN agg_27 (lk2 rfl <| lk1 rfl <| lk0) rfl rfl (own_whole 2 rfl)) ?_
   refine WL_c rfl (q_call bd_37 lk_func (.cons (lk0) .nil) (valid_ok hr) (fun _ _ h => h)) ?_
   refine WL_q rfl (q_not (lk0)) ?_
   refine WL_nil ?_
   refine then_n ?_
   refine WC_if_true (lk0) (by simp [h0]) ?_
   refine WC_seq ?_
   refine WC_reg fun ds => ?_
   refine WL_c rfl (q_call bd_21 lk_func .nil awake_ok (fun _ _ h => h)) ?_
   refine WL_q rfl (q_assign (lk0)) ?_
   refine WL_nil ?_
   refine then_n ?_
   refine WC_ret ?_
   refine then_r ?_
   refine post_ret rfl (.tmp (lk0) .nil) ?_
   rfl
end Go.Proofs.Ytbcjfkcpfjccdaa
namespace Go.Proofs.Ytbcjfkcpfjccdaa
open Go.ChangeShapes Go.WideShapes Go.ChangeAt Go.RowKit
set_option maxRecDepth 100000 in
theorem readerFewerLifted (os : Os) (started : os.Started) (H : Type) (enc : TypeId × Value → H) :
    ReturnsInHanded {} Try.checked os 12 .any (Rows.readerFewerSpec.pre6 enc Try.prog Try.f12 Rows.readerFewerRow.domain false) (Rows.readerFewerSpec.post enc Try.prog Try.f12 false true false false) := by
  refine returnsInHanded_of_change_sized (C := Try.checked) ownKnob0 started (by kernel_rfl) Try.func12
    (ChangeSpec.witness6 (enc := enc) (C := Try.checked) false ⟨#[], #[.agg #[.slice none 0 0, .slice none 0 0, .slice none 0 0, .slice none 0 0], .agg #[.int .u8 0, .int .u8 0], .agg #[.int .i64 0, .bool false, .int .u8 0, .int .u8 0, .int .u8 0, .int .u8 0, .int .u8 0, .int .u8 0]], []⟩ 8 (by kernel_rfl) (by kernel_rfl) (by kernel_rfl) (by kernel_rfl)) ?_
  intro W base args ds gs before hval0 hW hcnd hsz _
  have hval : ∀ (j : Nat) t v, Try.f12.params[j]? = some t → args[j]? = some v → Value.okWide Try.prog W .any base t v := hval0
  have hW' := hW
  obtain ⟨p, q, hA0, hV, rfl, hfz, hnd⟩ := hW
  have hA : DataW.TrodAll enc Try.prog W 0 (fun _ => true) true Try.f12.params.toList args.toList ds p := hA0
  rw [Try.params12] at hA hval
  obtain ⟨v0, vs0, d0, ds0, p0, q0, hargs, rfl, rfl, h0, r0⟩ := trodAll_cons hA
  obtain ⟨v1, vs1, d1, ds1, p1, q1, rfl, rfl, rfl, h1, r1⟩ := trodAll_cons r0
  obtain ⟨v2, vs2, d2, ds2, p2, q2, rfl, rfl, rfl, h2, r2⟩ := trodAll_cons r1
  obtain ⟨rfl, rfl, rfl⟩ := trodAll_nil r2
  obtain rfl : args = #[v0, v1, v2] := by cases args; simp_all
  obtain ⟨rfl, rfl⟩ := trodVars_none hV
  have hsz' : (DataW.weightsEach Try.prog (Try.f12.params.toList ++ []) ([d0, d1, d2] ++ [])).all (· ≤ reachBytes) = true := hsz
  rw [Try.params12] at hsz'
  have k0 := h0
  have lt0 : ∀ x ∈ p0, x.block < W.heap.size := by obtain ⟨m, hm⟩ := k0; exact DataW.trod_lt m _ _ _ hm
  have k1 := h1
  have lt1 : ∀ x ∈ p1, x.block < W.heap.size := by obtain ⟨m, hm⟩ := k1; exact DataW.trod_lt m _ _ _ hm
  have k2 := h2
  have lt2 : ∀ x ∈ p2, x.block < W.heap.size := by obtain ⟨m, hm⟩ := k2; exact DataW.trod_lt m _ _ _ hm
  obtain ⟨vb, vr, vs, vq, r, rfl, hr, hrw⟩ := arg_room (hval 0 27 v0 rfl rfl) h0 (weights_at hsz' (j := 0) rfl rfl)
  obtain ⟨b0, b1, rfl, hb0, hb1⟩ := arg_bits (hval 1 77 v1 rfl rfl) h1 (weights_at hsz' (j := 1) rfl rfl)
  obtain ⟨sl, ss, u0, u1, u2, y0, y1, y2, rfl, ⟨hu0, hu1, hu2⟩, hy0, hy1, hy2⟩ := arg_easier (hval 2 82 v2 rfl rfl) h2 (weights_at hsz' (j := 2) rfl rfl)
  clear hA0 hval0
  refine (Ok.law (fewerLaw_ok hr hb0 hb1 hu0 hu1 hu2 hy0 hy1 hy2)).mono fun e W' ⟨he, bel⟩ => ?_
  subst he
  exact ⟨_, rfl, _, _, _, [], _, [], hW', trodAll_mk1 (shut_bool Try.underlying4 _), (trodAll_cons_mk (Below.trod laidOut (by kernel_rfl) (of_decide_eq_true (by kernel_rfl)) k0 bel lt0) (trodAll_cons_mk (Below.trod laidOut (by kernel_rfl) (of_decide_eq_true (by kernel_rfl)) k1 bel lt1) (trodAll_cons_mk (Below.trod laidOut (by kernel_rfl) (of_decide_eq_true (by kernel_rfl)) k2 bel lt2) trodAll_mk0))), rfl, bel.frame _, fun h => by cases h⟩
theorem readerFewer : Rows.ReaderFewerSaid :=
  OpenClaim.holds_of_wide 12 Try.f12 rfl rfl rfl rfl rfl rfl rfl ⟨rfl, rfl, rfl, rfl, rfl⟩ rfl rfl rfl rfl rfl (by kernel_rfl) Try.func12 (by kernel_rfl)
    (of_decide_eq_true (by kernel_rfl)) (by unfold Func.isWrapper; first | (rw [if_pos (by decide +kernel)]; kernel_rfl) | (rw [if_neg (by decide +kernel)]; exact ⟨rfl, rfl⟩))
    (fun os started H enc _ => readerFewerLifted os started H enc)
#print axioms readerFewer
end Go.Proofs.Ytbcjfkcpfjccdaa
