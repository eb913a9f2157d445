/-
  A part of a proof: ReaderFewer returns true of any room, bits and numbers, and leaves what it is handed as it was. No conditions.
-/
import Derived.Test.YtbcjfkcpfjccdaaPac
namespace Go.Proofs.Ytbcjfkcpfjccdaa
open Go.RowKit
abbrev cl (b : Bool) (z : Int) : Value := .agg #[.bool b, .int .i64 z]
abbrev one : Value := .int .i64 1
def ents (r : Room) (l : List Nat) : List (Value × Value) := l.flatMap fun i => [(cl false (r.reader i), one), (cl true (r.book i), one)]
theorem ents_snoc {r : Room} {l : List Nat} {i : Nat} : ents r (l ++ [i]) = ents r l ++ [(cl false (r.reader i), one)] ++ [(cl true (r.book i), one)] := by simp [ents]
theorem ents_mem {r : Room} {l : List Nat} {p : Value × Value} (h : p ∈ ents r l) : p.2 = one ∧ ∃ i ∈ l, p.1 = cl false (r.reader i) ∨ p.1 = cl true (r.book i) := by
  obtain ⟨i, hi, hp⟩ := List.mem_flatMap.1 h
  simp only [List.mem_cons, List.not_mem_nil, or_false] at hp
  rcases hp with rfl | rfl
  · exact ⟨rfl, i, hi, .inl rfl⟩
  · exact ⟨rfl, i, hi, .inr rfl⟩
theorem ents_reader {r : Room} {l : List Nat} {i : Nat} (hi : i ∈ l) : (cl false (r.reader i), one) ∈ ents r l := List.mem_flatMap.2 ⟨i, hi, by simp⟩
theorem ents_book {r : Room} {l : List Nat} {i : Nat} (hi : i ∈ l) : (cl true (r.book i), one) ∈ ents r l := List.mem_flatMap.2 ⟨i, hi, by simp⟩
theorem cl_inj {b c : Bool} {x y : Nat} (h : cl b x = cl c y) : b = c ∧ x = y := by
  simp only [cl, Value.agg.injEq, Array.mk.injEq, List.cons.injEq, Value.bool.injEq, Value.int.injEq, and_true, true_and] at h
  exact ⟨h.1, by omega⟩
theorem new_reader {r : Room} {l : List Nat} {i : Nat} (h : ∀ p ∈ ents r l, p.1 ≠ cl false (r.reader i)) : ∀ j ∈ l, r.reader j ≠ r.reader i := fun j hj e => h _ (ents_reader hj) (by rw [e])
theorem old_reader {r : Room} {l : List Nat} {i j : Nat} {u : Value} (h : (ents r l)[j]? = some (cl false (r.reader i), u)) : u = one ∧ ∃ q ∈ l, r.reader q = r.reader i := by
  obtain ⟨h1, q, hq, hc⟩ := ents_mem (List.mem_of_getElem? h)
  refine ⟨h1, q, hq, ?_⟩
  rcases hc with hc | hc
  · exact (cl_inj hc).2.symm
  · exact absurd (cl_inj hc).1 (by decide)
theorem new_book {r : Room} {l : List Nat} {i : Nat} (h : ∀ p ∈ ents r l ++ [(cl false (r.reader i), one)], p.1 ≠ cl true (r.book i)) : ∀ j ∈ l, r.book j ≠ r.book i := fun j hj e => h _ (List.mem_append_left _ (ents_book hj)) (by rw [e])
theorem old_book {r : Room} {l : List Nat} {i j : Nat} {u : Value} (h : (ents r l ++ [(cl false (r.reader i), one)])[j]? = some (cl true (r.book i), u)) : u = one ∧ ∃ q ∈ l, r.book q = r.book i := by
  rcases List.mem_append.1 (List.mem_of_getElem? h) with h | h
  · obtain ⟨h1, q, hq, hc⟩ := ents_mem h
    refine ⟨h1, q, hq, ?_⟩
    rcases hc with hc | hc
    · exact absurd (cl_inj hc).1 (by decide)
    · exact (cl_inj hc).2.symm
  · simp only [List.mem_singleton, Prod.mk.injEq] at h
    exact absurd (cl_inj h.1).1 (by decide)
theorem apart_take {r : Room} {l : List Nat} {k : Nat} (hk : k < l.length) (h : Apart r (l.take k)) (hn : ∀ j ∈ l.take k, Two r j l[k]) : Apart r (l.take (k + 1)) := by
  unfold Apart at h ⊢
  rw [List.take_succ_eq_append_getElem hk, List.pairwise_append]
  exact ⟨h, by simp, fun a ha b hb => by simp at hb; subst hb; exact hn a ha⟩
theorem not_apart_take {r : Room} {l : List Nat} {k j : Nat} (hk : k < l.length) (hj : j ∈ l.take k) (hn : ¬ Two r j l[k]) : ¬ Apart r l := fun h => by
  obtain ⟨i, hi, rfl⟩ := List.mem_iff_getElem.1 hj
  simp only [List.length_take] at hi
  have := apart_iff.1 h k i hk (by omega)
  simp only [List.getElem_take] at hn
  exact hn this.symm
end Go.Proofs.Ytbcjfkcpfjccdaa
namespace Go.Proofs.Ytbcjfkcpfjccdaa
open Go.RowKit
theorem agg_147 : AggT Try.prog 147 2 := aggT_of (by kernel_rfl)
theorem fd_114_0 : FieldT Try.prog 114 0 0 := fieldT_of (by kernel_rfl)
theorem sz_147 : SizeT Try.prog 147 2 := sizeT_of (by kernel_rfl)
theorem zr_147 : ZeroT Try.prog 147 (.agg #[.bool false, .int .i64 0]) := zeroT_of (by kernel_rfl)
theorem bt_147 : BuildT Try.prog 147 [.bool false, .int .i64 0] [(0, 1), (1, 1)] := buildT_of zr_147 (by kernel_rfl) (by decide)
theorem laid : laidOutB Try.prog = true := by kernel_rfl
theorem mapT : MapT Try.prog 145 147 3 (.int .i64 0) := ⟨Try.underlying145, zeroT_of (by kernel_rfl), Go.Maps.Keyed.of_law (deep_law_laid laid (m := 3) (by omega) (Nat.le_of_ble_eq_true (by kernel_rfl)) (by kernel_rfl) (by kernel_rfl))⟩
theorem isK (b : Bool) {z : Int} (h1 : -9223372036854775808 ≤ z) (h2 : z ≤ 9223372036854775807) : IsK Try.prog 147 (cl b z) :=
  isK_struct2 Try.underlying147 (by kernel_rfl) (by kernel_rfl) (by kernel_rfl) (by kernel_rfl) (d := (Try.prog.types.size - 1) + 1) (by kernel_rfl) rfl rfl (by decide) (by decide) (lits_bool Try.underlying4 b) (lits_int Try.underlying3 (wf64 h1 h2))
theorem stood : Try.prog.stoodInHeld 147 = false := by kernel_rfl
theorem guardT : Try.prog.eqGuardType Try.prog.depth 147 = false := by kernel_rfl
theorem oneB_ : OneT Try.prog 4 := oneT_of (by kernel_rfl)
theorem oneZ_ : OneT Try.prog 3 := oneT_of (by kernel_rfl)
set_option maxRecDepth 100000 in
theorem apart_ok {F : Heap} {b c1 c8 c3 : Nat} {vb vr vs vq vl : Value} {r : Room} (hX : RoomX num F b c1 c8 c3 vb vr vs vq vl r) (hv : Valid r) {v : Value} {l : List Nat} (hl : Nats F v l) (hlt2 : ∀ i ∈ l, i < r.reqs.length) : Ok Try.prog 63 [.pointer (some ⟨b, 0, none⟩), v].toArray F fun u _ => u = .bool (decide (Apart r l)) := by
  refine Ok.intro Try.func63 rfl Try.ntmps63 rfl fun w0 => ?_
  have hlen := hl.plain.lt
  refine WC_seq ?_
  refine WC_reg fun ds => ?_
  refine WL_q rfl (q_assign lk_const) ?_
  refine WL_nil ?_
  refine then_n ?_
  refine WC_seq ?_
  refine WC_reg fun ds => ?_
  refine WL_x rfl (x_makeMap fun b1 hb1 nb1 => ?_)
  refine WL_q rfl (q_assign (lk0)) ?_
  refine WL_nil ?_
  refine then_n ?_
  refine WC_seq ?_
  refine WC_seq ?_
  refine WC_reg fun ds => ?_
  refine WL_q rfl (q_move (lk2 rfl <| lk1 rfl <| lk_entry rfl)) ?_
  refine WL_q rfl (q_lenP sl_29 (lk0) hl.plain) ?_
  refine WL_q rfl (q_move lk_const) ?_
  refine WL_nil ?_
  refine then_n ?_
  refine WC_block ?_
  refine WC_loopN [4, 7, 8, 9, 13, 14, 15, 16, 17, 18, 19, 20, 21, 22, 23, 24, 25, 26, 27, 28, 29, 30, 31, 32, 33, 34, 35, 36, 37, 38, 39, 40, 41, 42, 43, 44, 45, 46, 47, 48, 49, 50, 51, 52, 53, 54, 55, 56, 57, 58, 59, 60, 61, 62] (fun m e σ => ∃ k : Nat, m + k = l.length ∧ e 13 = .int .i64 k ∧ Apart r (l.take k) ∧ (∀ p ∈ (ents r (l.take k)), IsK Try.prog 147 p.1) ∧ ((ents r (l.take k)).map (·.1)).Nodup ∧ σ = ⟨F, [(b1, mapO (ents r (l.take k)))]⟩) (l.length) ?_ ?_
  · exact ⟨0, by omega, (lk0), List.Pairwise.nil, (fun p hp => nomatch hp), List.nodup_nil, rfl⟩
  ·
   rintro m e _ ⟨k, hm, hs13, hap, hall, hnd, rfl⟩
   by_cases hlt : k < l.length
   ·
    refine WC_seq ?_
    refine WC_reg fun ds => ?_
    refine WL_q rfl (q_lss (lk_in rfl hs13) (lk_off rfl <| lk1 rfl <| lk0)) ?_
    refine WL_nil ?_
    refine then_n ?_
    refine WC_seq ?_
    refine WC_if_true (lk0) (by first | rfl | exact decide_eq_true (by omega)) ?_
    have hlk := hlt2 _ (List.getElem_mem hlt)
    obtain ⟨ek, lr⟩ := hv.reader hlk
    obtain ⟨bk, lb⟩ := hv.book hlk
    have h8 := hv.nb
    have h9 := hv.nr
    have isA := isK false (z := (r.reader l[k] : Int)) (by omega) (by omega)
    have isB := isK true (z := (r.book l[k] : Int)) (by omega) (by omega)
    refine WC_skip ?_
    refine then_n ?_
    refine WC_seq ?_
    refine WC_block ?_
    refine WC_seq ?_
    refine WC_reg fun ds => ?_
    refine WL_q rfl (q_index  sl_29 (lk1 rfl <| lk_off rfl <| lk2 rfl <| lk0) hl.plain (lk1 rfl <| lk_in rfl hs13) rfl hlt) ?_
    refine WL_q rfl (q_load1 one_3 (lk0) (hl.cell1 hlt rfl)) ?_
    refine WL_q rfl (q_assign (lk0)) ?_
    refine WL_nil ?_
    refine then_n ?_
    refine WC_seq ?_
    refine WC_cut [8, 9, 17, 18, 19, 20, 21, 22, 23, 24, 25, 26, 27, 28, 29, 30, 31, 32, 33, 34, 35, 36] (fun s σ => ∃ p8 p9, s 8 = ptr p8 ∧ s 9 = ptr p9 ∧ σ = ⟨F, [(p8, bx 147 [.bool false, .int .i64 (r.reader l[k])]), (p9, bx 147 [.bool true, .int .i64 (r.book l[k])]), (b1, mapO (ents r (l.take k)))]⟩) ?_ ?_
    ·
     refine WC_drawS (.inl rfl) (fun _ _ h => h) (.cons_cons _ <| .refl _) [23] (by kernel_rfl) fun ds => ?_
     refine WX_take 0 rfl (by kernel_rfl) (by kernel_rfl) (by kernel_rfl) (by kernel_rfl) rfl rfl (fun _ h => h.drop (.cons_cons _ <| .refl _)) (fun _ _ _ h => h) (q_move (lk4 rfl <| lk_off rfl <| lk4 rfl <| lk2 rfl <| lk_entry rfl)) ?_
     refine WX_take 1 rfl (by kernel_rfl) (by kernel_rfl) (by kernel_rfl) (by kernel_rfl) rfl rfl (fun _ h => h.drop (.cons_cons _ <| .refl _)) (fun _ _ _ h => h) (q_nilCheck (lk0)) ?_
     refine WX_take 2 rfl (by kernel_rfl) (by kernel_rfl) (by kernel_rfl) (by kernel_rfl) rfl rfl (fun _ h => h.drop (.cons_cons _ <| .refl _)) (fun _ _ _ h => h) (q_fieldAddrB fd_114_0 (lk0)) ?_
     refine WX_take 3 rfl (by kernel_rfl) (by kernel_rfl) (by kernel_rfl) (by kernel_rfl) rfl rfl (fun _ h => h.drop (.cons_cons _ <| .refl _)) (fun _ _ _ h => h) (q_fieldAddrB fd_27_3 (lk0)) ?_
     refine WX_take 4 rfl (by kernel_rfl) (by kernel_rfl) (by kernel_rfl) (by kernel_rfl) rfl rfl (fun _ h => h.drop (.cons_cons _ <| .refl _)) (fun _ _ _ h => h) (q_load1 one_25 (lk0) (CellF.own hX.blk rfl).cell) ?_
     refine WX_take 5 rfl (by kernel_rfl) (by kernel_rfl) (by kernel_rfl) (by kernel_rfl) rfl rfl (fun _ h => h.drop (.cons_cons _ <| .refl _)) (fun _ _ _ h => h) (q_move (lk4 rfl <| lk1 rfl <| lk0)) ?_
     refine WX_take 6 rfl (by kernel_rfl) (by kernel_rfl) (by kernel_rfl) (by kernel_rfl) rfl rfl (fun _ h => h.drop (.cons_cons _ <| .refl _)) (fun _ _ _ h => h) (q_index  sl_25 (lk1 rfl <| lk0) hX.room.reqs.plain (lk0) rfl hlk) ?_
     refine WX_take 7 rfl (by kernel_rfl) (by kernel_rfl) (by kernel_rfl) (by kernel_rfl) rfl rfl (fun _ h => h.drop (.cons_cons _ <| .refl _)) (fun _ _ _ h => h) (q_fieldAddr fd_58_0 (lk0)) ?_
     refine WX_take 8 rfl (by kernel_rfl) (by kernel_rfl) (by kernel_rfl) (by kernel_rfl) rfl rfl (fun _ h => h.drop (.cons_cons _ <| .refl _)) (fun _ _ _ h => h) (q_load1 one_3 (lk0) (hX.room.reqs.cell hlk rfl)) ?_
     refine WX_take 9 rfl (by kernel_rfl) (by kernel_rfl) (by kernel_rfl) (by kernel_rfl) rfl rfl (fun _ h => h.drop (.cons_cons _ <| .refl _)) (fun _ _ _ h => h) (q_build bt_147 (.cons (lk0) rfl .nil) (.cons rfl rfl (Nat.le_of_ble_eq_true rfl) (.cons (.next <| .here) .nil) .nil)) ?_
     refine WX_take 10 rfl (by kernel_rfl) (by kernel_rfl) (by kernel_rfl) (by kernel_rfl) rfl rfl (fun _ h => h.drop (.cons_cons _ <| .refl _)) (fun _ _ _ h => h) (q_move (lk8 rfl <| lk4 rfl <| lk2 rfl <| lk_off rfl <| lk4 rfl <| lk2 rfl <| lk_entry rfl)) ?_
     refine WX_take 11 rfl (by kernel_rfl) (by kernel_rfl) (by kernel_rfl) (by kernel_rfl) rfl rfl (fun _ h => h.drop (.cons_cons _ <| .refl _)) (fun _ _ _ h => h) (q_nilCheck (lk0)) ?_
     refine WX_take 12 rfl (by kernel_rfl) (by kernel_rfl) (by kernel_rfl) (by kernel_rfl) rfl rfl (fun _ h => h.drop (.cons_cons _ <| .refl _)) (fun _ _ _ h => h) (q_fieldAddrB fd_114_0 (lk0)) ?_
     refine WX_take 13 rfl (by kernel_rfl) (by kernel_rfl) (by kernel_rfl) (by kernel_rfl) rfl rfl (fun _ h => h.drop (.cons_cons _ <| .refl _)) (fun _ _ _ h => h) (q_fieldAddrB fd_27_3 (lk0)) ?_
     refine WX_take 14 rfl (by kernel_rfl) (by kernel_rfl) (by kernel_rfl) (by kernel_rfl) rfl rfl (fun _ h => h.drop (.cons_cons _ <| .refl _)) (fun _ _ _ h => h) (q_load1 one_25 (lk0) (CellF.own hX.blk rfl).cell) ?_
     refine WX_take 15 rfl (by kernel_rfl) (by kernel_rfl) (by kernel_rfl) (by kernel_rfl) rfl rfl (fun _ h => h.drop (.cons_cons _ <| .refl _)) (fun _ _ _ h => h) (q_move (lk8 rfl <| lk4 rfl <| lk2 rfl <| lk1 rfl <| lk0)) ?_
     refine WX_take 16 rfl (by kernel_rfl) (by kernel_rfl) (by kernel_rfl) (by kernel_rfl) rfl rfl (fun _ h => h.drop (.cons_cons _ <| .refl _)) (fun _ _ _ h => h) (q_index  sl_25 (lk1 rfl <| lk0) hX.room.reqs.plain (lk0) rfl hlk) ?_
     refine WX_take 17 rfl (by kernel_rfl) (by kernel_rfl) (by kernel_rfl) (by kernel_rfl) rfl rfl (fun _ h => h.drop (.cons_cons _ <| .refl _)) (fun _ _ _ h => h) (q_fieldAddr fd_58_1 (lk0)) ?_
     refine WX_take 18 rfl (by kernel_rfl) (by kernel_rfl) (by kernel_rfl) (by kernel_rfl) rfl rfl (fun _ h => h.drop (.cons_cons _ <| .refl _)) (fun _ _ _ h => h) (q_load1 one_3 (lk0) (hX.room.reqs.cell hlk rfl)) ?_
     refine WX_take 19 rfl (by kernel_rfl) (by kernel_rfl) (by kernel_rfl) (by kernel_rfl) rfl rfl (fun _ h => h.drop (.cons_cons _ <| .refl _)) (fun _ _ _ h => h) (q_build bt_147 (.cons lk_const rfl (.cons (lk0) rfl .nil)) (.cons rfl rfl (Nat.le_of_ble_eq_true rfl) (.cons (.here) .nil) (.cons rfl rfl (Nat.le_of_ble_eq_true rfl) (.cons (.next <| .here) .nil) .nil))) ?_
     refine WX_pick [20, 21] (by kernel_rfl) (by decide) (in2 ?_ ?_)
     ·
      refine WXop_x rfl rfl (x_alloc zr_147 rfl fun b3 hb3 nb3 => ⟨fun _ _ => (fun _ h => h.drop (.cons _ <| .cons_cons _ <| .refl _)), ?_⟩)
      refine WX_x 21 rfl (by kernel_rfl) rfl (x_alloc zr_147 rfl fun b4 hb4 nb4 => ⟨fun _ _ => (fun _ h => h.drop (.cons _ <| .cons _ <| .cons_cons _ <| .refl _)), ?_⟩)
      refine WX_x0 22 rfl (by kernel_rfl) (x_storeA sz_147 (lk1 rfl <| lk0) (lk8 rfl <| lk4 rfl <| lk0) (i := 1) rfl rfl rfl rfl (by simp [Value.oneCell']) (.next <| .here) ⟨fun _ _ => (fun _ h => h.drop (.cons _ <| .cons _ <| .cons_cons _ <| .refl _)), ?_⟩)
      refine WX_x0 23 rfl (by kernel_rfl) (x_storeA sz_147 (lk0) (lk2 rfl <| lk0) (i := 0) rfl rfl rfl rfl (by simp [Value.oneCell']) (.here) ⟨(fun h => nomatch h), ?_⟩)
      refine WX_order (.cons (.next <| .here) <| .cons (.here) <| .cons (.here) <| .nil) ?_
      refine WX_done (by kernel_rfl) ?_ _
      refine then_n ⟨_, Off.eq (ou16 rfl <| ou4 rfl <| ou2 rfl <| off_refl), ?_⟩
      exact ⟨_, _, (lk1 rfl <| lk0), (lk0), by rw [ek, bk]⟩
     ·
      refine WXop_x rfl rfl (x_alloc zr_147 rfl fun b5 hb5 nb5 => ⟨fun _ _ => (fun _ h => h.drop (.cons _ <| .cons_cons _ <| .refl _)), ?_⟩)
      refine WX_x 20 rfl (by kernel_rfl) rfl (x_alloc zr_147 rfl fun b6 hb6 nb6 => ⟨fun _ _ => (fun _ h => h.drop (.cons _ <| .cons _ <| .cons_cons _ <| .refl _)), ?_⟩)
      refine WX_x0 22 rfl (by kernel_rfl) (x_storeA sz_147 (lk0) (lk8 rfl <| lk4 rfl <| lk0) (i := 0) rfl rfl rfl rfl (by simp [Value.oneCell']) (.here) ⟨fun _ _ => (fun _ h => h.drop (.cons _ <| .cons _ <| .cons_cons _ <| .refl _)), ?_⟩)
      refine WX_x0 23 rfl (by kernel_rfl) (x_storeA sz_147 (lk1 rfl <| lk0) (lk2 rfl <| lk0) (i := 1) rfl rfl rfl rfl (by simp [Value.oneCell']) (.next <| .here) ⟨(fun h => nomatch h), ?_⟩)
      refine WX_order (.cons (.here) <| .cons (.here) <| .cons (.here) <| .nil) ?_
      refine WX_done (by kernel_rfl) ?_ _
      refine then_n ⟨_, Off.eq (ou16 rfl <| ou4 rfl <| ou2 rfl <| off_refl), ?_⟩
      exact ⟨_, _, (lk0), (lk1 rfl <| lk0), by rw [ek, bk]⟩
    rintro e3 _ ⟨p8, p9, hc8, hc9, rfl⟩
    refine WC_seq ?_
    refine WC_seq ?_
    rcases keys_or (es := (ents r (l.take k))) (cl false (r.reader l[k])) with hno | ⟨j, u, hj⟩
    ·
     refine WC_cut [37, 38, 39, 40, 41, 42] (fun s σ => σ = ⟨F, [(p8, bx 147 [.bool false, .int .i64 (r.reader l[k])]), (p9, bx 147 [.bool true, .int .i64 (r.book l[k])]), (b1, mapO ((ents r (l.take k)) ++ [((cl false (r.reader l[k])), one)]))]⟩) ?_ ?_
     ·
      refine WC_drawS (.inl rfl) (fun _ _ h => h) (.cons_cons _ <| .cons_cons _ <| .cons _ <| .refl _) [6] (by kernel_rfl) fun ds => ?_
      refine WX_take 0 rfl (by kernel_rfl) (by kernel_rfl) (by kernel_rfl) (by kernel_rfl) rfl rfl (fun _ h => h.drop (.cons_cons _ <| .cons_cons _ <| .cons _ <| .refl _)) (fun _ _ _ h => h) (q_move (lk_off rfl <| lk4 rfl <| lk_off rfl <| lk2 rfl <| lk1 rfl <| lk0)) ?_
      refine WX_take 1 rfl (by kernel_rfl) (by kernel_rfl) (by kernel_rfl) (by kernel_rfl) rfl rfl (fun _ h => h.drop (.cons_cons _ <| .cons_cons _ <| .cons _ <| .refl _)) (fun _ _ _ h => h) (q_loadN agg_147 (lk1 rfl <| lk_in rfl hc8) rfl rfl (own_whole 0 rfl)) ?_
      refine WX_pick [2, 4] (by kernel_rfl) (by decide) (in2 ?_ ?_)
      ·
       refine WXop_x rfl rfl (x_quiet (q_lookupN mapT (lk1 rfl <| lk0) (lk0) (i := 2) rfl isA hall hno).quiet ⟨fun _ _ => (fun _ h => h.drop (.cons_cons _ <| .cons_cons _ <| .cons _ <| .refl _)), ?_⟩)
       refine WX_take 3 rfl (by kernel_rfl) (by kernel_rfl) (by kernel_rfl) (by kernel_rfl) rfl rfl (fun _ h => h.drop (.cons_cons _ <| .cons_cons _ <| .cons _ <| .refl _)) (fun _ _ _ h => h) (q_add (lk0) lk_const rfl (by omega) (by omega)) ?_
       refine WX_x 4 rfl (by kernel_rfl) rfl (x_entryN mapT (lk2 rfl <| lk1 rfl <| lk0) (lk2 rfl <| lk0) (i := 2) rfl isA hall hno (.next <| .next <| .here) ⟨fun _ _ => (fun _ h => h.drop (.cons_cons _ <| .cons_cons _ <| .cons _ <| .refl _)), ?_⟩)
       refine WX_take 5 rfl (by kernel_rfl) (by kernel_rfl) (by kernel_rfl) (by kernel_rfl) rfl rfl (fun _ h => h.drop (.cons_cons _ <| .cons_cons _ <| .cons _ <| .refl _)) (fun _ _ _ h => h) (q_extract (lk0) rfl) ?_
       refine WX_x0 6 rfl (by kernel_rfl) (x_entryStore (lk4 rfl <| lk1 rfl <| lk0) (lk0) (lk2 rfl <| lk0) (i := 2) rfl (congrArg (Option.map (·.1)) snoc_at) (.next <| .next <| .here) ⟨(fun h => nomatch h), ?_⟩)
       refine WX_done (by kernel_rfl) ?_ _
       refine then_n ⟨_, Off.eq (ou4 rfl <| ou2 rfl <| off_refl), ?_⟩
       rw [snoc_set]; rfl
      ·
       refine WXop_x rfl rfl (x_entryN mapT (lk1 rfl <| lk0) (lk0) (i := 2) rfl isA hall hno (.next <| .next <| .here) ⟨fun _ _ => (fun _ h => h.drop (.cons_cons _ <| .cons_cons _ <| .cons _ <| .refl _)), ?_⟩)
       refine WX_take 5 rfl (by kernel_rfl) (by kernel_rfl) (by kernel_rfl) (by kernel_rfl) rfl rfl (fun _ h => h.drop (.cons_cons _ <| .cons_cons _ <| .cons _ <| .refl _)) (fun _ _ _ h => h) (q_extract (lk0) rfl) ?_
       refine WX_x 2 rfl (by kernel_rfl) rfl (x_quiet (q_lookupS mapT (lk2 rfl <| lk1 rfl <| lk0) (lk2 rfl <| lk0) (i := 2) rfl isA (all_snoc hall isA) (nd_snoc hnd hno) snoc_at).quiet ⟨fun _ _ => (fun _ h => h.drop (.cons_cons _ <| .cons_cons _ <| .cons _ <| .refl _)), ?_⟩)
       refine WX_take 3 rfl (by kernel_rfl) (by kernel_rfl) (by kernel_rfl) (by kernel_rfl) rfl rfl (fun _ h => h.drop (.cons_cons _ <| .cons_cons _ <| .cons _ <| .refl _)) (fun _ _ _ h => h) (q_add (lk0) lk_const rfl (by omega) (by omega)) ?_
       refine WX_x0 6 rfl (by kernel_rfl) (x_entryStore (lk4 rfl <| lk1 rfl <| lk0) (lk2 rfl <| lk0) (lk0) (i := 2) rfl (congrArg (Option.map (·.1)) snoc_at) (.next <| .next <| .here) ⟨(fun h => nomatch h), ?_⟩)
       refine WX_done (by kernel_rfl) ?_ _
       refine then_n ⟨_, Off.eq (ou4 rfl <| ou2 rfl <| off_refl), ?_⟩
       rw [snoc_set]; rfl
     rintro e16 _ rfl
     refine WC_seq ?_
     refine WC_reg fun ds => ?_
     refine WL_q rfl (q_loadN agg_147 (lk_off rfl <| lk_in rfl hc8) rfl rfl (own_whole 0 rfl)) ?_
     refine WL_q rfl (q_loadN agg_147 (lk1 rfl <| lk_off rfl <| lk_in rfl hc9) rfl rfl (own_whole 1 rfl)) ?_
     refine WL_q rfl (q_eql2 Try.underlying147 stood guardT (by decide) (by decide) rfl rfl Try.underlying4 Try.underlying3 oneB_ oneZ_ (d0 := 0) (d1 := 0) rfl rfl (lk1 rfl <| lk0) (lk0)) ?_
     refine WL_q rfl (q_move (lk0)) ?_
     refine WL_want rfl rfl (lk0) rfl ?_
     refine WL_q rfl (q_move (lk4 rfl <| lk_off rfl <| lk_off rfl <| lk4 rfl <| lk_off rfl <| lk2 rfl <| lk1 rfl <| lk0)) ?_
     refine WL_want rfl rfl (lk1 rfl <| lk0) rfl ?_
     refine WL_q rfl (q_loadN agg_147 (lk4 rfl <| lk1 rfl <| lk_off rfl <| lk_in rfl hc8) rfl rfl (own_whole 0 rfl)) ?_
     refine WL_want rfl rfl (lk2 rfl <| lk0) rfl ?_
     refine WL_q rfl (q_lookupS mapT (lk1 rfl <| lk0) (lk0) (i := 2) rfl isA (all_snoc hall isA) (nd_snoc hnd hno) snoc_at) ?_
     refine WL_want rfl rfl (lk2 rfl <| lk1 rfl <| lk0) rfl ?_
     refine WL_q rfl (q_gtr (lk0) lk_const) ?_
     refine WL_q rfl (q_pick_false (lk4 rfl <| lk0) rfl (lk0)) ?_
     refine WL_nil ?_
     refine then_n ?_
     refine WC_if_false (lk0) (by decide) ?_
     refine WC_skip ?_
     refine then_n ?_
     refine WC_seq ?_
     rcases keys_or (es := ((ents r (l.take k)) ++ [((cl false (r.reader l[k])), one)])) (cl true (r.book l[k])) with hno2 | ⟨j2, u2, hj2⟩
     ·
      refine WC_cut [52, 53, 54, 55, 56, 57] (fun s σ => σ = ⟨F, [(p8, bx 147 [.bool false, .int .i64 (r.reader l[k])]), (p9, bx 147 [.bool true, .int .i64 (r.book l[k])]), (b1, mapO (((ents r (l.take k)) ++ [((cl false (r.reader l[k])), one)]) ++ [((cl true (r.book l[k])), one)]))]⟩) ?_ ?_
      ·
       refine WC_drawS (.inl rfl) (fun _ _ h => h) (.cons_cons _ <| .cons_cons _ <| .cons _ <| .refl _) [6] (by kernel_rfl) fun ds => ?_
       refine WX_take 0 rfl (by kernel_rfl) (by kernel_rfl) (by kernel_rfl) (by kernel_rfl) rfl rfl (fun _ h => h.drop (.cons_cons _ <| .cons_cons _ <| .cons _ <| .refl _)) (fun _ _ _ h => h) (q_move (lk8 rfl <| lk1 rfl <| lk_off rfl <| lk_off rfl <| lk4 rfl <| lk_off rfl <| lk2 rfl <| lk1 rfl <| lk0)) ?_
       refine WX_take 1 rfl (by kernel_rfl) (by kernel_rfl) (by kernel_rfl) (by kernel_rfl) rfl rfl (fun _ h => h.drop (.cons_cons _ <| .cons_cons _ <| .cons _ <| .refl _)) (fun _ _ _ h => h) (q_loadN agg_147 (lk8 rfl <| lk2 rfl <| lk_off rfl <| lk_in rfl hc9) rfl rfl (own_whole 1 rfl)) ?_
       refine WX_pick [2, 4] (by kernel_rfl) (by decide) (in2 ?_ ?_)
       ·
        refine WXop_x rfl rfl (x_quiet (q_lookupN mapT (lk1 rfl <| lk0) (lk0) (i := 2) rfl isB (all_snoc hall isA) hno2).quiet ⟨fun _ _ => (fun _ h => h.drop (.cons_cons _ <| .cons_cons _ <| .cons _ <| .refl _)), ?_⟩)
        refine WX_take 3 rfl (by kernel_rfl) (by kernel_rfl) (by kernel_rfl) (by kernel_rfl) rfl rfl (fun _ h => h.drop (.cons_cons _ <| .cons_cons _ <| .cons _ <| .refl _)) (fun _ _ _ h => h) (q_add (lk0) lk_const rfl (by omega) (by omega)) ?_
        refine WX_x 4 rfl (by kernel_rfl) rfl (x_entryN mapT (lk2 rfl <| lk1 rfl <| lk0) (lk2 rfl <| lk0) (i := 2) rfl isB (all_snoc hall isA) hno2 (.next <| .next <| .here) ⟨fun _ _ => (fun _ h => h.drop (.cons_cons _ <| .cons_cons _ <| .cons _ <| .refl _)), ?_⟩)
        refine WX_take 5 rfl (by kernel_rfl) (by kernel_rfl) (by kernel_rfl) (by kernel_rfl) rfl rfl (fun _ h => h.drop (.cons_cons _ <| .cons_cons _ <| .cons _ <| .refl _)) (fun _ _ _ h => h) (q_extract (lk0) rfl) ?_
        refine WX_x0 6 rfl (by kernel_rfl) (x_entryStore (lk4 rfl <| lk1 rfl <| lk0) (lk0) (lk2 rfl <| lk0) (i := 2) rfl (congrArg (Option.map (·.1)) snoc_at) (.next <| .next <| .here) ⟨(fun h => nomatch h), ?_⟩)
        refine WX_done (by kernel_rfl) ?_ _
        refine then_n ⟨_, Off.eq (ou4 rfl <| ou2 rfl <| off_refl), ?_⟩
        rw [snoc_set]; rfl
       ·
        refine WXop_x rfl rfl (x_entryN mapT (lk1 rfl <| lk0) (lk0) (i := 2) rfl isB (all_snoc hall isA) hno2 (.next <| .next <| .here) ⟨fun _ _ => (fun _ h => h.drop (.cons_cons _ <| .cons_cons _ <| .cons _ <| .refl _)), ?_⟩)
        refine WX_take 5 rfl (by kernel_rfl) (by kernel_rfl) (by kernel_rfl) (by kernel_rfl) rfl rfl (fun _ h => h.drop (.cons_cons _ <| .cons_cons _ <| .cons _ <| .refl _)) (fun _ _ _ h => h) (q_extract (lk0) rfl) ?_
        refine WX_x 2 rfl (by kernel_rfl) rfl (x_quiet (q_lookupS mapT (lk2 rfl <| lk1 rfl <| lk0) (lk2 rfl <| lk0) (i := 2) rfl isB (all_snoc (all_snoc hall isA) isB) (nd_snoc (nd_snoc hnd hno) hno2) snoc_at).quiet ⟨fun _ _ => (fun _ h => h.drop (.cons_cons _ <| .cons_cons _ <| .cons _ <| .refl _)), ?_⟩)
        refine WX_take 3 rfl (by kernel_rfl) (by kernel_rfl) (by kernel_rfl) (by kernel_rfl) rfl rfl (fun _ h => h.drop (.cons_cons _ <| .cons_cons _ <| .cons _ <| .refl _)) (fun _ _ _ h => h) (q_add (lk0) lk_const rfl (by omega) (by omega)) ?_
        refine WX_x0 6 rfl (by kernel_rfl) (x_entryStore (lk4 rfl <| lk1 rfl <| lk0) (lk2 rfl <| lk0) (lk0) (i := 2) rfl (congrArg (Option.map (·.1)) snoc_at) (.next <| .next <| .here) ⟨(fun h => nomatch h), ?_⟩)
        refine WX_done (by kernel_rfl) ?_ _
        refine then_n ⟨_, Off.eq (ou4 rfl <| ou2 rfl <| off_refl), ?_⟩
        rw [snoc_set]; rfl
      rintro e19 _ rfl
      refine WC_seq ?_
      refine WC_reg fun ds => ?_
      refine WL_q rfl (q_move (lk_off rfl <| lk8 rfl <| lk1 rfl <| lk_off rfl <| lk_off rfl <| lk4 rfl <| lk_off rfl <| lk2 rfl <| lk1 rfl <| lk0)) ?_
      refine WL_q rfl (q_loadN agg_147 (lk1 rfl <| lk_off rfl <| lk8 rfl <| lk1 rfl <| lk_off rfl <| lk_in rfl hc9) rfl rfl (own_whole 1 rfl)) ?_
      refine WL_q rfl (q_lookupS mapT (lk1 rfl <| lk0) (lk0) (i := 2) rfl isB (all_snoc (all_snoc hall isA) isB) (nd_snoc (nd_snoc hnd hno) hno2) snoc_at) ?_
      refine WL_q rfl (q_gtr (lk0) lk_const) ?_
      refine WL_nil ?_
      refine then_n ?_
      refine WC_if_false (lk0) (by decide) ?_
      refine WC_skip ?_
      refine block_n (then_n ?_)
      refine WC_imp (fun _ _ h => h.drop (.cons _ <| .cons _ <| .cons_cons _ <| .refl _)) ?_
      refine WC_reg fun ds => ?_
      refine WL_q rfl (q_add (lk4 rfl <| lk_off rfl <| lk8 rfl <| lk1 rfl <| lk_off rfl <| lk_off rfl <| lk4 rfl <| lk_in rfl hs13) lk_const rfl (by omega) (by omega)) ?_
      refine WL_q rfl (q_move (lk0)) ?_
      refine WL_nil ?_
      refine then_n ⟨_, m - 1, Off.eq (ou4 rfl <| ou2 rfl <| off_in rfl <| ou8 rfl <| ou1 rfl <| off_in rfl <| off_in rfl <| ou4 rfl <| off_over), by omega, ?_⟩
      have htake : l.take (k + 1) = l.take k ++ [l[k]] := List.take_succ_eq_append_getElem hlt
      refine ⟨k + 1, by omega, (lk0), apart_take hlt hap fun j hj => ⟨new_reader hno j hj, new_book hno2 j hj⟩, ?_, ?_, ?_⟩
      · rw [htake, ents_snoc]; exact (all_snoc (all_snoc hall isA) isB)
      · rw [htake, ents_snoc]; exact (nd_snoc (nd_snoc hnd hno) hno2)
      · rw [htake, ents_snoc]
     ·
      obtain ⟨rfl, q, hq, hqb⟩ := old_book hj2
      have hna : ¬ Apart r l := not_apart_take hlt hq (fun h => h.2 hqb)
      refine WC_cut [52, 53, 54, 55, 56, 57] (fun s σ => σ = ⟨F, [(p8, bx 147 [.bool false, .int .i64 (r.reader l[k])]), (p9, bx 147 [.bool true, .int .i64 (r.book l[k])]), (b1, mapO (((ents r (l.take k)) ++ [((cl false (r.reader l[k])), one)]).set j2 ((cl true (r.book l[k])), .int .i64 2)))]⟩) ?_ ?_
      ·
       refine WC_drawS (.inl rfl) (fun _ _ h => h) (.cons_cons _ <| .cons_cons _ <| .cons _ <| .refl _) [6] (by kernel_rfl) fun ds => ?_
       refine WX_take 0 rfl (by kernel_rfl) (by kernel_rfl) (by kernel_rfl) (by kernel_rfl) rfl rfl (fun _ h => h.drop (.cons_cons _ <| .cons_cons _ <| .cons _ <| .refl _)) (fun _ _ _ h => h) (q_move (lk8 rfl <| lk1 rfl <| lk_off rfl <| lk_off rfl <| lk4 rfl <| lk_off rfl <| lk2 rfl <| lk1 rfl <| lk0)) ?_
       refine WX_take 1 rfl (by kernel_rfl) (by kernel_rfl) (by kernel_rfl) (by kernel_rfl) rfl rfl (fun _ h => h.drop (.cons_cons _ <| .cons_cons _ <| .cons _ <| .refl _)) (fun _ _ _ h => h) (q_loadN agg_147 (lk8 rfl <| lk2 rfl <| lk_off rfl <| lk_in rfl hc9) rfl rfl (own_whole 1 rfl)) ?_
       refine WX_pick [2, 4] (by kernel_rfl) (by decide) (in2 ?_ ?_)
       ·
        refine WXop_x rfl rfl (x_quiet (q_lookupS mapT (lk1 rfl <| lk0) (lk0) (i := 2) rfl isB (all_snoc hall isA) (nd_snoc hnd hno) hj2).quiet ⟨fun _ _ => (fun _ h => h.drop (.cons_cons _ <| .cons_cons _ <| .cons _ <| .refl _)), ?_⟩)
        refine WX_take 3 rfl (by kernel_rfl) (by kernel_rfl) (by kernel_rfl) (by kernel_rfl) rfl rfl (fun _ h => h.drop (.cons_cons _ <| .cons_cons _ <| .cons _ <| .refl _)) (fun _ _ _ h => h) (q_add (lk0) lk_const rfl (by omega) (by omega)) ?_
        refine WX_x 4 rfl (by kernel_rfl) rfl (x_entryS mapT (lk2 rfl <| lk1 rfl <| lk0) (lk2 rfl <| lk0) (i := 2) rfl isB (all_snoc hall isA) (nd_snoc hnd hno) hj2 ⟨fun _ _ => (fun _ h => h.drop (.cons_cons _ <| .cons_cons _ <| .cons _ <| .refl _)), ?_⟩)
        refine WX_take 5 rfl (by kernel_rfl) (by kernel_rfl) (by kernel_rfl) (by kernel_rfl) rfl rfl (fun _ h => h.drop (.cons_cons _ <| .cons_cons _ <| .cons _ <| .refl _)) (fun _ _ _ h => h) (q_extract (lk0) rfl) ?_
        refine WX_x0 6 rfl (by kernel_rfl) (x_entryStore (lk4 rfl <| lk1 rfl <| lk0) (lk0) (lk2 rfl <| lk0) (i := 2) rfl (congrArg (Option.map (·.1)) hj2) (.next <| .next <| .here) ⟨(fun h => nomatch h), ?_⟩)
        refine WX_done (by kernel_rfl) ?_ _
        refine then_n ⟨_, Off.eq (ou4 rfl <| ou2 rfl <| off_refl), ?_⟩
        rfl
       ·
        refine WXop_x rfl rfl (x_entryS mapT (lk1 rfl <| lk0) (lk0) (i := 2) rfl isB (all_snoc hall isA) (nd_snoc hnd hno) hj2 ⟨fun _ _ => (fun _ h => h.drop (.cons_cons _ <| .cons_cons _ <| .cons _ <| .refl _)), ?_⟩)
        refine WX_take 5 rfl (by kernel_rfl) (by kernel_rfl) (by kernel_rfl) (by kernel_rfl) rfl rfl (fun _ h => h.drop (.cons_cons _ <| .cons_cons _ <| .cons _ <| .refl _)) (fun _ _ _ h => h) (q_extract (lk0) rfl) ?_
        refine WX_x 2 rfl (by kernel_rfl) rfl (x_quiet (q_lookupS mapT (lk2 rfl <| lk1 rfl <| lk0) (lk2 rfl <| lk0) (i := 2) rfl isB (all_snoc hall isA) (nd_snoc hnd hno) hj2).quiet ⟨fun _ _ => (fun _ h => h.drop (.cons_cons _ <| .cons_cons _ <| .cons _ <| .refl _)), ?_⟩)
        refine WX_take 3 rfl (by kernel_rfl) (by kernel_rfl) (by kernel_rfl) (by kernel_rfl) rfl rfl (fun _ h => h.drop (.cons_cons _ <| .cons_cons _ <| .cons _ <| .refl _)) (fun _ _ _ h => h) (q_add (lk0) lk_const rfl (by omega) (by omega)) ?_
        refine WX_x0 6 rfl (by kernel_rfl) (x_entryStore (lk4 rfl <| lk1 rfl <| lk0) (lk2 rfl <| lk0) (lk0) (i := 2) rfl (congrArg (Option.map (·.1)) hj2) (.next <| .next <| .here) ⟨(fun h => nomatch h), ?_⟩)
        refine WX_done (by kernel_rfl) ?_ _
        refine then_n ⟨_, Off.eq (ou4 rfl <| ou2 rfl <| off_refl), ?_⟩
        rfl
      rintro e19 _ rfl
      refine WC_seq ?_
      refine WC_reg fun ds => ?_
      refine WL_q rfl (q_move (lk_off rfl <| lk8 rfl <| lk1 rfl <| lk_off rfl <| lk_off rfl <| lk4 rfl <| lk_off rfl <| lk2 rfl <| lk1 rfl <| lk0)) ?_
      refine WL_q rfl (q_loadN agg_147 (lk1 rfl <| lk_off rfl <| lk8 rfl <| lk1 rfl <| lk_off rfl <| lk_in rfl hc9) rfl rfl (own_whole 1 rfl)) ?_
      refine WL_q rfl (q_lookupS mapT (lk1 rfl <| lk0) (lk0) (i := 2) rfl isB (all_set (all_snoc hall isA) hj2) (nd_set (nd_snoc hnd hno) hj2) (set_at hj2)) ?_
      refine WL_q rfl (q_gtr (lk0) lk_const) ?_
      refine WL_nil ?_
      refine then_n ?_
      refine WC_if_true (lk0) (by decide) ?_
      refine WC_seq ?_
      refine WC_reg fun ds => ?_
      refine WL_q rfl (q_assign lk_const) ?_
      refine WL_nil ?_
      refine then_n ?_
      refine WC_ret ?_
      refine block_r (then_r (then_r (block_r (then_r ?_))))
      refine post_ret rfl (.tmp (lk0) .nil) ?_
      show _ = _
      rw [decide_eq_false hna]; rfl
    ·
     obtain ⟨rfl, q, hq, hqr⟩ := old_reader hj
     have hna : ¬ Apart r l := not_apart_take hlt hq (fun h => h.1 hqr)
     refine WC_cut [37, 38, 39, 40, 41, 42] (fun s σ => σ = ⟨F, [(p8, bx 147 [.bool false, .int .i64 (r.reader l[k])]), (p9, bx 147 [.bool true, .int .i64 (r.book l[k])]), (b1, mapO ((ents r (l.take k)).set j ((cl false (r.reader l[k])), .int .i64 2)))]⟩) ?_ ?_
     ·
      refine WC_drawS (.inl rfl) (fun _ _ h => h) (.cons_cons _ <| .cons_cons _ <| .cons _ <| .refl _) [6] (by kernel_rfl) fun ds => ?_
      refine WX_take 0 rfl (by kernel_rfl) (by kernel_rfl) (by kernel_rfl) (by kernel_rfl) rfl rfl (fun _ h => h.drop (.cons_cons _ <| .cons_cons _ <| .cons _ <| .refl _)) (fun _ _ _ h => h) (q_move (lk_off rfl <| lk4 rfl <| lk_off rfl <| lk2 rfl <| lk1 rfl <| lk0)) ?_
      refine WX_take 1 rfl (by kernel_rfl) (by kernel_rfl) (by kernel_rfl) (by kernel_rfl) rfl rfl (fun _ h => h.drop (.cons_cons _ <| .cons_cons _ <| .cons _ <| .refl _)) (fun _ _ _ h => h) (q_loadN agg_147 (lk1 rfl <| lk_in rfl hc8) rfl rfl (own_whole 0 rfl)) ?_
      refine WX_pick [2, 4] (by kernel_rfl) (by decide) (in2 ?_ ?_)
      ·
       refine WXop_x rfl rfl (x_quiet (q_lookupS mapT (lk1 rfl <| lk0) (lk0) (i := 2) rfl isA hall hnd hj).quiet ⟨fun _ _ => (fun _ h => h.drop (.cons_cons _ <| .cons_cons _ <| .cons _ <| .refl _)), ?_⟩)
       refine WX_take 3 rfl (by kernel_rfl) (by kernel_rfl) (by kernel_rfl) (by kernel_rfl) rfl rfl (fun _ h => h.drop (.cons_cons _ <| .cons_cons _ <| .cons _ <| .refl _)) (fun _ _ _ h => h) (q_add (lk0) lk_const rfl (by omega) (by omega)) ?_
       refine WX_x 4 rfl (by kernel_rfl) rfl (x_entryS mapT (lk2 rfl <| lk1 rfl <| lk0) (lk2 rfl <| lk0) (i := 2) rfl isA hall hnd hj ⟨fun _ _ => (fun _ h => h.drop (.cons_cons _ <| .cons_cons _ <| .cons _ <| .refl _)), ?_⟩)
       refine WX_take 5 rfl (by kernel_rfl) (by kernel_rfl) (by kernel_rfl) (by kernel_rfl) rfl rfl (fun _ h => h.drop (.cons_cons _ <| .cons_cons _ <| .cons _ <| .refl _)) (fun _ _ _ h => h) (q_extract (lk0) rfl) ?_
       refine WX_x0 6 rfl (by kernel_rfl) (x_entryStore (lk4 rfl <| lk1 rfl <| lk0) (lk0) (lk2 rfl <| lk0) (i := 2) rfl (congrArg (Option.map (·.1)) hj) (.next <| .next <| .here) ⟨(fun h => nomatch h), ?_⟩)
       refine WX_done (by kernel_rfl) ?_ _
       refine then_n ⟨_, Off.eq (ou4 rfl <| ou2 rfl <| off_refl), ?_⟩
       rfl
      ·
       refine WXop_x rfl rfl (x_entryS mapT (lk1 rfl <| lk0) (lk0) (i := 2) rfl isA hall hnd hj ⟨fun _ _ => (fun _ h => h.drop (.cons_cons _ <| .cons_cons _ <| .cons _ <| .refl _)), ?_⟩)
       refine WX_take 5 rfl (by kernel_rfl) (by kernel_rfl) (by kernel_rfl) (by kernel_rfl) rfl rfl (fun _ h => h.drop (.cons_cons _ <| .cons_cons _ <| .cons _ <| .refl _)) (fun _ _ _ h => h) (q_extract (lk0) rfl) ?_
       refine WX_x 2 rfl (by kernel_rfl) rfl (x_quiet (q_lookupS mapT (lk2 rfl <| lk1 rfl <| lk0) (lk2 rfl <| lk0) (i := 2) rfl isA hall hnd hj).quiet ⟨fun _ _ => (fun _ h => h.drop (.cons_cons _ <| .cons_cons _ <| .cons _ <| .refl _)), ?_⟩)
       refine WX_take 3 rfl (by kernel_rfl) (by kernel_rfl) (by kernel_rfl) (by kernel_rfl) rfl rfl (fun _ h => h.drop (.cons_cons _ <| .cons_cons _ <| .cons _ <| .refl _)) (fun _ _ _ h => h) (q_add (lk0) lk_const rfl (by omega) (by omega)) ?_
       refine WX_x0 6 rfl (by kernel_rfl) (x_entryStore (lk4 rfl <| lk1 rfl <| lk0) (lk2 rfl <| lk0) (lk0) (i := 2) rfl (congrArg (Option.map (·.1)) hj) (.next <| .next <| .here) ⟨(fun h => nomatch h), ?_⟩)
       refine WX_done (by kernel_rfl) ?_ _
       refine then_n ⟨_, Off.eq (ou4 rfl <| ou2 rfl <| off_refl), ?_⟩
       rfl
     rintro e16 _ rfl
     refine WC_seq ?_
     refine WC_reg fun ds => ?_
     refine WL_q rfl (q_loadN agg_147 (lk_off rfl <| lk_in rfl hc8) rfl rfl (own_whole 0 rfl)) ?_
     refine WL_q rfl (q_loadN agg_147 (lk1 rfl <| lk_off rfl <| lk_in rfl hc9) rfl rfl (own_whole 1 rfl)) ?_
     refine WL_q rfl (q_eql2 Try.underlying147 stood guardT (by decide) (by decide) rfl rfl Try.underlying4 Try.underlying3 oneB_ oneZ_ (d0 := 0) (d1 := 0) rfl rfl (lk1 rfl <| lk0) (lk0)) ?_
     refine WL_q rfl (q_move (lk0)) ?_
     refine WL_want rfl rfl (lk0) rfl ?_
     refine WL_q rfl (q_move (lk4 rfl <| lk_off rfl <| lk_off rfl <| lk4 rfl <| lk_off rfl <| lk2 rfl <| lk1 rfl <| lk0)) ?_
     refine WL_want rfl rfl (lk1 rfl <| lk0) rfl ?_
     refine WL_q rfl (q_loadN agg_147 (lk4 rfl <| lk1 rfl <| lk_off rfl <| lk_in rfl hc8) rfl rfl (own_whole 0 rfl)) ?_
     refine WL_want rfl rfl (lk2 rfl <| lk0) rfl ?_
     refine WL_q rfl (q_lookupS mapT (lk1 rfl <| lk0) (lk0) (i := 2) rfl isA (all_set hall hj) (nd_set hnd hj) (set_at hj)) ?_
     refine WL_want rfl rfl (lk2 rfl <| lk1 rfl <| lk0) rfl ?_
     refine WL_q rfl (q_gtr (lk0) lk_const) ?_
     refine WL_q rfl (q_pick_false (lk4 rfl <| lk0) rfl (lk0)) ?_
     refine WL_nil ?_
     refine then_n ?_
     refine WC_if_true (lk0) (by decide) ?_
     refine WC_seq ?_
     refine WC_reg fun ds => ?_
     refine WL_q rfl (q_assign lk_const) ?_
     refine WL_nil ?_
     refine then_n ?_
     refine WC_ret ?_
     refine then_r (block_r (then_r (then_r (block_r (then_r ?_)))))
     refine post_ret rfl (.tmp (lk0) .nil) ?_
     show _ = _
     rw [decide_eq_false hna]; rfl
   ·
    refine WC_seq ?_
    refine WC_reg fun ds => ?_
    refine WL_q rfl (q_lss (lk_in rfl hs13) (lk_off rfl <| lk1 rfl <| lk0)) ?_
    refine WL_nil ?_
    refine then_n ?_
    refine WC_seq ?_
    refine WC_if_false (lk0) (by first | rfl | exact decide_eq_false (by omega)) ?_
    have hk : l.take k = l := List.take_of_length_le (by omega)
    refine WC_exit ?_
    refine then_x (then_x (exit_here ?_))
    refine then_n ?_
    refine WC_seq ?_
    refine WC_reg fun ds => ?_
    refine WL_q rfl (q_assign lk_const) ?_
    refine WL_nil ?_
    refine then_n ?_
    refine WC_ret ?_
    refine post_ret rfl (.tmp (lk0) .nil) ?_
    show _ = _
    rw [decide_eq_true (hk ▸ hap)]; rfl
end Go.Proofs.Ytbcjfkcpfjccdaa
namespace Go.Proofs.Ytbcjfkcpfjccdaa
open Go.RowKit
theorem bd_90 : Body Try.prog 90 := body_of (by kernel_rfl)
theorem one_144 : OneT Try.prog 144 := oneT_of (by kernel_rfl)
theorem sz_29 : SizeT Try.prog 29 1 := sizeT_of (by kernel_rfl)
set_option maxRecDepth 100000 in
theorem next_nil {F : Heap} {b c1 c8 c3 : Nat} {vb vr vs vq vl : Value} {r : Room} {v : Value} {l : List Nat} {bl bb bo co d2 d3 d7 n : Nat} (hN : NextX num 29 144 90 F b c1 c8 c3 vb vr vs vq vl r v l bl bb bo co d2 d3 d7 n) (hv : Valid r) (hlt2 : ∀ i ∈ l, i < r.reqs.length) (hn8 : n ≤ 8) {i : Nat} {pre : List Nat} {own : List Value} {ub : Value} {L sum : Int} {mask : Nat} {best : Option (List Nat × Int)} (hp : pre.length = i) (ho : own.length = n) (ht : own.take i = pre.flatMap natE) (hB : BestC F best ub L) (hm : ∀ s, mask.testBit s = decide (s ∈ pre)) (hm6 : mask < 64) (hs0 : 0 ≤ sum) (hs1 : sum ≤ 1200 * i) (hi : i = n) : OkM Try.prog 90 [.int .i64 i, .int .i64 mask, .int .i64 sum, .pointer (some ⟨bl, 0, none⟩), .pointer (some ⟨co, 0, none⟩), .pointer (some ⟨bb, 0, none⟩), .pointer (some ⟨d2, 0, none⟩), .pointer (some ⟨d3, 0, none⟩), .pointer (some ⟨d7, 0, none⟩)].toArray F [(bl, bx 3 [.int .i64 L]), (bb, bx 29 [ub]), (bo, bx 3 own)] fun _ F' H' => ∃ ub' own' L', H' = [(bl, bx 3 [.int .i64 L']), (bb, bx 29 [ub']), (bo, bx 3 own')] ∧ own'.length = n ∧ own'.take i = pre.flatMap natE ∧ BestC F' (search r (l.drop i) pre sum best) ub' L' := by
  refine OkM.intro Try.func90 rfl Try.ntmps90 rfl fun w0 => ?_
  have hown : own = pre.flatMap natE := by rw [← ht]; exact (List.take_of_length_le (by omega)).symm
  refine WC_seq ?_
  refine WC_seq ?_
  refine WC_cut [13, 14, 15, 16, 17, 18, 19] (fun s σ => s 19 = .bool (decide (0 ≤ L ∧ L ≤ sum)) ∧ σ = ⟨F, [(bl, bx 3 [.int .i64 L]), (bb, bx 29 [ub]), (bo, bx 3 own)]⟩) ?_ ?_
  ·
   by_cases h0L : 0 ≤ L
   ·
    refine WC_reg fun ds => ?_
    refine WL_q rfl (q_load1 one_3 (lk_entry rfl) (Cell.own 0 rfl rfl)) ?_
    refine WL_q rfl (q_geq (lk0) lk_const) ?_
    refine WL_q rfl (q_move (lk0)) ?_
    refine WL_want rfl rfl (lk0) (decide_eq_true h0L) ?_
    refine WL_q rfl (q_move (lk2 rfl <| lk1 rfl <| lk_entry rfl)) ?_
    refine WL_want rfl rfl (lk1 rfl <| lk0) (decide_eq_true h0L) ?_
    refine WL_q rfl (q_load1 one_3 (lk4 rfl <| lk_entry rfl) (Cell.own 0 rfl rfl)) ?_
    refine WL_want rfl rfl (lk2 rfl <| lk0) (decide_eq_true h0L) ?_
    refine WL_q rfl (q_geq (lk1 rfl <| lk0) (lk0)) ?_
    refine WL_q rfl (q_pick_true (lk2 rfl <| lk1 rfl <| lk0) (decide_eq_true h0L) (lk0)) ?_
    refine WL_nil ?_
    refine then_n ⟨_, Off.eq (ou4 rfl <| ou2 rfl <| ou1 rfl <| off_refl), ?_⟩
    exact ⟨((lk0)).trans (by simp [h0L]), rfl⟩
   ·
    refine WC_reg fun ds => ?_
    refine WL_q rfl (q_load1 one_3 (lk_entry rfl) (Cell.own 0 rfl rfl)) ?_
    refine WL_q rfl (q_geq (lk0) lk_const) ?_
    refine WL_q rfl (q_move (lk0)) ?_
    refine WL_pass rfl rfl (lk0) (.inl (congrArg Value.bool (decide_eq_false h0L))) rfl ?_
    refine WL_pass rfl rfl (lk1 rfl <| lk0) (.inl (congrArg Value.bool (decide_eq_false h0L))) rfl ?_
    refine WL_pass rfl rfl (lk2 rfl <| lk0) (.inl (congrArg Value.bool (decide_eq_false h0L))) rfl ?_
    refine WL_q rfl (q_pick_false (lk2 rfl <| lk1 rfl <| lk0) (decide_eq_false h0L) lk_const) ?_
    refine WL_nil ?_
    refine then_n ⟨_, Off.eq (ou4 rfl <| ou2 rfl <| ou1 rfl <| off_refl), ?_⟩
    exact ⟨((lk0)).trans (by simp [h0L]), rfl⟩
  rintro e1 _ ⟨hc19, rfl⟩
  by_cases hc : 0 ≤ L ∧ L ≤ sum
  ·
   refine WC_if_true (lk_in rfl hc19) (decide_eq_true hc) ?_
   refine WC_ret ?_
   refine then_r ?_
   refine post_retM rfl .nil (.cons (.here) <| .cons (.here) <| .cons (.here) <| .nil) rfl ?_
   exact ⟨_, _, _, rfl, ho, ht, by rw [search_cut (hB.cut.2 hc)]; exact hB⟩
  ·
   refine WC_if_false (lk_in rfl hc19) (decide_eq_false hc) ?_
   refine WC_skip ?_
   refine then_n ?_
   refine WC_seq ?_
   refine WC_seq ?_
   refine WC_reg fun ds => ?_
   refine WL_q rfl (q_move (lk_off rfl <| lk_entry rfl)) ?_
   refine WL_q rfl (q_load1 one_29 (lk1 rfl <| lk_off rfl <| lk_entry rfl) (CellF.own hN.own rfl).cell) ?_
   refine WL_q rfl (q_len sl_29 (lk0)) ?_
   refine WL_q rfl (q_eql (lk2 rfl <| lk0) (lk0)) ?_
   refine WL_nil ?_
   refine then_n ?_
   refine WC_if_true (lk0) (decide_eq_true (by omega)) ?_
   refine WC_seq ?_
   refine WC_reg fun ds => ?_
   refine WL_q rfl (q_load1 one_29 (lk4 rfl <| lk_off rfl <| lk_entry rfl) (CellF.own hN.own rfl).cell) ?_
   refine WL_q rfl (q_len sl_29 (lk0)) ?_
   refine WL_x rfl (x_make (k := n) sl_29 el_3 rfl rfl (lk0) (lk0) rfl (by omega) (by omega) fun b1 hb1 nb1 => ?_)
   refine WL_x0 (x_store1 sz_29 (lk4 rfl <| lk2 rfl <| lk1 rfl <| lk_off rfl <| lk_entry rfl) (lk0) (i := 2) rfl (.here) rfl (.next <| .next <| .here) ?_)
   refine WL_nil ?_
   refine then_n ?_
   refine WC_seq ?_
   refine WC_reg fun ds => ?_
   refine WL_q rfl (q_load1 one_29 (lk4 rfl <| lk2 rfl <| lk1 rfl <| lk_off rfl <| lk_entry rfl) (Cell.own 2 rfl rfl)) ?_
   refine WL_q rfl (q_load1 one_29 (lk8 rfl <| lk_off rfl <| lk_entry rfl) (CellF.own hN.own rfl).cell) ?_
   refine WL_x rfl (x_copy (s := 1) rfl sl_29 (lk1 rfl <| lk0) (lk0) (i := 0) rfl (by simp) (src_box (s := 1) 3 rfl (by omega) (by rw [hown]; exact natsE_one)) (.here) ?_)
   refine WL_nil ?_
   refine then_n ?_
   refine WC_seq ?_
   refine WC_freeze (i := 0) rfl hb1 (.here) fun F2 hF3 hz26 => ?_
   replace hN := hN.mono hF3
   replace hB := hB.mono hF3
   refine WC_reg fun ds => ?_
   refine WL_q rfl (q_move (lk8 rfl <| lk2 rfl <| lk_off rfl <| lk_entry rfl)) ?_
   refine WL_x0 (x_store1 sz_3 (lk8 rfl <| lk2 rfl <| lk1 rfl <| lk_off rfl <| lk_entry rfl) (lk0) (i := 0) rfl (.here) rfl (.here) ?_)
   refine WL_nil ?_
   refine then_n ?_
   refine WC_ret ?_
   refine then_r ?_
   refine post_retM rfl .nil (.cons (.here) <| .cons (.here) <| .cons (.here) <| .nil) rfl ?_
   refine ⟨_, _, _, rfl, ho, ht, ?_⟩
   rw [show l.drop i = [] from List.drop_of_length_le (by have := hN.len; omega), search_nil (fun h => hc (hB.cut.1 h))]
   exact BestC.mk' (nats_box (l := pre) (by rw [← hown]; exact hz26) (by omega) (by omega)) hs0
def NextOk (r : Room) (b c1 c8 c3 : Nat) (vb vr vs vq vl v : Value) (l : List Nat) (bl bb bo co d2 d3 d7 n i : Nat) : Prop :=
  ∀ {F : Heap} {pre : List Nat} {own : List Value} {ub : Value} {L sum : Int} {mask : Nat} {best : Option (List Nat × Int)}, NextX num 29 144 90 F b c1 c8 c3 vb vr vs vq vl r v l bl bb bo co d2 d3 d7 n → pre.length = i → own.length = n → own.take i = pre.flatMap natE → BestC F best ub L → (∀ s, mask.testBit s = decide (s ∈ pre)) → mask < 64 → 0 ≤ sum → sum ≤ 1200 * i →
    OkM Try.prog 90 [.int .i64 i, .int .i64 mask, .int .i64 sum, .pointer (some ⟨bl, 0, none⟩), .pointer (some ⟨co, 0, none⟩), .pointer (some ⟨bb, 0, none⟩), .pointer (some ⟨d2, 0, none⟩), .pointer (some ⟨d3, 0, none⟩), .pointer (some ⟨d7, 0, none⟩)].toArray F [(bl, bx 3 [.int .i64 L]), (bb, bx 29 [ub]), (bo, bx 3 own)] (fun _ F' H' => ∃ ub' own' L', H' = [(bl, bx 3 [.int .i64 L']), (bb, bx 29 [ub']), (bo, bx 3 own')] ∧ own'.length = n ∧ own'.take i = pre.flatMap natE ∧ BestC F' (search r (l.drop i) pre sum best) ub' L')
set_option maxRecDepth 100000 in
theorem next_step {F : Heap} {b c1 c8 c3 : Nat} {vb vr vs vq vl : Value} {r : Room} {v : Value} {l : List Nat} {bl bb bo co d2 d3 d7 n : Nat} (hN : NextX num 29 144 90 F b c1 c8 c3 vb vr vs vq vl r v l bl bb bo co d2 d3 d7 n) (hv : Valid r) (hlt2 : ∀ i ∈ l, i < r.reqs.length) (hn8 : n ≤ 8) {i : Nat} {pre : List Nat} {own : List Value} {ub : Value} {L sum : Int} {mask : Nat} {best : Option (List Nat × Int)} (hp : pre.length = i) (ho : own.length = n) (ht : own.take i = pre.flatMap natE) (hB : BestC F best ub L) (hm : ∀ s, mask.testBit s = decide (s ∈ pre)) (hm6 : mask < 64) (hs0 : 0 ≤ sum) (hs1 : sum ≤ 1200 * i) (hi : i < n) (ih : NextOk r b c1 c8 c3 vb vr vs vq vl v l bl bb bo co d2 d3 d7 n (i + 1)) : OkM Try.prog 90 [.int .i64 i, .int .i64 mask, .int .i64 sum, .pointer (some ⟨bl, 0, none⟩), .pointer (some ⟨co, 0, none⟩), .pointer (some ⟨bb, 0, none⟩), .pointer (some ⟨d2, 0, none⟩), .pointer (some ⟨d3, 0, none⟩), .pointer (some ⟨d7, 0, none⟩)].toArray F [(bl, bx 3 [.int .i64 L]), (bb, bx 29 [ub]), (bo, bx 3 own)] fun _ F' H' => ∃ ub' own' L', H' = [(bl, bx 3 [.int .i64 L']), (bb, bx 29 [ub']), (bo, bx 3 own')] ∧ own'.length = n ∧ own'.take i = pre.flatMap natE ∧ BestC F' (search r (l.drop i) pre sum best) ub' L' := by
  refine OkM.intro Try.func90 rfl Try.ntmps90 rfl fun w0 => ?_
  have hin : i < l.length := by have := hN.len; omega
  obtain ⟨q, hqe⟩ : ∃ q, l[i] = q := ⟨_, rfl⟩
  have hq : q < r.reqs.length := by rw [← hqe]; exact hlt2 _ (List.getElem_mem hin)
  have hq8 : q < 8 := by have := hv.nq; omega
  have hdrop : l.drop i = q :: l.drop (i + 1) := by rw [List.drop_eq_getElem_cons hin, hqe]
  have hL1 := hN.room.room.seats.plain.lt
  refine WC_seq ?_
  refine WC_seq ?_
  refine WC_cut [13, 14, 15, 16, 17, 18, 19] (fun s σ => s 19 = .bool (decide (0 ≤ L ∧ L ≤ sum)) ∧ σ = ⟨F, [(bl, bx 3 [.int .i64 L]), (bb, bx 29 [ub]), (bo, bx 3 own)]⟩) ?_ ?_
  ·
   by_cases h0L : 0 ≤ L
   ·
    refine WC_reg fun ds => ?_
    refine WL_q rfl (q_load1 one_3 (lk_entry rfl) (Cell.own 0 rfl rfl)) ?_
    refine WL_q rfl (q_geq (lk0) lk_const) ?_
    refine WL_q rfl (q_move (lk0)) ?_
    refine WL_want rfl rfl (lk0) (decide_eq_true h0L) ?_
    refine WL_q rfl (q_move (lk2 rfl <| lk1 rfl <| lk_entry rfl)) ?_
    refine WL_want rfl rfl (lk1 rfl <| lk0) (decide_eq_true h0L) ?_
    refine WL_q rfl (q_load1 one_3 (lk4 rfl <| lk_entry rfl) (Cell.own 0 rfl rfl)) ?_
    refine WL_want rfl rfl (lk2 rfl <| lk0) (decide_eq_true h0L) ?_
    refine WL_q rfl (q_geq (lk1 rfl <| lk0) (lk0)) ?_
    refine WL_q rfl (q_pick_true (lk2 rfl <| lk1 rfl <| lk0) (decide_eq_true h0L) (lk0)) ?_
    refine WL_nil ?_
    refine then_n ⟨_, Off.eq (ou4 rfl <| ou2 rfl <| ou1 rfl <| off_refl), ?_⟩
    exact ⟨((lk0)).trans (by simp [h0L]), rfl⟩
   ·
    refine WC_reg fun ds => ?_
    refine WL_q rfl (q_load1 one_3 (lk_entry rfl) (Cell.own 0 rfl rfl)) ?_
    refine WL_q rfl (q_geq (lk0) lk_const) ?_
    refine WL_q rfl (q_move (lk0)) ?_
    refine WL_pass rfl rfl (lk0) (.inl (congrArg Value.bool (decide_eq_false h0L))) rfl ?_
    refine WL_pass rfl rfl (lk1 rfl <| lk0) (.inl (congrArg Value.bool (decide_eq_false h0L))) rfl ?_
    refine WL_pass rfl rfl (lk2 rfl <| lk0) (.inl (congrArg Value.bool (decide_eq_false h0L))) rfl ?_
    refine WL_q rfl (q_pick_false (lk2 rfl <| lk1 rfl <| lk0) (decide_eq_false h0L) lk_const) ?_
    refine WL_nil ?_
    refine then_n ⟨_, Off.eq (ou4 rfl <| ou2 rfl <| ou1 rfl <| off_refl), ?_⟩
    exact ⟨((lk0)).trans (by simp [h0L]), rfl⟩
  rintro e1 _ ⟨hc19, rfl⟩
  by_cases hc : 0 ≤ L ∧ L ≤ sum
  ·
   refine WC_if_true (lk_in rfl hc19) (decide_eq_true hc) ?_
   refine WC_ret ?_
   refine then_r ?_
   refine post_retM rfl .nil (.cons (.here) <| .cons (.here) <| .cons (.here) <| .nil) rfl ?_
   exact ⟨_, _, _, rfl, ho, ht, by rw [search_cut (hB.cut.2 hc)]; exact hB⟩
  ·
   refine WC_if_false (lk_in rfl hc19) (decide_eq_false hc) ?_
   refine WC_skip ?_
   refine then_n ?_
   refine WC_seq ?_
   refine WC_seq ?_
   refine WC_reg fun ds => ?_
   refine WL_q rfl (q_move (lk_off rfl <| lk_entry rfl)) ?_
   refine WL_q rfl (q_load1 one_29 (lk1 rfl <| lk_off rfl <| lk_entry rfl) (CellF.own hN.own rfl).cell) ?_
   refine WL_q rfl (q_len sl_29 (lk0)) ?_
   refine WL_q rfl (q_eql (lk2 rfl <| lk0) (lk0)) ?_
   refine WL_nil ?_
   refine then_n ?_
   refine WC_if_false (lk0) (decide_eq_false (by omega)) ?_
   refine WC_skip ?_
   refine then_n ?_
   refine WC_seq ?_
   refine WC_reg fun ds => ?_
   refine WL_q rfl (q_load1 one_98 (lk4 rfl <| lk_off rfl <| lk_entry rfl) (CellF.own hN.rm rfl).cell) ?_
   refine WL_q rfl (q_nilCheck (lk0)) ?_
   refine WL_q rfl (q_fieldAddrB fd_114_0 (lk0)) ?_
   refine WL_q rfl (q_fieldAddrB fd_27_2 (lk0)) ?_
   refine WL_q rfl (q_load1 one_24 (lk0) (CellF.own hN.room.blk rfl).cell) ?_
   refine WL_q rfl (q_lenP sl_24 (lk0) hN.room.room.seats.plain) ?_
   refine WL_q rfl (q_move lk_const) ?_
   refine WL_nil ?_
   refine then_n ?_
   refine WC_block ?_
   refine WC_loopN [12, 37, 38, 39, 40, 41, 42, 43, 44, 45, 46, 47, 48, 49, 50, 51, 52, 53, 54, 55, 56, 57, 58, 59, 60, 61, 62, 63, 64, 65, 66, 67, 68, 69, 70, 71, 72, 73, 74, 75, 76, 77, 78, 79, 80] (fun m e σ => ∃ G, NextX num 29 144 90 G b c1 c8 c3 vb vr vs vq vl r v l bl bb bo co d2 d3 d7 n ∧ ∃ k : Nat, m + k = r.seats.length ∧ e 37 = .int .i64 k ∧ ∃ ub1 own1 L1, own1.length = n ∧ own1.take i = pre.flatMap natE ∧ BestC G ((List.range k).foldl (tryS r q pre sum (search r (l.drop (i + 1)))) best) ub1 L1 ∧ σ = ⟨G, [(bl, bx 3 [.int .i64 L1]), (bb, bx 29 [ub1]), (bo, bx 3 own1)]⟩) (r.seats.length) ?_ ?_
   · exact ⟨_, hN, 0, by omega, (lk0), _, _, _, ho, ht, hB, rfl⟩
   ·
    rintro m e _ ⟨G, hN, k, hm1, hs37, ub1, own1, L1, ho1, ht1, hB1, rfl⟩
    by_cases hk : k < r.seats.length
    ·
     refine WC_seq ?_
     refine WC_reg fun ds => ?_
     refine WL_q rfl (q_lss (lk_in rfl hs37) (lk_off rfl <| lk1 rfl <| lk0)) ?_
     refine WL_nil ?_
     refine then_n ?_
     refine WC_seq ?_
     refine WC_if_true (lk0) (by first | rfl | exact decide_eq_true (by omega)) ?_
     have hk6 : k < 6 := by have := hv.ns; omega
     have hpk := pow_lt hk6
     by_cases hmk : k ∈ pre
     ·
      refine WC_skip ?_
      refine then_n ?_
      refine WC_seq ?_
      refine WC_block ?_
      refine WC_seq ?_
      refine WC_reg fun ds => ?_
      refine WL_q rfl (q_move (lk1 rfl <| lk_in rfl hs37)) ?_
      refine WL_q rfl (q_assign (lk0)) ?_
      refine WL_nil ?_
      refine then_n ?_
      refine WC_seq ?_
      refine WC_seq ?_
      refine WC_draw (.inl rfl) (fun _ _ h => h) (by kernel_rfl) (by kernel_rfl) fun ds => ?_
      refine WQ_q rfl (q_move (lk2 rfl <| lk1 rfl <| lk_off rfl <| lk8 rfl <| lk2 rfl <| lk1 rfl <| lk_off rfl <| lk_entry rfl)) ?_
      refine WQ_q rfl (q_move (lk1 rfl <| lk0)) ?_
      refine WQ_q rfl (q_shr (lk1 rfl <| lk0) (lk0) rfl (by show k < 64; omega) shr_nat) ?_
      refine WQ_q rfl (q_and (lk0) lk_const (m := mask / 2 ^ k) (k := 1) rfl rfl (by have := Nat.div_le_self mask (2 ^ k); omega) (by omega) rfl) ?_
      refine WQ_q rfl (q_eql (lk0) lk_const) ?_
      refine WQ_q rfl (q_move (lk0)) ?_
      refine WQ_pass rfl rfl (lk0) (.inl (congrArg Value.bool (by rw [bit_eq, hm]; exact decide_eq_true hmk))) rfl ?_
      refine WQ_pass rfl rfl (lk1 rfl <| lk0) (.inl (congrArg Value.bool (by rw [bit_eq, hm]; exact decide_eq_true hmk))) rfl ?_
      refine WQ_pass rfl rfl (lk2 rfl <| lk0) (.inl (congrArg Value.bool (by rw [bit_eq, hm]; exact decide_eq_true hmk))) rfl ?_
      refine WQ_pass rfl rfl (lk2 rfl <| lk1 rfl <| lk0) (.inl (congrArg Value.bool (by rw [bit_eq, hm]; exact decide_eq_true hmk))) rfl ?_
      refine WQ_pass rfl rfl (lk4 rfl <| lk0) (.inl (congrArg Value.bool (by rw [bit_eq, hm]; exact decide_eq_true hmk))) rfl ?_
      refine WQ_pass rfl rfl (lk4 rfl <| lk1 rfl <| lk0) (.inl (congrArg Value.bool (by rw [bit_eq, hm]; exact decide_eq_true hmk))) rfl ?_
      refine WQ_pass rfl rfl (lk4 rfl <| lk2 rfl <| lk0) (.inl (congrArg Value.bool (by rw [bit_eq, hm]; exact decide_eq_true hmk))) rfl ?_
      refine WQ_pass rfl rfl (lk4 rfl <| lk2 rfl <| lk1 rfl <| lk0) (.inl (congrArg Value.bool (by rw [bit_eq, hm]; exact decide_eq_true hmk))) rfl ?_
      refine WQ_q rfl (q_pick_true (lk8 rfl <| lk0) (by rw [bit_eq, hm]; exact decide_eq_true hmk) lk_const) ?_
      refine WQ_nil ?_
      refine then_n ?_
      refine WC_if_true (lk0) (by first | rfl | (rw [bit_eq, hm]; exact decide_eq_true hmk)) ?_
      refine WC_exit ?_
      refine then_x (exit_here ?_)
      refine then_n ?_
      refine WC_reg fun ds => ?_
      refine WL_q rfl (q_add (lk16 rfl <| lk2 rfl <| lk_in rfl hs37) lk_const rfl (by omega) (by omega)) ?_
      refine WL_q rfl (q_move (lk0)) ?_
      refine WL_nil ?_
      refine then_n ⟨_, m - 1, Off.eq (ou16 rfl <| ou4 rfl <| off_over), by omega, ?_⟩
      refine ⟨_, hN, k + 1, by omega, (lk0), _, _, _, ho1, ht1, ?_, rfl⟩
      rw [fold_succ, tryS_skip (.inl hmk)]; exact hB1
     ·
      refine WC_skip ?_
      refine then_n ?_
      refine WC_seq ?_
      refine WC_block ?_
      refine WC_seq ?_
      refine WC_reg fun ds => ?_
      refine WL_q rfl (q_move (lk1 rfl <| lk_in rfl hs37)) ?_
      refine WL_q rfl (q_assign (lk0)) ?_
      refine WL_nil ?_
      refine then_n ?_
      refine WC_seq ?_
      refine WC_seq ?_
      refine WC_draw (.inl rfl) (fun _ _ h => h) (by kernel_rfl) (by kernel_rfl) fun ds => ?_
      refine WQ_q rfl (q_move (lk2 rfl <| lk1 rfl <| lk_off rfl <| lk8 rfl <| lk2 rfl <| lk1 rfl <| lk_off rfl <| lk_entry rfl)) ?_
      refine WQ_q rfl (q_move (lk1 rfl <| lk0)) ?_
      refine WQ_q rfl (q_shr (lk1 rfl <| lk0) (lk0) rfl (by show k < 64; omega) shr_nat) ?_
      refine WQ_q rfl (q_and (lk0) lk_const (m := mask / 2 ^ k) (k := 1) rfl rfl (by have := Nat.div_le_self mask (2 ^ k); omega) (by omega) rfl) ?_
      refine WQ_q rfl (q_eql (lk0) lk_const) ?_
      refine WQ_q rfl (q_move (lk0)) ?_
      refine WQ_want rfl rfl (lk0) (by rw [bit_eq, hm]; exact decide_eq_false hmk) ?_
      refine WQ_q rfl (q_load1 one_98 (lk8 rfl <| lk1 rfl <| lk_off rfl <| lk8 rfl <| lk2 rfl <| lk1 rfl <| lk_off rfl <| lk_entry rfl) (CellF.own hN.rm rfl).cell) ?_
      refine WQ_want rfl rfl (lk1 rfl <| lk0) (by rw [bit_eq, hm]; exact decide_eq_false hmk) ?_
      refine WQ_q rfl (q_load1 one_29 (lk8 rfl <| lk2 rfl <| lk_off rfl <| lk8 rfl <| lk2 rfl <| lk1 rfl <| lk_off rfl <| lk_entry rfl) (CellF.own hN.rq rfl).cell) ?_
      refine WQ_want rfl rfl (lk2 rfl <| lk0) (by rw [bit_eq, hm]; exact decide_eq_false hmk) ?_
      refine WQ_q rfl (q_move (lk8 rfl <| lk2 rfl <| lk1 rfl <| lk_off rfl <| lk8 rfl <| lk2 rfl <| lk1 rfl <| lk_off rfl <| lk_entry rfl)) ?_
      refine WQ_want rfl rfl (lk2 rfl <| lk1 rfl <| lk0) (by rw [bit_eq, hm]; exact decide_eq_false hmk) ?_
      refine WQ_q rfl (q_index (k := i) sl_29 (lk1 rfl <| lk0) hN.idx.plain (lk0) rfl hin) ?_
      refine WQ_want rfl rfl (lk4 rfl <| lk0) (by rw [bit_eq, hm]; exact decide_eq_false hmk) ?_
      refine WQ_q rfl (q_load1 one_3 (lk0) (hN.idx.cell1 hin rfl)) ?_
      refine WQ_want rfl rfl (lk4 rfl <| lk1 rfl <| lk0) (by rw [bit_eq, hm]; exact decide_eq_false hmk) ?_
      refine WQ_q rfl (q_move (lk8 rfl <| lk2 rfl <| lk1 rfl <| lk0)) ?_
      refine WQ_want rfl rfl (lk4 rfl <| lk2 rfl <| lk0) (by rw [bit_eq, hm]; exact decide_eq_false hmk) ?_
      refine WQ_c rfl (q_call bd_58 lk_func (.cons (lk4 rfl <| lk1 rfl <| lk0) (.cons (lk1 rfl <| lk0) (.cons (lk0) .nil))) (why_ok (i := l[i]) hN.room hv (hlt2 _ (List.getElem_mem hin)) hk) (fun _ _ h => h.trans (by rw [hqe]))) ?_
      refine WQ_want rfl rfl (lk4 rfl <| lk2 rfl <| lk1 rfl <| lk0) (by rw [bit_eq, hm]; exact decide_eq_false hmk) ?_
      refine WQ_q rfl (q_neq (lk0) lk_const) ?_
      refine WQ_q rfl (q_pick_false (lk8 rfl <| lk0) (by rw [bit_eq, hm]; exact decide_eq_false hmk) (lk0)) ?_
      refine WQ_nil ?_
      refine then_n ?_
      by_cases hrs : reason r q k ≠ 0
      ·
       refine WC_if_true (lk0) (decide_eq_true hrs) ?_
       refine WC_exit ?_
       refine then_x (exit_here ?_)
       refine then_n ?_
       refine WC_reg fun ds => ?_
       refine WL_q rfl (q_add (lk16 rfl <| lk2 rfl <| lk_in rfl hs37) lk_const rfl (by omega) (by omega)) ?_
       refine WL_q rfl (q_move (lk0)) ?_
       refine WL_nil ?_
       refine then_n ⟨_, m - 1, Off.eq (ou16 rfl <| ou4 rfl <| off_over), by omega, ?_⟩
       refine ⟨_, hN, k + 1, by omega, (lk0), _, _, _, ho1, ht1, ?_, rfl⟩
       rw [fold_succ, tryS_skip (.inr hrs)]; exact hB1
      ·
       refine WC_if_false (lk0) (decide_eq_false hrs) ?_
       have hlb := light_bound hv hq hk
       refine WC_skip ?_
       refine then_n ?_
       refine WC_seq ?_
       refine WC_reg fun ds => ?_
       refine WL_q rfl (q_load1 one_29 (lk16 rfl <| lk2 rfl <| lk_off rfl <| lk8 rfl <| lk2 rfl <| lk1 rfl <| lk_off rfl <| lk_entry rfl) (CellF.own hN.own rfl).cell) ?_
       refine WL_q rfl (q_move (lk16 rfl <| lk2 rfl <| lk1 rfl <| lk_off rfl <| lk8 rfl <| lk2 rfl <| lk1 rfl <| lk_off rfl <| lk_entry rfl)) ?_
       refine WL_q rfl (q_move (lk16 rfl <| lk1 rfl <| lk0)) ?_
       refine WL_q rfl (q_index (k := i) sl_29 (lk2 rfl <| lk0) (plain_row (Nat.le_refl n) (by omega)) (lk1 rfl <| lk0) rfl hi) ?_
       refine WL_x0 (x_storeK (k := i) sz_3 (lk0) (by simp [addc, base]) (lk1 rfl <| lk0) (i := 2) rfl (by rw [ho1]; exact hi) rfl (.next <| .next <| .here) ?_)
       refine WL_nil ?_
       refine then_n ?_
       refine WC_drawS (.inl rfl) (fun _ _ h => h) (.cons_cons _ <| .cons_cons _ <| .cons_cons _ <| .refl _) [20] (by kernel_rfl) fun ds => ?_
       refine WX_take 0 rfl (by kernel_rfl) (by kernel_rfl) (by kernel_rfl) (by kernel_rfl) rfl rfl (fun _ h => h.drop (.cons_cons _ <| .cons_cons _ <| .cons_cons _ <| .refl _)) (fun _ _ _ h => h) (q_load1 one_144 (lk16 rfl <| lk4 rfl <| lk2 rfl <| lk_off rfl <| lk8 rfl <| lk2 rfl <| lk1 rfl <| lk_off rfl <| lk_entry rfl) (CellF.own hN.nx rfl).cell) ?_
       refine WX_take 1 rfl (by kernel_rfl) (by kernel_rfl) (by kernel_rfl) (by kernel_rfl) rfl rfl (fun _ h => h.drop (.cons_cons _ <| .cons_cons _ <| .cons_cons _ <| .refl _)) (fun _ _ _ h => h) (q_move (lk16 rfl <| lk4 rfl <| lk2 rfl <| lk1 rfl <| lk_off rfl <| lk8 rfl <| lk2 rfl <| lk1 rfl <| lk_off rfl <| lk_entry rfl)) ?_
       refine WX_take 2 rfl (by kernel_rfl) (by kernel_rfl) (by kernel_rfl) (by kernel_rfl) rfl rfl (fun _ h => h.drop (.cons_cons _ <| .cons_cons _ <| .cons_cons _ <| .refl _)) (fun _ _ _ h => h) (q_add (lk0) lk_const rfl (by omega) (by omega)) ?_
       refine WX_take 3 rfl (by kernel_rfl) (by kernel_rfl) (by kernel_rfl) (by kernel_rfl) rfl rfl (fun _ h => h.drop (.cons_cons _ <| .cons_cons _ <| .cons_cons _ <| .refl _)) (fun _ _ _ h => h) (q_move (lk16 rfl <| lk8 rfl <| lk1 rfl <| lk_off rfl <| lk8 rfl <| lk2 rfl <| lk1 rfl <| lk_off rfl <| lk_entry rfl)) ?_
       refine WX_take 4 rfl (by kernel_rfl) (by kernel_rfl) (by kernel_rfl) (by kernel_rfl) rfl rfl (fun _ h => h.drop (.cons_cons _ <| .cons_cons _ <| .cons_cons _ <| .refl _)) (fun _ _ _ h => h) (q_move (lk16 rfl <| lk4 rfl <| lk2 rfl <| lk1 rfl <| lk0)) ?_
       refine WX_take 5 rfl (by kernel_rfl) (by kernel_rfl) (by kernel_rfl) (by kernel_rfl) rfl rfl (fun _ h => h.drop (.cons_cons _ <| .cons_cons _ <| .cons_cons _ <| .refl _)) (fun _ _ _ h => h) (q_shl lk_const (lk0) (k := k) rfl (by omega) (show (1 : Int) * 2 ^ k = ((2 ^ k : Nat) : Int) by simp) (Int.le_trans (by decide) (Int.natCast_nonneg (2 ^ k))) (by omega)) ?_
       refine WX_take 6 rfl (by kernel_rfl) (by kernel_rfl) (by kernel_rfl) (by kernel_rfl) rfl rfl (fun _ h => h.drop (.cons_cons _ <| .cons_cons _ <| .cons_cons _ <| .refl _)) (fun _ _ _ h => h) (q_or (lk2 rfl <| lk0) (lk0) (m := mask) (k := 2 ^ k) rfl (by simp) (by omega) (by omega) rfl) ?_
       refine WX_take 7 rfl (by kernel_rfl) (by kernel_rfl) (by kernel_rfl) (by kernel_rfl) rfl rfl (fun _ h => h.drop (.cons_cons _ <| .cons_cons _ <| .cons_cons _ <| .refl _)) (fun _ _ _ h => h) (q_move (lk16 rfl <| lk8 rfl <| lk4 rfl <| lk1 rfl <| lk_off rfl <| lk8 rfl <| lk2 rfl <| lk1 rfl <| lk_off rfl <| lk_entry rfl)) ?_
       refine WX_take 8 rfl (by kernel_rfl) (by kernel_rfl) (by kernel_rfl) (by kernel_rfl) rfl rfl (fun _ h => h.drop (.cons_cons _ <| .cons_cons _ <| .cons_cons _ <| .refl _)) (fun _ _ _ h => h) (q_load1 one_98 (lk16 rfl <| lk8 rfl <| lk4 rfl <| lk2 rfl <| lk_off rfl <| lk8 rfl <| lk2 rfl <| lk1 rfl <| lk_off rfl <| lk_entry rfl) (CellF.own hN.rm rfl).cell) ?_
       refine WX_take 9 rfl (by kernel_rfl) (by kernel_rfl) (by kernel_rfl) (by kernel_rfl) rfl rfl (fun _ h => h.drop (.cons_cons _ <| .cons_cons _ <| .cons_cons _ <| .refl _)) (fun _ _ _ h => h) (q_load1 one_29 (lk16 rfl <| lk8 rfl <| lk4 rfl <| lk2 rfl <| lk1 rfl <| lk_off rfl <| lk8 rfl <| lk2 rfl <| lk1 rfl <| lk_off rfl <| lk_entry rfl) (CellF.own hN.rq rfl).cell) ?_
       refine WX_take 10 rfl (by kernel_rfl) (by kernel_rfl) (by kernel_rfl) (by kernel_rfl) rfl rfl (fun _ h => h.drop (.cons_cons _ <| .cons_cons _ <| .cons_cons _ <| .refl _)) (fun _ _ _ h => h) (q_move (lk32 rfl <| lk_off rfl <| lk8 rfl <| lk2 rfl <| lk1 rfl <| lk_off rfl <| lk_entry rfl)) ?_
       refine WX_take 11 rfl (by kernel_rfl) (by kernel_rfl) (by kernel_rfl) (by kernel_rfl) rfl rfl (fun _ h => h.drop (.cons_cons _ <| .cons_cons _ <| .cons_cons _ <| .refl _)) (fun _ _ _ h => h) (q_index (k := i) sl_29 (lk1 rfl <| lk0) hN.idx.plain (lk0) rfl hin) ?_
       refine WX_take 12 rfl (by kernel_rfl) (by kernel_rfl) (by kernel_rfl) (by kernel_rfl) rfl rfl (fun _ h => h.drop (.cons_cons _ <| .cons_cons _ <| .cons_cons _ <| .refl _)) (fun _ _ _ h => h) (q_load1 one_3 (lk0) (hN.idx.cell1 hin rfl)) ?_
       refine WX_take 13 rfl (by kernel_rfl) (by kernel_rfl) (by kernel_rfl) (by kernel_rfl) rfl rfl (fun _ h => h.drop (.cons_cons _ <| .cons_cons _ <| .cons_cons _ <| .refl _)) (fun _ _ _ h => h) (q_move (lk32 rfl <| lk0)) ?_
       refine WX_take 14 rfl (by kernel_rfl) (by kernel_rfl) (by kernel_rfl) (by kernel_rfl) rfl rfl (fun _ h => h.drop (.cons_cons _ <| .cons_cons _ <| .cons_cons _ <| .refl _)) (fun _ _ _ h => h) (q_nilCheck (lk4 rfl <| lk1 rfl <| lk0)) ?_
       refine WX_take 15 rfl (by kernel_rfl) (by kernel_rfl) (by kernel_rfl) (by kernel_rfl) rfl rfl (fun _ h => h.drop (.cons_cons _ <| .cons_cons _ <| .cons_cons _ <| .refl _)) (fun _ _ _ h => h) (q_fieldAddrB fd_114_1 (lk0)) ?_
       refine WX_take 16 rfl (by kernel_rfl) (by kernel_rfl) (by kernel_rfl) (by kernel_rfl) rfl rfl (fun _ h => h.drop (.cons_cons _ <| .cons_cons _ <| .cons_cons _ <| .refl _)) (fun _ _ _ h => h) (q_indexArrB (k := q) ar_111 (lk0) (lk2 rfl <| lk1 rfl <| lk0) (by rw [← hqe]) hq8) ?_
       refine WX_take 17 rfl (by kernel_rfl) (by kernel_rfl) (by kernel_rfl) (by kernel_rfl) rfl rfl (fun _ h => h.drop (.cons_cons _ <| .cons_cons _ <| .cons_cons _ <| .refl _)) (fun _ _ _ h => h) (q_indexArrB  ar_110 (lk0) (lk2 rfl <| lk1 rfl <| lk0) rfl hk6) ?_
       refine WX_take 18 rfl (by kernel_rfl) (by kernel_rfl) (by kernel_rfl) (by kernel_rfl) rfl rfl (fun _ h => h.drop (.cons_cons _ <| .cons_cons _ <| .cons_cons _ <| .refl _)) (fun _ _ _ h => h) (q_load1 one_3 (lk0) (hN.room.light_cell hq8 hk6).cell) ?_
       refine WX_take 19 rfl (by kernel_rfl) (by kernel_rfl) (by kernel_rfl) (by kernel_rfl) rfl rfl (fun _ h => h.drop (.cons_cons _ <| .cons_cons _ <| .cons_cons _ <| .refl _)) (fun _ _ _ h => h) (q_add (lk8 rfl <| lk2 rfl <| lk1 rfl <| lk0) (lk0) rfl (by omega) (by omega)) ?_
       refine WX_x 20 rfl (by kernel_rfl) rfl (x_callM bd_90 (lk16 rfl <| lk2 rfl <| lk1 rfl <| lk0) (.cons (lk16 rfl <| lk1 rfl <| lk0) (.cons (lk8 rfl <| lk4 rfl <| lk1 rfl <| lk0) (.cons (lk0) .nil))) rfl (ih hN (pre := pre ++ [k]) (by simp [hp]) (by rw [List.length_set]; exact ho1) (take_set (by omega) hp ht1) hB1 (mask_or hm) (mask_lt hm6 hk6) (by omega) (by omega)) fun v2 F3 H6 hr4 hF5 => ⟨(fun h => nomatch h), ?_⟩)
       replace hN := hN.mono hF5
       replace hB1 := hB1.mono hF5
       obtain ⟨ub2, own2, L2, rfl, hl2, ht2, hB2⟩ := hr4
       refine WX_done (by kernel_rfl) ?_ _
       refine block_n (then_n ?_)
       refine WC_reg fun ds => ?_
       refine WL_q rfl (q_add (lk32 rfl <| lk8 rfl <| lk2 rfl <| lk1 rfl <| lk_in rfl hs37) lk_const rfl (by omega) (by omega)) ?_
       refine WL_q rfl (q_move (lk0)) ?_
       refine WL_nil ?_
       refine then_n ⟨_, m - 1, Off.eq (ou32 rfl <| ou8 rfl <| ou4 rfl <| ou1 rfl <| off_over), by omega, ?_⟩
       refine ⟨_, hN, k + 1, by omega, (lk0), _, _, _, hl2, take_pre hp ht2, ?_, rfl⟩
       rw [fold_succ, tryS_do hmk hrs]; exact hB2
    ·
     refine WC_seq ?_
     refine WC_reg fun ds => ?_
     refine WL_q rfl (q_lss (lk_in rfl hs37) (lk_off rfl <| lk1 rfl <| lk0)) ?_
     refine WL_nil ?_
     refine then_n ?_
     refine WC_seq ?_
     refine WC_if_false (lk0) (by first | rfl | exact decide_eq_false (by omega)) ?_
     obtain rfl : k = r.seats.length := by omega
     refine WC_exit ?_
     refine then_x (then_x (exit_here ?_))
     refine post_endM rfl .nil (.cons (.here) <| .cons (.here) <| .cons (.here) <| .nil) rfl ?_
     refine ⟨_, _, _, rfl, ho1, ht1, ?_⟩
     rw [hdrop, search_cons (fun h => hc (hB.cut.1 h))]; exact hB1
end Go.Proofs.Ytbcjfkcpfjccdaa
namespace Go.Proofs.Ytbcjfkcpfjccdaa
open Go.RowKit
theorem bd_63 : Body Try.prog 63 := body_of (by kernel_rfl)
theorem sz_144 : SizeT Try.prog 144 1 := sizeT_of (by kernel_rfl)
theorem zr_144 : ZeroT Try.prog 144 (.nilFunc) := zeroT_of (by kernel_rfl)
theorem zr_29 : ZeroT Try.prog 29 (.slice none 0 0) := zeroT_of (by kernel_rfl)
theorem next_all {b c1 c8 c3 : Nat} {vb vr vs vq vl : Value} {r : Room} {v : Value} {l : List Nat} {bl bb bo co d2 d3 d7 n : Nat} (hv : Valid r) (hlt2 : ∀ i ∈ l, i < r.reqs.length) (hn8 : n ≤ 8) : ∀ d i, i + d = n → NextOk r b c1 c8 c3 vb vr vs vq vl v l bl bb bo co d2 d3 d7 n i
  | 0, i, hi => fun hN hp ho ht hB hm hm6 hs0 hs1 => next_nil hN hv hlt2 hn8 hp ho ht hB hm hm6 hs0 hs1 (by omega)
  | d + 1, i, hi => fun hN hp ho ht hB hm hm6 hs0 hs1 => next_step hN hv hlt2 hn8 hp ho ht hB hm hm6 hs0 hs1 (by omega) (next_all hv hlt2 hn8 d (i + 1) (by omega))
set_option maxRecDepth 100000 in
theorem give_ok {F : Heap} {b c1 c8 c3 : Nat} {vb vr vs vq vl : Value} {r : Room} (hX : RoomX num F b c1 c8 c3 vb vr vs vq vl r) (hv : Valid r) {v : Value} {l : List Nat} (hl : Nats F v l) (hlt2 : ∀ i ∈ l, i < r.reqs.length) (hn8 : l.length ≤ 8) : Ok Try.prog 62 [.pointer (some ⟨b, 0, none⟩), v].toArray F fun u F' => ∃ ws L, u = .tuple #[ws, .int .i64 L] ∧ BestC F' (allR r l) ws L := by
  refine Ok.intro Try.func62 rfl Try.ntmps62 rfl fun w0 => ?_
  by_cases ha : Apart r l
  ·
   refine WC_seq ?_
   refine WC_reg fun ds => ?_
   refine WL_x rfl (x_box (lk_entry rfl) rfl fun b1 hb1 nb1 => ?_)
   refine WL_x rfl (x_box (lk1 rfl <| lk_entry rfl) (cells_one hl.plain.one) fun b2 hb2 nb2 => ?_)
   refine WL_x rfl (x_alloc zr_29 rfl fun b3 hb3 nb3 => ?_)
   refine WL_x rfl (x_alloc zr_3 rfl fun b4 hb4 nb4 => ?_)
   refine WL_nil ?_
   refine then_n ?_
   refine WC_seq ?_
   refine WC_reg fun ds => ?_
   refine WL_x0 (x_store1 sz_3 (lk0) lk_const (i := 0) rfl (.here) rfl (.here) ?_)
   refine WL_nil ?_
   refine then_n ?_
   refine WC_seq ?_
   refine WC_seq ?_
   refine WC_reg fun ds => ?_
   refine WL_q rfl (q_load1 one_98 (lk2 rfl <| lk1 rfl <| lk0) (Cell.own 3 rfl rfl)) ?_
   refine WL_q rfl (q_load1 one_29 (lk2 rfl <| lk1 rfl <| lk0) (Cell.own 2 rfl rfl)) ?_
   refine WL_c rfl (q_call bd_63 lk_func (.cons (lk1 rfl <| lk0) (.cons (lk0) .nil)) (apart_ok hX hv hl hlt2) (fun _ _ h => h)) ?_
   refine WL_q rfl (q_not (lk0)) ?_
   refine WL_nil ?_
   refine then_n ?_
   refine WC_if_false (lk0) (by rw [decide_eq_true ha]; rfl) ?_
   refine WC_skip ?_
   refine then_n ?_
   refine WC_seq ?_
   refine WC_reg fun ds => ?_
   refine WL_q rfl (q_load1 one_29 (lk4 rfl <| lk2 rfl <| lk0) (Cell.own 2 rfl rfl)) ?_
   refine WL_q rfl (q_lenP sl_29 (lk0) hl.plain) ?_
   refine WL_x rfl (x_make (k := l.length) sl_29 el_3 rfl rfl (lk0) (lk0) rfl (by omega) (by omega) fun b5 hb5 nb5 => ?_)
   refine WL_x rfl (x_alloc zr_29 rfl fun b6 hb6 nb6 => ?_)
   refine WL_x0 (x_store1 sz_29 (lk0) (lk1 rfl <| lk0) (i := 0) rfl (.here) rfl (.here) ?_)
   refine WL_nil ?_
   refine then_n ?_
   refine WC_seq ?_
   refine WC_reg fun ds => ?_
   refine WL_x rfl (x_alloc zr_144 rfl fun b7 hb7 nb7 => ?_)
   refine WL_nil ?_
   refine then_n ?_
   refine WC_seq ?_
   refine WC_reg fun ds => ?_
   refine WL_q rfl (q_makeFunc (.cons (lk8 rfl <| lk1 rfl <| lk0) (.cons (lk1 rfl <| lk0) (.cons (lk8 rfl <| lk2 rfl <| lk0) (.cons (lk8 rfl <| lk4 rfl <| lk0) (.cons (lk8 rfl <| lk2 rfl <| lk1 rfl <| lk0) (.cons (lk0) .nil))))))) ?_
   refine WL_x0 (x_store1 sz_144 (lk1 rfl <| lk0) (lk0) (i := 0) rfl (.here) rfl (.here) ?_)
   refine WL_nil ?_
   refine then_n ?_
   refine WC_seq ?_
   refine WC_freeze (i := 1) rfl hb6 (.next <| .here) fun F8 hF9 hz6 => ?_
   replace hX := hX.mono hF9
   replace hl := hl.mono hF9
   refine WC_freeze (i := 5) rfl hb1 (.next <| .next <| .next <| .next <| .next <| .here) fun F10 hF11 hz2 => ?_
   replace hX := hX.mono hF11
   replace hl := hl.mono hF11
   replace hz6 := hF11 _ _ hz6
   refine WC_freeze (i := 4) rfl hb2 (.next <| .next <| .next <| .next <| .here) fun F12 hF13 hz3 => ?_
   replace hX := hX.mono hF13
   replace hl := hl.mono hF13
   replace hz6 := hF13 _ _ hz6
   replace hz2 := hF13 _ _ hz2
   refine WC_freeze (i := 0) rfl hb7 (.here) fun F14 hF15 hz7 => ?_
   replace hX := hX.mono hF15
   replace hl := hl.mono hF15
   replace hz6 := hF15 _ _ hz6
   replace hz2 := hF15 _ _ hz2
   replace hz3 := hF15 _ _ hz3
   refine WC_pick (.cons (.next <| .here) <| .cons (.next <| .here) <| .cons (.here) <| .nil) ?_
   have hN : NextX num 29 144 90 F14 b c1 c8 c3 vb vr vs vq vl r v l b4 b3 b5 b6 b1 b2 b7 l.length := ⟨hX, hl, hz6, hz2, hz3, hz7, rfl⟩
   refine WC_reg fun ds => ?_
   refine WL_q rfl (q_load1 one_144 (lk1 rfl <| lk0) (CellF.own hz7 rfl).cell) ?_
   refine WL_x rfl (x_callM bd_90 (lk0) (.cons lk_const (.cons lk_const (.cons lk_const .nil))) rfl (next_all hv hlt2 hn8 l.length 0 (by omega) hN (pre := []) (best := none) (mask := 0) (sum := 0) rfl (by simp) rfl ⟨fun _ => ⟨rfl, rfl⟩, (fun _ _ h => nomatch h)⟩ (fun s => by simp) (by omega) (by omega) (by omega)) fun v20 F21 H24 hr22 hF23 => ?_)
   replace hX := hX.mono hF23
   replace hl := hl.mono hF23
   replace hN := hN.mono hF23
   replace hz6 := hF23 _ _ hz6
   replace hz2 := hF23 _ _ hz2
   replace hz3 := hF23 _ _ hz3
   replace hz7 := hF23 _ _ hz7
   obtain ⟨ub2, own2, L2, rfl, hl2, ht2, hB2⟩ := hr22
   rw [List.drop_zero] at hB2
   have hub := hB2.one
   refine WL_nil ?_
   refine then_n ?_
   refine WC_seq ?_
   refine WC_drawS (.inl rfl) (fun _ _ h => h) (.cons_cons _ <| .cons _ <| .cons_cons _ <| .refl _) [3] (by kernel_rfl) fun ds => ?_
   refine WX_take 1 rfl (by kernel_rfl) (by kernel_rfl) (by kernel_rfl) (by kernel_rfl) rfl rfl (fun _ h => h.drop (.cons_cons _ <| .cons _ <| .cons_cons _ <| .refl _)) (fun _ _ _ h => h) (q_load1 one_3 (lk8 rfl <| lk4 rfl <| lk0) (Cell.own 0 rfl rfl)) ?_
   refine WX_x 0 rfl (by kernel_rfl) rfl (x_quiet (q_load1 one_29 (lk8 rfl <| lk4 rfl <| lk2 rfl <| lk0) (Cell.own 1 rfl rfl)).quiet ⟨fun _ _ => (fun _ h => h.drop (.cons_cons _ <| .cons _ <| .cons_cons _ <| .refl _)), ?_⟩)
   refine WX_x0 2 rfl (by kernel_rfl) (x_store1 sz_29 (lk8 rfl <| lk4 rfl <| lk2 rfl <| lk1 rfl <| lk0) (lk0) (i := 1) rfl (.here) (by first | rfl | exact hub) (.next <| .here) ⟨fun _ _ => (fun _ h => h.drop (.cons_cons _ <| .cons _ <| .cons_cons _ <| .refl _)), ?_⟩)
   refine WX_x0 3 rfl (by kernel_rfl) (x_store1 sz_3 (lk8 rfl <| lk4 rfl <| lk2 rfl <| lk0) (lk1 rfl <| lk0) (i := 0) rfl (.here) (by first | rfl | exact hub) (.here) ⟨(fun h => nomatch h), ?_⟩)
   refine WX_done (by kernel_rfl) ?_ _
   refine then_n ?_
   refine WC_ret ?_
   refine post_ret rfl (.one one_29 (lk8 rfl <| lk4 rfl <| lk2 rfl <| lk1 rfl <| lk0) (Cell.own 1 rfl rfl) (.one one_3 (lk8 rfl <| lk4 rfl <| lk2 rfl <| lk0) (Cell.own 0 rfl rfl) .nil)) ?_
   refine ⟨_, _, rfl, ?_⟩
   unfold allR
   rw [if_pos ha, ← search_give hv hlt2]
   exact hB2
  ·
   refine WC_seq ?_
   refine WC_reg fun ds => ?_
   refine WL_x rfl (x_box (lk_entry rfl) rfl fun b25 hb25 nb25 => ?_)
   refine WL_x rfl (x_box (lk1 rfl <| lk_entry rfl) (cells_one hl.plain.one) fun b26 hb26 nb26 => ?_)
   refine WL_x rfl (x_alloc zr_29 rfl fun b27 hb27 nb27 => ?_)
   refine WL_x rfl (x_alloc zr_3 rfl fun b28 hb28 nb28 => ?_)
   refine WL_nil ?_
   refine then_n ?_
   refine WC_seq ?_
   refine WC_reg fun ds => ?_
   refine WL_x0 (x_store1 sz_3 (lk0) lk_const (i := 0) rfl (.here) rfl (.here) ?_)
   refine WL_nil ?_
   refine then_n ?_
   refine WC_seq ?_
   refine WC_seq ?_
   refine WC_reg fun ds => ?_
   refine WL_q rfl (q_load1 one_98 (lk2 rfl <| lk1 rfl <| lk0) (Cell.own 3 rfl rfl)) ?_
   refine WL_q rfl (q_load1 one_29 (lk2 rfl <| lk1 rfl <| lk0) (Cell.own 2 rfl rfl)) ?_
   refine WL_c rfl (q_call bd_63 lk_func (.cons (lk1 rfl <| lk0) (.cons (lk0) .nil)) (apart_ok hX hv hl hlt2) (fun _ _ h => h)) ?_
   refine WL_q rfl (q_not (lk0)) ?_
   refine WL_nil ?_
   refine then_n ?_
   refine WC_if_true (lk0) (by rw [decide_eq_false ha]; rfl) ?_
   refine WC_seq ?_
   refine WC_drawS (.inl rfl) (fun _ _ h => h) (.cons_cons _ <| .cons _ <| .cons_cons _ <| .cons_cons _ <| .refl _) [2] (by kernel_rfl) fun ds => ?_
   refine WX_take 0 rfl (by kernel_rfl) (by kernel_rfl) (by kernel_rfl) (by kernel_rfl) rfl rfl (fun _ h => h.drop (.cons_cons _ <| .cons _ <| .cons_cons _ <| .cons_cons _ <| .refl _)) (fun _ _ _ h => h) (q_load1 one_3 (lk4 rfl <| lk0) (Cell.own 0 rfl rfl)) ?_
   refine WX_x0 1 rfl (by kernel_rfl) (x_store1 sz_29 (lk4 rfl <| lk2 rfl <| lk0) lk_const (i := 1) rfl (.here) rfl (.next <| .here) ⟨fun _ _ => (fun _ h => h.drop (.cons_cons _ <| .cons _ <| .cons_cons _ <| .cons_cons _ <| .refl _)), ?_⟩)
   refine WX_x0 2 rfl (by kernel_rfl) (x_store1 sz_3 (lk4 rfl <| lk1 rfl <| lk0) (lk0) (i := 0) rfl (.here) rfl (.here) ⟨(fun h => nomatch h), ?_⟩)
   refine WX_done (by kernel_rfl) ?_ _
   refine then_n ?_
   refine WC_ret ?_
   refine then_r ?_
   refine post_ret rfl (.one one_29 (lk4 rfl <| lk2 rfl <| lk0) (Cell.own 1 rfl rfl) (.one one_3 (lk4 rfl <| lk1 rfl <| lk0) (Cell.own 0 rfl rfl) .nil)) ?_
   refine ⟨_, _, rfl, ?_⟩
   unfold allR
   rw [if_neg ha]
   exact ⟨fun _ => ⟨rfl, rfl⟩, (fun _ _ h => nomatch h)⟩
end Go.Proofs.Ytbcjfkcpfjccdaa
namespace Go.Proofs.Ytbcjfkcpfjccdaa
open Go.RowKit
theorem bd_60 : Body Try.prog 60 := body_of (by kernel_rfl)
theorem bd_62 : Body Try.prog 62 := body_of (by kernel_rfl)
set_option maxRecDepth 100000 in
theorem can_ok {F : Heap} {b c1 c8 c3 : Nat} {vb vr vs vq vl : Value} {r : Room} (hX : RoomX num F b c1 c8 c3 vb vr vs vq vl r) (hv : Valid r) {v : Value} {l : List Nat} (hl : Nats F v l) (hlt2 : ∀ i ∈ l, i < r.reqs.length) (hn8 : l.length ≤ 8) : Ok Try.prog 60 [.pointer (some ⟨b, 0, none⟩), v].toArray F fun u _ => u = .bool (allR r l).isSome := by
  refine Ok.intro Try.func60 rfl Try.ntmps60 rfl fun w0 => ?_
  refine WC_seq ?_
  refine WC_reg fun ds => ?_
  refine WL_q rfl (q_assign lk_const) ?_
  refine WL_nil ?_
  refine then_n ?_
  refine WC_seq ?_
  refine WC_reg fun ds => ?_
  refine WL_q rfl (q_move (lk1 rfl <| lk_entry rfl)) ?_
  refine WL_q rfl (q_move (lk2 rfl <| lk_entry rfl)) ?_
  refine WL_x rfl (x_call bd_62 lk_func (.cons (lk1 rfl <| lk0) (.cons (lk0) .nil)) (give_ok hX hv hl hlt2 hn8) fun v1 F2 hr3 hF4 => ?_)
  replace hX := hX.mono hF4
  replace hl := hl.mono hF4
  obtain ⟨ws, L, rfl, hB⟩ := hr3
  refine WL_q rfl (q_move (lk0)) ?_
  refine WL_q rfl (q_extract (lk0) rfl) ?_
  refine WL_q rfl (q_extract (lk1 rfl <| lk0) rfl) ?_
  refine WL_q rfl (q_assign (lk1 rfl <| lk0)) ?_
  refine WL_q rfl (q_assign (lk1 rfl <| lk0)) ?_
  refine WL_nil ?_
  refine then_n ?_
  refine WC_seq ?_
  refine WC_reg fun ds => ?_
  refine WL_q rfl (q_move (lk0)) ?_
  refine WL_q rfl (q_geq (lk0) lk_const) ?_
  refine WL_q rfl (q_assign (lk0)) ?_
  refine WL_nil ?_
  refine then_n ?_
  refine WC_ret ?_
  refine post_ret rfl (.tmp (lk0) .nil) ?_
  show _ = _
  rw [← hB.is]; rfl
theorem ints_nats {F : Heap} {v : Value} {l : List Nat} (h : Ints F v (l.map fun (n : Nat) => (n : Int))) : Nats F v l := by
  have := h.nats (by simp)
  rwa [List.map_map, show (Int.toNat ∘ fun (n : Nat) => (n : Int)) = id from rfl, List.map_id] at this
set_option maxRecDepth 100000 in
theorem can_top_ok {F : Heap} {vb vr vs vq : Value} {r : Room} (hr : RoomR F vb vr vs vq r) {v : Value} {xs : List Int} (hx : Ints F v xs) : Ok Try.prog 19 [.agg #[vb, vr, vs, vq], v].toArray F fun u _ => u = canV r xs := by
  refine Ok.intro Try.func19 rfl Try.ntmps19 rfl fun w0 => ?_
  by_cases h0 : someErr r xs = 0
  ·
   obtain ⟨l, rfl, hlt2, hasc⟩ := idx_of h0
   have hv := someErr_valid h0
   have hl := ints_nats hx
   have hn8 := asc_length hv hlt2 hasc
   refine WC_seq ?_
   refine WC_reg fun ds => ?_
   refine WL_x rfl (x_box (lk_entry rfl) rfl fun b1 hb1 nb1 => ?_)
   refine WL_q rfl (q_assign lk_const) ?_
   refine WL_q rfl (q_assign lk_const) ?_
   refine WL_nil ?_
   refine then_n ?_
   refine WC_seq ?_
   refine WC_reg fun ds => ?_
   refine WL_q rfl (q_loadN agg_27 (lk2 rfl <| lk0) rfl rfl (own_whole 0 rfl)) ?_
   refine WL_q rfl (q_move (lk4 rfl <| lk_entry rfl)) ?_
   refine WL_x rfl (x_call bd_57 lk_func (.cons (lk1 rfl <| lk0) (.cons (lk0) .nil)) (enter_good hr hx h0) fun v2 F3 hr4 hF5 => ?_)
   replace hr := hr.mono hF5
   replace hx := hx.mono hF5
   replace hl := hl.mono hF5
   obtain ⟨p, rfl, hlk⟩ := hr4
   obtain ⟨b, c1, c8, c3, wb, wr, ws, wq, wl, rfl, hX⟩ := hlk
   refine WL_q rfl (q_move (lk0)) ?_
   refine WL_q rfl (q_extract (lk0) rfl) ?_
   refine WL_q rfl (q_extract (lk1 rfl <| lk0) rfl) ?_
   refine WL_q rfl (q_assign (lk1 rfl <| lk0)) ?_
   refine WL_q rfl (q_assign (lk1 rfl <| lk0)) ?_
   refine WL_nil ?_
   refine then_n ?_
   refine WC_seq ?_
   refine WC_seq ?_
   refine WC_reg fun ds => ?_
   refine WL_q rfl (q_move (lk0)) ?_
   refine WL_q rfl (q_neq (lk0) lk_const) ?_
   refine WL_nil ?_
   refine then_n ?_
   refine WC_if_false (lk0) (by decide) ?_
   refine WC_skip ?_
   refine then_n ?_
   refine WC_seq ?_
   refine WC_reg fun ds => ?_
   refine WL_q rfl (q_move (lk2 rfl <| lk1 rfl <| lk0)) ?_
   refine WL_q rfl (q_move (lk8 rfl <| lk4 rfl <| lk2 rfl <| lk_entry rfl)) ?_
   refine WL_c rfl (q_call bd_60 lk_func (.cons (lk1 rfl <| lk0) (.cons (lk0) .nil)) (can_ok hX hv hl hlt2 hn8) (fun _ _ h => h)) ?_
   refine WL_q rfl (q_assign (lk0)) ?_
   refine WL_q rfl (q_assign lk_const) ?_
   refine WL_nil ?_
   refine then_n ?_
   refine WC_ret ?_
   refine post_ret rfl (.tmp (lk1 rfl <| lk0) (.tmp (lk0) .nil)) ?_
   show _ = canV r _
   rw [canV_ok h0]; rfl
  ·
   refine WC_seq ?_
   refine WC_reg fun ds => ?_
   refine WL_x rfl (x_box (lk_entry rfl) rfl fun b6 hb6 nb6 => ?_)
   refine WL_q rfl (q_assign lk_const) ?_
   refine WL_q rfl (q_assign lk_const) ?_
   refine WL_nil ?_
   refine then_n ?_
   refine WC_seq ?_
   refine WC_reg fun ds => ?_
   refine WL_q rfl (q_loadN agg_27 (lk2 rfl <| lk0) rfl rfl (own_whole 0 rfl)) ?_
   refine WL_q rfl (q_move (lk4 rfl <| lk_entry rfl)) ?_
   refine WL_c rfl (q_call bd_57 lk_func (.cons (lk1 rfl <| lk0) (.cons (lk0) .nil)) (enter_bad hr hx h0) (fun _ _ h => h)) ?_
   refine WL_q rfl (q_move (lk0)) ?_
   refine WL_q rfl (q_extract (lk0) rfl) ?_
   refine WL_q rfl (q_extract (lk1 rfl <| lk0) rfl) ?_
   refine WL_q rfl (q_assign (lk1 rfl <| lk0)) ?_
   refine WL_q rfl (q_assign (lk1 rfl <| lk0)) ?_
   refine WL_nil ?_
   refine then_n ?_
   refine WC_seq ?_
   refine WC_seq ?_
   refine WC_reg fun ds => ?_
   refine WL_q rfl (q_move (lk0)) ?_
   refine WL_q rfl (q_neq (lk0) lk_const) ?_
   refine WL_nil ?_
   refine then_n ?_
   refine WC_if_true (lk0) (decide_eq_true h0) ?_
   refine WC_seq ?_
   refine WC_reg fun ds => ?_
   refine WL_q rfl (q_move (lk2 rfl <| lk0)) ?_
   refine WL_q rfl (q_assign lk_const) ?_
   refine WL_q rfl (q_assign (lk1 rfl <| lk0)) ?_
   refine WL_nil ?_
   refine then_n ?_
   refine WC_ret ?_
   refine then_r ?_
   refine post_ret rfl (.tmp (lk1 rfl <| lk0) (.tmp (lk0) .nil)) ?_
   show _ = canV r _
   rw [canV_bad h0]; rfl
set_option maxRecDepth 100000 in
theorem seats_top_ok {F : Heap} {vb vr vs vq : Value} {r : Room} (hr : RoomR F vb vr vs vq r) {v : Value} {xs : List Int} (hx : Ints F v xs) : Ok Try.prog 22 [.agg #[vb, vr, vs, vq], v].toArray F fun u F' => ∃ ws, u = .tuple #[ws, .int .i64 (seatsE r xs).2.1, .int .i64 (seatsE r xs).2.2] ∧ Nats F' ws (seatsE r xs).1 := by
  refine Ok.intro Try.func22 rfl Try.ntmps22 rfl fun w0 => ?_
  by_cases h0 : someErr r xs = 0
  ·
   obtain ⟨l, rfl, hlt2, hasc⟩ := idx_of h0
   have hv := someErr_valid h0
   have hl := ints_nats hx
   have hn8 := asc_length hv hlt2 hasc
   refine WC_seq ?_
   refine WC_reg fun ds => ?_
   refine WL_x rfl (x_box (lk_entry rfl) rfl fun b1 hb1 nb1 => ?_)
   refine WL_q rfl (q_assign lk_const) ?_
   refine WL_q rfl (q_assign lk_const) ?_
   refine WL_q rfl (q_assign lk_const) ?_
   refine WL_nil ?_
   refine then_n ?_
   refine WC_seq ?_
   refine WC_reg fun ds => ?_
   refine WL_q rfl (q_loadN agg_27 (lk2 rfl <| lk1 rfl <| lk0) rfl rfl (own_whole 0 rfl)) ?_
   refine WL_q rfl (q_move (lk4 rfl <| lk1 rfl <| lk_entry rfl)) ?_
   refine WL_x rfl (x_call bd_57 lk_func (.cons (lk1 rfl <| lk0) (.cons (lk0) .nil)) (enter_good hr hx h0) fun v2 F3 hr4 hF5 => ?_)
   replace hr := hr.mono hF5
   replace hx := hx.mono hF5
   replace hl := hl.mono hF5
   obtain ⟨p, rfl, hlk⟩ := hr4
   obtain ⟨b, c1, c8, c3, wb, wr, ws, wq, wl, rfl, hX⟩ := hlk
   refine WL_q rfl (q_move (lk0)) ?_
   refine WL_q rfl (q_extract (lk0) rfl) ?_
   refine WL_q rfl (q_extract (lk1 rfl <| lk0) rfl) ?_
   refine WL_q rfl (q_assign (lk1 rfl <| lk0)) ?_
   refine WL_q rfl (q_assign (lk1 rfl <| lk0)) ?_
   refine WL_nil ?_
   refine then_n ?_
   refine WC_seq ?_
   refine WC_seq ?_
   refine WC_reg fun ds => ?_
   refine WL_q rfl (q_move (lk0)) ?_
   refine WL_q rfl (q_neq (lk0) lk_const) ?_
   refine WL_nil ?_
   refine then_n ?_
   refine WC_if_false (lk0) (by decide) ?_
   rcases hA : allR r l with _ | ⟨s, m⟩
   ·
    refine WC_skip ?_
    refine then_n ?_
    refine WC_seq ?_
    refine WC_seq ?_
    refine WC_reg fun ds => ?_
    refine WL_q rfl (q_move (lk2 rfl <| lk1 rfl <| lk0)) ?_
    refine WL_q rfl (q_move (lk8 rfl <| lk4 rfl <| lk2 rfl <| lk1 rfl <| lk_entry rfl)) ?_
    refine WL_x rfl (x_call bd_62 lk_func (.cons (lk1 rfl <| lk0) (.cons (lk0) .nil)) (give_ok hX hv hl hlt2 hn8) fun v6 F7 hr8 hF9 => ?_)
    replace hr := hr.mono hF9
    replace hx := hx.mono hF9
    replace hl := hl.mono hF9
    replace hX := hX.mono hF9
    obtain ⟨ws, L2, rfl, hB⟩ := hr8
    rw [hA] at hB
    obtain ⟨rfl, rfl⟩ := hB.no rfl
    refine WL_q rfl (q_move (lk0)) ?_
    refine WL_q rfl (q_extract (lk0) rfl) ?_
    refine WL_q rfl (q_extract (lk1 rfl <| lk0) rfl) ?_
    refine WL_q rfl (q_assign (lk1 rfl <| lk0)) ?_
    refine WL_q rfl (q_assign (lk1 rfl <| lk0)) ?_
    refine WL_nil ?_
    refine then_n ?_
    refine WC_seq ?_
    refine WC_reg fun ds => ?_
    refine WL_q rfl (q_move (lk0)) ?_
    refine WL_q rfl (q_lss (lk0) lk_const) ?_
    refine WL_nil ?_
    refine then_n ?_
    refine WC_if_true (lk0) (by decide) ?_
    refine WC_seq ?_
    refine WC_reg fun ds => ?_
    refine WL_q rfl (q_assign lk_const) ?_
    refine WL_q rfl (q_assign lk_const) ?_
    refine WL_q rfl (q_assign lk_const) ?_
    refine WL_nil ?_
    refine then_n ?_
    refine WC_ret ?_
    refine then_r ?_
    refine post_ret rfl (.tmp (lk2 rfl <| lk0) (.tmp (lk1 rfl <| lk0) (.tmp (lk0) .nil))) ?_
    rw [seatsE_none h0 hA]
    exact ⟨_, rfl, Sl.nil⟩
   ·
    refine WC_skip ?_
    refine then_n ?_
    refine WC_seq ?_
    refine WC_seq ?_
    refine WC_reg fun ds => ?_
    refine WL_q rfl (q_move (lk2 rfl <| lk1 rfl <| lk0)) ?_
    refine WL_q rfl (q_move (lk8 rfl <| lk4 rfl <| lk2 rfl <| lk1 rfl <| lk_entry rfl)) ?_
    refine WL_x rfl (x_call bd_62 lk_func (.cons (lk1 rfl <| lk0) (.cons (lk0) .nil)) (give_ok hX hv hl hlt2 hn8) fun v10 F11 hr12 hF13 => ?_)
    replace hr := hr.mono hF13
    replace hx := hx.mono hF13
    replace hl := hl.mono hF13
    replace hX := hX.mono hF13
    obtain ⟨ws, L2, rfl, hB⟩ := hr12
    rw [hA] at hB
    obtain ⟨rfl, hws, hm0⟩ := hB.so _ _ rfl
    refine WL_q rfl (q_move (lk0)) ?_
    refine WL_q rfl (q_extract (lk0) rfl) ?_
    refine WL_q rfl (q_extract (lk1 rfl <| lk0) rfl) ?_
    refine WL_q rfl (q_assign (lk1 rfl <| lk0)) ?_
    refine WL_q rfl (q_assign (lk1 rfl <| lk0)) ?_
    refine WL_nil ?_
    refine then_n ?_
    refine WC_seq ?_
    refine WC_reg fun ds => ?_
    refine WL_q rfl (q_move (lk0)) ?_
    refine WL_q rfl (q_lss (lk0) lk_const) ?_
    refine WL_nil ?_
    refine then_n ?_
    refine WC_if_false (lk0) (decide_eq_false (by omega)) ?_
    refine WC_skip ?_
    refine then_n ?_
    refine WC_seq ?_
    refine WC_reg fun ds => ?_
    refine WL_q rfl (q_move (lk2 rfl <| lk1 rfl <| lk0)) ?_
    refine WL_q rfl (q_move (lk2 rfl <| lk1 rfl <| lk0)) ?_
    refine WL_q rfl (q_assign (lk1 rfl <| lk0)) ?_
    refine WL_q rfl (q_assign (lk1 rfl <| lk0)) ?_
    refine WL_q rfl (q_assign lk_const) ?_
    refine WL_nil ?_
    refine then_n ?_
    refine WC_ret ?_
    refine post_ret rfl (.tmp (lk2 rfl <| lk0) (.tmp (lk1 rfl <| lk0) (.tmp (lk0) .nil))) ?_
    rw [seatsE_some h0 hA]
    exact ⟨_, rfl, hws⟩
  ·
   refine WC_seq ?_
   refine WC_reg fun ds => ?_
   refine WL_x rfl (x_box (lk_entry rfl) rfl fun b14 hb14 nb14 => ?_)
   refine WL_q rfl (q_assign lk_const) ?_
   refine WL_q rfl (q_assign lk_const) ?_
   refine WL_q rfl (q_assign lk_const) ?_
   refine WL_nil ?_
   refine then_n ?_
   refine WC_seq ?_
   refine WC_reg fun ds => ?_
   refine WL_q rfl (q_loadN agg_27 (lk2 rfl <| lk1 rfl <| lk0) rfl rfl (own_whole 0 rfl)) ?_
   refine WL_q rfl (q_move (lk4 rfl <| lk1 rfl <| lk_entry rfl)) ?_
   refine WL_c rfl (q_call bd_57 lk_func (.cons (lk1 rfl <| lk0) (.cons (lk0) .nil)) (enter_bad hr hx h0) (fun _ _ h => h)) ?_
   refine WL_q rfl (q_move (lk0)) ?_
   refine WL_q rfl (q_extract (lk0) rfl) ?_
   refine WL_q rfl (q_extract (lk1 rfl <| lk0) rfl) ?_
   refine WL_q rfl (q_assign (lk1 rfl <| lk0)) ?_
   refine WL_q rfl (q_assign (lk1 rfl <| lk0)) ?_
   refine WL_nil ?_
   refine then_n ?_
   refine WC_seq ?_
   refine WC_seq ?_
   refine WC_reg fun ds => ?_
   refine WL_q rfl (q_move (lk0)) ?_
   refine WL_q rfl (q_neq (lk0) lk_const) ?_
   refine WL_nil ?_
   refine then_n ?_
   refine WC_if_true (lk0) (decide_eq_true h0) ?_
   refine WC_seq ?_
   refine WC_reg fun ds => ?_
   refine WL_q rfl (q_move (lk2 rfl <| lk0)) ?_
   refine WL_q rfl (q_assign lk_const) ?_
   refine WL_q rfl (q_assign lk_const) ?_
   refine WL_q rfl (q_assign (lk2 rfl <| lk0)) ?_
   refine WL_nil ?_
   refine then_n ?_
   refine WC_ret ?_
   refine then_r ?_
   refine post_ret rfl (.tmp (lk2 rfl <| lk0) (.tmp (lk1 rfl <| lk0) (.tmp (lk0) .nil))) ?_
   rw [seatsE_bad h0]
   exact ⟨_, rfl, Sl.nil⟩
end Go.Proofs.Ytbcjfkcpfjccdaa
namespace Go.Proofs.Ytbcjfkcpfjccdaa
open Go.RowKit
theorem bd_103 : Body Try.prog 103 := body_of (by kernel_rfl)
theorem bd_104 : Body Try.prog 104 := body_of (by kernel_rfl)
theorem bd_108 : Body Try.prog 108 := body_of (by kernel_rfl)
theorem bd_92 : Body Try.prog 92 := body_of (by kernel_rfl)
theorem bd_95 : Body Try.prog 95 := body_of (by kernel_rfl)
theorem sl_42 : SliceT Try.prog 42 60 2 := sliceT_of (by kernel_rfl)
theorem stoodSp : Try.prog.stoodInHeld 60 = false := by kernel_rfl
theorem guardSp : Try.prog.eqGuardType Try.prog.depth 60 = false := by kernel_rfl
theorem oneSp : OneT Try.prog 3 := oneT_of (by kernel_rfl)
set_option maxRecDepth 100000 in
theorem refInts_ok {F : Heap} {v u : Value} {xs ys : List Int} (hx : Sl F v 1 intE xs) (hy : Sl F u 1 intE ys) : Ok Try.prog 24 [v, u].toArray F fun r _ => r = .bool (decide (xs = ys)) := by
  refine Ok.intro Try.func24 rfl Try.ntmps24 rfl fun w0 => ?_
  have hlen := hx.plain.lt
  have hlen2 := hy.plain.lt
  refine WC_seq ?_
  refine WC_reg fun ds => ?_
  refine WL_q rfl (q_assign lk_const) ?_
  refine WL_nil ?_
  refine then_n ?_
  refine WC_seq ?_
  refine WC_reg fun ds => ?_
  refine WL_q rfl (q_move (lk1 rfl <| lk_entry rfl)) ?_
  refine WL_q rfl (q_lenP sl_29 (lk0) hx.plain) ?_
  refine WL_q rfl (q_move (lk2 rfl <| lk1 rfl <| lk_entry rfl)) ?_
  refine WL_q rfl (q_lenP sl_29 (lk0) hy.plain) ?_
  refine WL_q rfl (q_eql (lk2 rfl <| lk0) (lk0)) ?_
  refine WL_q rfl (q_assign (lk0)) ?_
  refine WL_nil ?_
  refine then_n ?_
  refine WC_seq ?_
  refine WC_seq ?_
  refine WC_reg fun ds => ?_
  refine WL_q rfl (q_assign lk_const) ?_
  refine WL_nil ?_
  refine then_n ?_
  refine WC_block ?_
  refine WC_loopN [5, 6, 12, 13, 14, 15, 16, 17, 18, 19, 20, 21, 22, 23, 24, 25, 26, 27, 28, 29] (fun m e σ => ∃ (k : Nat) (ok : Bool), m + k = xs.length + 1 ∧ e 6 = .int .i64 k ∧ e 5 = .bool ok ∧ σ = ⟨F, []⟩ ∧ (ok = true → k ≤ xs.length ∧ xs.length = ys.length ∧ xs.take k = ys.take k) ∧ (ok = false → xs ≠ ys)) (xs.length + 1) ?_ ?_
  · refine ⟨0, _, by omega, (lk0), (lk1 rfl <| lk0), rfl, fun h => ⟨by omega, by have := of_decide_eq_true h; omega, rfl⟩, fun h he => ?_⟩; subst he; exact absurd rfl (of_decide_eq_false h)
  ·
   rintro m e _ ⟨k, ok, hm, hs6, hs5, rfl, hT, hF⟩
   cases ok
   ·
    refine WC_seq ?_
    refine WC_seq ?_
    refine WC_reg fun ds => ?_
    refine WL_q rfl (q_move (lk_in rfl hs5)) ?_
    refine WL_q rfl (q_move (lk0)) ?_
    refine WL_pass rfl rfl (lk0) (.inl (congrArg Value.bool rfl)) rfl ?_
    refine WL_pass rfl rfl (lk1 rfl <| lk0) (.inl (congrArg Value.bool rfl)) rfl ?_
    refine WL_pass rfl rfl (lk2 rfl <| lk0) (.inl (congrArg Value.bool rfl)) rfl ?_
    refine WL_pass rfl rfl (lk2 rfl <| lk1 rfl <| lk0) (.inl (congrArg Value.bool rfl)) rfl ?_
    refine WL_q rfl (q_pick_false (lk4 rfl <| lk0) rfl lk_const) ?_
    refine WL_nil ?_
    refine then_n ?_
    refine WC_if_false (lk0) rfl ?_
    refine WC_exit ?_
    refine then_x (then_x (exit_here ?_))
    refine then_n ?_
    refine WC_seq ?_
    refine WC_reg fun ds => ?_
    refine WL_q rfl (q_move (lk4 rfl <| lk2 rfl <| lk1 rfl <| lk_in rfl hs5)) ?_
    refine WL_q rfl (q_assign (lk0)) ?_
    refine WL_nil ?_
    refine then_n ?_
    refine WC_ret ?_
    refine post_ret rfl (.tmp (lk0) .nil) ?_
    show _ = _
    rw [decide_eq_false (hF rfl)]; rfl
   ·
    obtain ⟨hk, hll, htk⟩ := hT rfl
    refine WC_seq ?_
    refine WC_seq ?_
    refine WC_reg fun ds => ?_
    refine WL_q rfl (q_move (lk_in rfl hs5)) ?_
    refine WL_q rfl (q_move (lk0)) ?_
    refine WL_want rfl rfl (lk0) rfl ?_
    refine WL_q rfl (q_move (lk2 rfl <| lk_in rfl hs6)) ?_
    refine WL_want rfl rfl (lk1 rfl <| lk0) rfl ?_
    refine WL_q rfl (q_move (lk2 rfl <| lk1 rfl <| lk_off rfl <| lk8 rfl <| lk_entry rfl)) ?_
    refine WL_want rfl rfl (lk2 rfl <| lk0) rfl ?_
    refine WL_q rfl (q_lenP sl_29 (lk0) hx.plain) ?_
    refine WL_want rfl rfl (lk2 rfl <| lk1 rfl <| lk0) rfl ?_
    refine WL_q rfl (q_lss (lk2 rfl <| lk0) (lk0)) ?_
    refine WL_q rfl (q_pick_true (lk4 rfl <| lk0) rfl (lk0)) ?_
    refine WL_nil ?_
    refine then_n ?_
    by_cases hlt : k < xs.length
    ·
     refine WC_if_true (lk0) (by first | rfl | exact decide_eq_true (by omega)) ?_
     refine WC_skip ?_
     refine then_n ?_
     refine WC_seq ?_
     refine WC_block ?_
     refine WC_draw (.inl rfl) (fun _ _ h => h) (by kernel_rfl) (by kernel_rfl) fun ds => ?_
     refine WQ_q rfl (q_move (lk4 rfl <| lk2 rfl <| lk1 rfl <| lk_off rfl <| lk8 rfl <| lk_entry rfl)) ?_
     refine WQ_q rfl (q_move (lk8 rfl <| lk_in rfl hs6)) ?_
     refine WQ_q rfl (q_index  sl_29 (lk1 rfl <| lk0) hx.plain (lk0) rfl hlt) ?_
     refine WQ_q rfl (q_load1 one_3 (lk0) (hx.cell1 hlt rfl)) ?_
     refine WQ_q rfl (q_move (lk8 rfl <| lk2 rfl <| lk1 rfl <| lk_off rfl <| lk8 rfl <| lk_entry rfl)) ?_
     refine WQ_q rfl (q_move (lk8 rfl <| lk4 rfl <| lk_in rfl hs6)) ?_
     refine WQ_q rfl (q_index  sl_29 (lk1 rfl <| lk0) hy.plain (lk0) rfl (by omega)) ?_
     refine WQ_q rfl (q_load1 one_3 (lk0) (hy.cell1 (by omega) rfl)) ?_
     refine WQ_q rfl (q_eql (lk4 rfl <| lk0) (lk0)) ?_
     refine WQ_q rfl (q_assign (lk0)) ?_
     refine WQ_nil ?_
     refine block_n (then_n ?_)
     refine WC_reg fun ds => ?_
     refine WL_q rfl (q_move (lk16 rfl <| lk1 rfl <| lk_in rfl hs6)) ?_
     refine WL_q rfl (q_add (lk0) lk_const rfl (by omega) (by omega)) ?_
     refine WL_q rfl (q_assign (lk0)) ?_
     refine WL_nil ?_
     refine then_n ⟨_, m - 1, Off.eq (ou16 rfl <| ou4 rfl <| off_over), by omega, ?_⟩
     have hlt2 : k < ys.length := by omega
     refine ⟨k + 1, _, by omega, (lk0), (lk2 rfl <| lk1 rfl <| lk0), rfl, fun h => ⟨by omega, hll, take_succ_eq hlt hlt2 htk (of_decide_eq_true h)⟩, fun h => ne_at hlt hlt2 (of_decide_eq_false h)⟩
    ·
     refine WC_if_false (lk0) (by first | rfl | exact decide_eq_false (by omega)) ?_
     refine WC_exit ?_
     refine then_x (then_x (exit_here ?_))
     refine then_n ?_
     refine WC_seq ?_
     refine WC_reg fun ds => ?_
     refine WL_q rfl (q_move (lk4 rfl <| lk2 rfl <| lk1 rfl <| lk_in rfl hs5)) ?_
     refine WL_q rfl (q_assign (lk0)) ?_
     refine WL_nil ?_
     refine then_n ?_
     refine WC_ret ?_
     refine post_ret rfl (.tmp (lk0) .nil) ?_
     show _ = _
     obtain rfl : k = xs.length := by omega
     rw [decide_eq_true (eq_of_take hll htk)]; rfl
set_option maxRecDepth 100000 in
theorem refSpans_ok {F : Heap} {v u : Value} {xs ys : List (Int × Int)} (hx : Sl F v 2 spanE xs) (hy : Sl F u 2 spanE ys) : Ok Try.prog 27 [v, u].toArray F fun r _ => r = .bool (decide (xs = ys)) := by
  refine Ok.intro Try.func27 rfl Try.ntmps27 rfl fun w0 => ?_
  have hlen := hx.plain.lt
  have hlen2 := hy.plain.lt
  refine WC_seq ?_
  refine WC_reg fun ds => ?_
  refine WL_q rfl (q_assign lk_const) ?_
  refine WL_nil ?_
  refine then_n ?_
  refine WC_seq ?_
  refine WC_reg fun ds => ?_
  refine WL_q rfl (q_move (lk1 rfl <| lk_entry rfl)) ?_
  refine WL_q rfl (q_lenP sl_42 (lk0) hx.plain) ?_
  refine WL_q rfl (q_move (lk2 rfl <| lk1 rfl <| lk_entry rfl)) ?_
  refine WL_q rfl (q_lenP sl_42 (lk0) hy.plain) ?_
  refine WL_q rfl (q_eql (lk2 rfl <| lk0) (lk0)) ?_
  refine WL_q rfl (q_assign (lk0)) ?_
  refine WL_nil ?_
  refine then_n ?_
  refine WC_seq ?_
  refine WC_seq ?_
  refine WC_reg fun ds => ?_
  refine WL_q rfl (q_assign lk_const) ?_
  refine WL_nil ?_
  refine then_n ?_
  refine WC_block ?_
  refine WC_loopN [5, 6, 12, 13, 14, 15, 16, 17, 18, 19, 20, 21, 22, 23, 24, 25, 26, 27, 28, 29] (fun m e σ => ∃ (k : Nat) (ok : Bool), m + k = xs.length + 1 ∧ e 6 = .int .i64 k ∧ e 5 = .bool ok ∧ σ = ⟨F, []⟩ ∧ (ok = true → k ≤ xs.length ∧ xs.length = ys.length ∧ xs.take k = ys.take k) ∧ (ok = false → xs ≠ ys)) (xs.length + 1) ?_ ?_
  · refine ⟨0, _, by omega, (lk0), (lk1 rfl <| lk0), rfl, fun h => ⟨by omega, by have := of_decide_eq_true h; omega, rfl⟩, fun h he => ?_⟩; subst he; exact absurd rfl (of_decide_eq_false h)
  ·
   rintro m e _ ⟨k, ok, hm, hs6, hs5, rfl, hT, hF⟩
   cases ok
   ·
    refine WC_seq ?_
    refine WC_seq ?_
    refine WC_reg fun ds => ?_
    refine WL_q rfl (q_move (lk_in rfl hs5)) ?_
    refine WL_q rfl (q_move (lk0)) ?_
    refine WL_pass rfl rfl (lk0) (.inl (congrArg Value.bool rfl)) rfl ?_
    refine WL_pass rfl rfl (lk1 rfl <| lk0) (.inl (congrArg Value.bool rfl)) rfl ?_
    refine WL_pass rfl rfl (lk2 rfl <| lk0) (.inl (congrArg Value.bool rfl)) rfl ?_
    refine WL_pass rfl rfl (lk2 rfl <| lk1 rfl <| lk0) (.inl (congrArg Value.bool rfl)) rfl ?_
    refine WL_q rfl (q_pick_false (lk4 rfl <| lk0) rfl lk_const) ?_
    refine WL_nil ?_
    refine then_n ?_
    refine WC_if_false (lk0) rfl ?_
    refine WC_exit ?_
    refine then_x (then_x (exit_here ?_))
    refine then_n ?_
    refine WC_seq ?_
    refine WC_reg fun ds => ?_
    refine WL_q rfl (q_move (lk4 rfl <| lk2 rfl <| lk1 rfl <| lk_in rfl hs5)) ?_
    refine WL_q rfl (q_assign (lk0)) ?_
    refine WL_nil ?_
    refine then_n ?_
    refine WC_ret ?_
    refine post_ret rfl (.tmp (lk0) .nil) ?_
    show _ = _
    rw [decide_eq_false (hF rfl)]; rfl
   ·
    obtain ⟨hk, hll, htk⟩ := hT rfl
    refine WC_seq ?_
    refine WC_seq ?_
    refine WC_reg fun ds => ?_
    refine WL_q rfl (q_move (lk_in rfl hs5)) ?_
    refine WL_q rfl (q_move (lk0)) ?_
    refine WL_want rfl rfl (lk0) rfl ?_
    refine WL_q rfl (q_move (lk2 rfl <| lk_in rfl hs6)) ?_
    refine WL_want rfl rfl (lk1 rfl <| lk0) rfl ?_
    refine WL_q rfl (q_move (lk2 rfl <| lk1 rfl <| lk_off rfl <| lk8 rfl <| lk_entry rfl)) ?_
    refine WL_want rfl rfl (lk2 rfl <| lk0) rfl ?_
    refine WL_q rfl (q_lenP sl_42 (lk0) hx.plain) ?_
    refine WL_want rfl rfl (lk2 rfl <| lk1 rfl <| lk0) rfl ?_
    refine WL_q rfl (q_lss (lk2 rfl <| lk0) (lk0)) ?_
    refine WL_q rfl (q_pick_true (lk4 rfl <| lk0) rfl (lk0)) ?_
    refine WL_nil ?_
    refine then_n ?_
    by_cases hlt : k < xs.length
    ·
     refine WC_if_true (lk0) (by first | rfl | exact decide_eq_true (by omega)) ?_
     refine WC_skip ?_
     refine then_n ?_
     refine WC_seq ?_
     refine WC_block ?_
     refine WC_draw (.inl rfl) (fun _ _ h => h) (by kernel_rfl) (by kernel_rfl) fun ds => ?_
     refine WQ_q rfl (q_move (lk4 rfl <| lk2 rfl <| lk1 rfl <| lk_off rfl <| lk8 rfl <| lk_entry rfl)) ?_
     refine WQ_q rfl (q_move (lk8 rfl <| lk_in rfl hs6)) ?_
     refine WQ_q rfl (q_index  sl_42 (lk1 rfl <| lk0) hx.plain (lk0) rfl hlt) ?_
     refine WQ_q rfl (q_loadN agg_60 (lk0) rfl rfl (hx.whole hlt)) ?_
     refine WQ_q rfl (q_move (lk8 rfl <| lk2 rfl <| lk1 rfl <| lk_off rfl <| lk8 rfl <| lk_entry rfl)) ?_
     refine WQ_q rfl (q_move (lk8 rfl <| lk4 rfl <| lk_in rfl hs6)) ?_
     refine WQ_q rfl (q_index  sl_42 (lk1 rfl <| lk0) hy.plain (lk0) rfl (by omega)) ?_
     refine WQ_q rfl (q_loadN agg_60 (lk0) rfl rfl (hy.whole (by omega))) ?_
     refine WQ_q rfl (q_eqlZ2 Try.underlying60 stoodSp guardSp (by decide) (by decide) rfl rfl Try.underlying3 Try.underlying3 oneSp oneSp (lk4 rfl <| lk0) (lk0)) ?_
     refine WQ_q rfl (q_assign (lk0)) ?_
     refine WQ_nil ?_
     refine block_n (then_n ?_)
     refine WC_reg fun ds => ?_
     refine WL_q rfl (q_move (lk16 rfl <| lk1 rfl <| lk_in rfl hs6)) ?_
     refine WL_q rfl (q_add (lk0) lk_const rfl (by omega) (by omega)) ?_
     refine WL_q rfl (q_assign (lk0)) ?_
     refine WL_nil ?_
     refine then_n ⟨_, m - 1, Off.eq (ou16 rfl <| ou4 rfl <| off_over), by omega, ?_⟩
     have hlt2 : k < ys.length := by omega
     refine ⟨k + 1, _, by omega, (lk0), (lk2 rfl <| lk1 rfl <| lk0), rfl, fun h => ⟨by omega, hll, take_succ_eq hlt hlt2 htk (by simp only [Bool.and_eq_true, beq_iff_eq] at h; exact Prod.ext h.1 h.2)⟩, fun h => ne_at hlt hlt2 (by intro he; rw [he] at h; simp at h)⟩
    ·
     refine WC_if_false (lk0) (by first | rfl | exact decide_eq_false (by omega)) ?_
     refine WC_exit ?_
     refine then_x (then_x (exit_here ?_))
     refine then_n ?_
     refine WC_seq ?_
     refine WC_reg fun ds => ?_
     refine WL_q rfl (q_move (lk4 rfl <| lk2 rfl <| lk1 rfl <| lk_in rfl hs5)) ?_
     refine WL_q rfl (q_assign (lk0)) ?_
     refine WL_nil ?_
     refine then_n ?_
     refine WC_ret ?_
     refine post_ret rfl (.tmp (lk0) .nil) ?_
     show _ = _
     obtain rfl : k = xs.length := by omega
     rw [decide_eq_true (eq_of_take hll htk)]; rfl
theorem mem_any {l : List Nat} {z : Nat} : decide (z ∈ l) = l.any (fun x => decide ((z : Int) = (x : Nat))) := by
  rw [Bool.eq_iff_iff, decide_eq_true_iff, List.any_eq_true]
  constructor
  · exact fun h => ⟨z, h, decide_eq_true rfl⟩
  · rintro ⟨x, hx, he⟩
    have := of_decide_eq_true he
    have : z = x := by omega
    subst this
    exact hx
set_option maxRecDepth 100000 in
theorem index_nat {F : Heap} {v : Value} {l : List Nat} (hl : Nats F v l) (z : Nat) : Ok Try.prog 92 [v, .int .i64 (z : Int)].toArray F fun r _ => r = .int .i64 (findI (fun x => decide ((z : Int) = (x : Nat))) l) := by
  refine Ok.intro Try.func92 rfl Try.ntmps92 rfl fun w0 => ?_
  have hlen := hl.plain.lt
  refine WC_seq ?_
  refine WC_reg fun ds => ?_
  refine WL_q rfl (q_assign lk_const) ?_
  refine WL_nil ?_
  refine then_n ?_
  refine WC_seq ?_
  refine WC_seq ?_
  refine WC_reg fun ds => ?_
  refine WL_q rfl (q_move (lk1 rfl <| lk_entry rfl)) ?_
  refine WL_q rfl (q_lenP sl_29 (lk0) hl.plain) ?_
  refine WL_q rfl (q_move lk_const) ?_
  refine WL_nil ?_
  refine then_n ?_
  refine WC_block ?_
  refine WC_loopN [4, 5, 8, 9, 10, 11, 12, 13, 14, 15, 16, 17, 18] (fun m e σ => ∃ k : Nat, m + k = l.length ∧ e 8 = .int .i64 k ∧ σ = ⟨F, []⟩ ∧ ∀ j (hj : j < l.length), j < k → (fun x => decide ((z : Int) = (x : Nat))) l[j] = false) (l.length) ?_ ?_
  · exact ⟨0, by omega, (lk0), rfl, fun j hj h => absurd h (by omega)⟩
  ·
   rintro m e _ ⟨k, hm, hs8, rfl, hno⟩
   by_cases hlt : k < l.length
   ·
    refine WC_seq ?_
    refine WC_reg fun ds => ?_
    refine WL_q rfl (q_lss (lk_in rfl hs8) (lk_off rfl <| lk1 rfl <| lk0)) ?_
    refine WL_nil ?_
    refine then_n ?_
    refine WC_seq ?_
    refine WC_if_true (lk0) (by first | rfl | exact decide_eq_true (by omega)) ?_
    by_cases he : (z : Int) = l[k]
    ·
     refine WC_skip ?_
     refine then_n ?_
     refine WC_seq ?_
     refine WC_block ?_
     refine WC_seq ?_
     refine WC_reg fun ds => ?_
     refine WL_q rfl (q_move (lk1 rfl <| lk_in rfl hs8)) ?_
     refine WL_q rfl (q_assign (lk0)) ?_
     refine WL_nil ?_
     refine then_n ?_
     refine WC_seq ?_
     refine WC_reg fun ds => ?_
     refine WL_q rfl (q_move (lk2 rfl <| lk1 rfl <| lk_off rfl <| lk4 rfl <| lk_entry rfl)) ?_
     refine WL_q rfl (q_move (lk4 rfl <| lk_off rfl <| lk4 rfl <| lk_entry rfl)) ?_
     refine WL_q rfl (q_move (lk2 rfl <| lk0)) ?_
     refine WL_q rfl (q_index  sl_29 (lk1 rfl <| lk0) hl.plain (lk0) rfl hlt) ?_
     refine WL_q rfl (q_load1 one_3 (lk0) (hl.cell1 hlt rfl)) ?_
     refine WL_q rfl (q_eql (lk4 rfl <| lk0) (lk0)) ?_
     refine WL_nil ?_
     refine then_n ?_
     refine WC_if_true (lk0) (decide_eq_true he) ?_
     refine WC_seq ?_
     refine WC_reg fun ds => ?_
     refine WL_q rfl (q_move (lk4 rfl <| lk2 rfl <| lk0)) ?_
     refine WL_q rfl (q_assign (lk0)) ?_
     refine WL_nil ?_
     refine then_n ?_
     refine WC_ret ?_
     refine block_r (then_r (then_r (block_r (then_r ?_))))
     refine post_ret rfl (.tmp (lk0) .nil) ?_
     show _ = _
     rw [findI_some (p := (fun x => decide ((z : Int) = (x : Nat)))) hlt (decide_eq_true he) hno]; rfl
    ·
     refine WC_skip ?_
     refine then_n ?_
     refine WC_seq ?_
     refine WC_block ?_
     refine WC_seq ?_
     refine WC_reg fun ds => ?_
     refine WL_q rfl (q_move (lk1 rfl <| lk_in rfl hs8)) ?_
     refine WL_q rfl (q_assign (lk0)) ?_
     refine WL_nil ?_
     refine then_n ?_
     refine WC_seq ?_
     refine WC_reg fun ds => ?_
     refine WL_q rfl (q_move (lk2 rfl <| lk1 rfl <| lk_off rfl <| lk4 rfl <| lk_entry rfl)) ?_
     refine WL_q rfl (q_move (lk4 rfl <| lk_off rfl <| lk4 rfl <| lk_entry rfl)) ?_
     refine WL_q rfl (q_move (lk2 rfl <| lk0)) ?_
     refine WL_q rfl (q_index  sl_29 (lk1 rfl <| lk0) hl.plain (lk0) rfl hlt) ?_
     refine WL_q rfl (q_load1 one_3 (lk0) (hl.cell1 hlt rfl)) ?_
     refine WL_q rfl (q_eql (lk4 rfl <| lk0) (lk0)) ?_
     refine WL_nil ?_
     refine then_n ?_
     refine WC_if_false (lk0) (decide_eq_false he) ?_
     refine WC_skip ?_
     refine block_n (then_n ?_)
     refine WC_reg fun ds => ?_
     refine WL_q rfl (q_add (lk8 rfl <| lk1 rfl <| lk_in rfl hs8) lk_const rfl (by omega) (by omega)) ?_
     refine WL_q rfl (q_move (lk0)) ?_
     refine WL_nil ?_
     refine then_n ⟨_, m - 1, Off.eq (ou8 rfl <| ou2 rfl <| ou1 rfl <| off_over), by omega, ?_⟩
     refine ⟨k + 1, by omega, (lk0), rfl, fun j hj hjk => ?_⟩
     rcases Nat.lt_succ_iff_lt_or_eq.1 hjk with hjk | rfl
     · exact hno j hj hjk
     · exact decide_eq_false he
   ·
    refine WC_seq ?_
    refine WC_reg fun ds => ?_
    refine WL_q rfl (q_lss (lk_in rfl hs8) (lk_off rfl <| lk1 rfl <| lk0)) ?_
    refine WL_nil ?_
    refine then_n ?_
    refine WC_seq ?_
    refine WC_if_false (lk0) (by first | rfl | exact decide_eq_false (by omega)) ?_
    refine WC_exit ?_
    refine then_x (then_x (exit_here ?_))
    refine then_n ?_
    refine WC_seq ?_
    refine WC_reg fun ds => ?_
    refine WL_q rfl (q_assign lk_const) ?_
    refine WL_nil ?_
    refine then_n ?_
    refine WC_ret ?_
    refine post_ret rfl (.tmp (lk0) .nil) ?_
    show _ = _
    rw [findI_none (p := (fun x => decide ((z : Int) = (x : Nat)))) (fun j hj => hno j hj (by omega))]; rfl
set_option maxRecDepth 100000 in
theorem contains_nat {F : Heap} {v : Value} {l : List Nat} (hl : Nats F v l) (z : Nat) : Ok Try.prog 69 [v, .int .i64 (z : Int)].toArray F fun r _ => r = .bool (decide (z ∈ l)) := by
  refine Ok.intro Try.func69 rfl Try.ntmps69 rfl fun w0 => ?_
  refine WC_seq ?_
  refine WC_reg fun ds => ?_
  refine WL_q rfl (q_assign lk_const) ?_
  refine WL_nil ?_
  refine then_n ?_
  refine WC_seq ?_
  refine WC_reg fun ds => ?_
  refine WL_q rfl (q_move (lk1 rfl <| lk_entry rfl)) ?_
  refine WL_q rfl (q_move (lk2 rfl <| lk_entry rfl)) ?_
  refine WL_c rfl (q_call bd_92 lk_func (.cons (lk1 rfl <| lk0) (.cons (lk0) .nil)) (index_nat hl z) (fun _ _ h => h)) ?_
  refine WL_q rfl (q_geq (lk0) lk_const) ?_
  refine WL_q rfl (q_assign (lk0)) ?_
  refine WL_nil ?_
  refine then_n ?_
  refine WC_ret ?_
  refine post_ret rfl (.tmp (lk0) .nil) ?_
  show _ = _
  rw [mem_any, ← findI_any]; rfl
set_option maxRecDepth 100000 in
theorem isNaN_ok {F : Heap} (z : Int) : Ok Try.prog 104 [.int .i64 z].toArray F fun r _ => r = .bool false := by
  refine Ok.intro Try.func104 rfl Try.ntmps104 rfl fun w0 => ?_
  refine WC_seq ?_
  refine WC_reg fun ds => ?_
  refine WL_q rfl (q_assign lk_const) ?_
  refine WL_nil ?_
  refine then_n ?_
  refine WC_seq ?_
  refine WC_reg fun ds => ?_
  refine WL_q rfl (q_move (lk1 rfl <| lk_entry rfl)) ?_
  refine WL_q rfl (q_move (lk2 rfl <| lk_entry rfl)) ?_
  refine WL_q rfl (q_neq (lk1 rfl <| lk0) (lk0)) ?_
  refine WL_q rfl (q_assign (lk0)) ?_
  refine WL_nil ?_
  refine then_n ?_
  refine WC_ret ?_
  refine post_ret rfl (.tmp (lk0) .nil) ?_
  show _ = _
  simp [outOf]
set_option maxRecDepth 100000 in
theorem cmp_ok {F : Heap} (a b : Int) : Ok Try.prog 95 [.int .i64 a, .int .i64 b].toArray F fun r _ => r = .int .i64 (cmpZ a b) := by
  refine Ok.intro Try.func95 rfl Try.ntmps95 rfl fun w0 => ?_
  refine WC_seq ?_
  refine WC_reg fun ds => ?_
  refine WL_q rfl (q_assign lk_const) ?_
  refine WL_nil ?_
  refine then_n ?_
  refine WC_seq ?_
  refine WC_reg fun ds => ?_
  refine WL_q rfl (q_move (lk1 rfl <| lk_entry rfl)) ?_
  refine WL_c rfl (q_call bd_104 lk_func (.cons (lk0) .nil) (isNaN_ok _) (fun _ _ h => h)) ?_
  refine WL_q rfl (q_assign (lk0)) ?_
  refine WL_nil ?_
  refine then_n ?_
  refine WC_seq ?_
  refine WC_reg fun ds => ?_
  refine WL_q rfl (q_move (lk4 rfl <| lk_entry rfl)) ?_
  refine WL_c rfl (q_call bd_104 lk_func (.cons (lk0) .nil) (isNaN_ok _) (fun _ _ h => h)) ?_
  refine WL_q rfl (q_assign (lk0)) ?_
  refine WL_nil ?_
  refine then_n ?_
  refine WC_seq ?_
  refine WC_seq ?_
  refine WC_reg fun ds => ?_
  refine WL_q rfl (q_move (lk2 rfl <| lk1 rfl <| lk0)) ?_
  refine WL_nil ?_
  refine then_n ?_
  refine WC_if_false (lk0) rfl ?_
  refine WC_skip ?_
  refine then_n ?_
  refine WC_seq ?_
  refine WC_seq ?_
  refine WC_reg fun ds => ?_
  refine WL_q rfl (q_move (lk1 rfl <| lk0)) ?_
  refine WL_nil ?_
  refine then_n ?_
  refine WC_if_false (lk0) rfl ?_
  by_cases h1 : a < b
  ·
   refine WC_skip ?_
   refine then_n ?_
   refine WC_seq ?_
   refine WC_seq ?_
   refine WC_reg fun ds => ?_
   refine WL_q rfl (q_move (lk8 rfl <| lk1 rfl <| lk_entry rfl)) ?_
   refine WL_q rfl (q_move (lk8 rfl <| lk2 rfl <| lk_entry rfl)) ?_
   refine WL_q rfl (q_lss (lk1 rfl <| lk0) (lk0)) ?_
   refine WL_nil ?_
   refine then_n ?_
   refine WC_if_true (lk0) (by first | rfl | exact decide_eq_true (by omega)) ?_
   refine WC_seq ?_
   refine WC_reg fun ds => ?_
   refine WL_q rfl (q_assign lk_const) ?_
   refine WL_nil ?_
   refine then_n ?_
   refine WC_ret ?_
   refine then_r ?_
   refine post_ret rfl (.tmp (lk0) .nil) ?_
   show _ = _
   unfold cmpZ; rw [if_pos h1]; rfl
  ·
   refine WC_skip ?_
   refine then_n ?_
   refine WC_seq ?_
   refine WC_seq ?_
   refine WC_reg fun ds => ?_
   refine WL_q rfl (q_move (lk8 rfl <| lk1 rfl <| lk_entry rfl)) ?_
   refine WL_q rfl (q_move (lk8 rfl <| lk2 rfl <| lk_entry rfl)) ?_
   refine WL_q rfl (q_lss (lk1 rfl <| lk0) (lk0)) ?_
   refine WL_nil ?_
   refine then_n ?_
   refine WC_if_false (lk0) (by first | rfl | exact decide_eq_false (by omega)) ?_
   by_cases h2 : b < a
   ·
    refine WC_skip ?_
    refine then_n ?_
    refine WC_seq ?_
    refine WC_seq ?_
    refine WC_reg fun ds => ?_
    refine WL_q rfl (q_move (lk8 rfl <| lk4 rfl <| lk_entry rfl)) ?_
    refine WL_q rfl (q_move (lk8 rfl <| lk4 rfl <| lk1 rfl <| lk_entry rfl)) ?_
    refine WL_q rfl (q_gtr (lk1 rfl <| lk0) (lk0)) ?_
    refine WL_nil ?_
    refine then_n ?_
    refine WC_if_true (lk0) (by first | rfl | exact decide_eq_true (by omega)) ?_
    refine WC_seq ?_
    refine WC_reg fun ds => ?_
    refine WL_q rfl (q_assign lk_const) ?_
    refine WL_nil ?_
    refine then_n ?_
    refine WC_ret ?_
    refine then_r ?_
    refine post_ret rfl (.tmp (lk0) .nil) ?_
    show _ = _
    unfold cmpZ; rw [if_neg h1, if_pos h2]; rfl
   ·
    refine WC_skip ?_
    refine then_n ?_
    refine WC_seq ?_
    refine WC_seq ?_
    refine WC_reg fun ds => ?_
    refine WL_q rfl (q_move (lk8 rfl <| lk4 rfl <| lk_entry rfl)) ?_
    refine WL_q rfl (q_move (lk8 rfl <| lk4 rfl <| lk1 rfl <| lk_entry rfl)) ?_
    refine WL_q rfl (q_gtr (lk1 rfl <| lk0) (lk0)) ?_
    refine WL_nil ?_
    refine then_n ?_
    refine WC_if_false (lk0) (by first | rfl | exact decide_eq_false (by omega)) ?_
    refine WC_skip ?_
    refine then_n ?_
    refine WC_seq ?_
    refine WC_reg fun ds => ?_
    refine WL_q rfl (q_assign lk_const) ?_
    refine WL_nil ?_
    refine then_n ?_
    refine WC_ret ?_
    refine post_ret rfl (.tmp (lk0) .nil) ?_
    show _ = _
    unfold cmpZ; rw [if_neg h1, if_neg h2]; rfl
set_option maxRecDepth 100000 in
theorem compare_ok {F : Heap} {v u : Value} {xs ys : List Nat} (hx : Nats F v xs) (hy : Nats F u ys) : Ok Try.prog 74 [v, u].toArray F fun r _ => r = .int .i64 (cmpL xs ys) := by
  refine Ok.intro Try.func74 rfl Try.ntmps74 rfl fun w0 => ?_
  have hlen := hx.plain.lt
  have hlen2 := hy.plain.lt
  refine WC_seq ?_
  refine WC_reg fun ds => ?_
  refine WL_q rfl (q_assign lk_const) ?_
  refine WL_nil ?_
  refine then_n ?_
  refine WC_seq ?_
  refine WC_seq ?_
  refine WC_reg fun ds => ?_
  refine WL_q rfl (q_move (lk1 rfl <| lk_entry rfl)) ?_
  refine WL_q rfl (q_lenP sl_29 (lk0) hx.plain) ?_
  refine WL_q rfl (q_move lk_const) ?_
  refine WL_nil ?_
  refine then_n ?_
  refine WC_block ?_
  refine WC_loopN [4, 5, 6, 7, 8, 11, 12, 13, 14, 15, 16, 17, 18, 19, 20, 21, 22, 23, 24, 25, 26, 27, 28, 29, 30] (fun m e σ => ∃ k : Nat, m + k = xs.length ∧ k ≤ ys.length ∧ e 11 = .int .i64 k ∧ σ = ⟨F, []⟩ ∧ xs.take k = ys.take k) (xs.length) ?_ ?_
  · exact ⟨0, by omega, by omega, (lk0), rfl, rfl⟩
  ·
   rintro m e _ ⟨k, hm, hk, hs11, rfl, htk⟩
   by_cases hlt : k < xs.length
   ·
    refine WC_seq ?_
    refine WC_reg fun ds => ?_
    refine WL_q rfl (q_lss (lk_in rfl hs11) (lk_off rfl <| lk1 rfl <| lk0)) ?_
    refine WL_nil ?_
    refine then_n ?_
    refine WC_seq ?_
    refine WC_if_true (lk0) (by first | rfl | exact decide_eq_true (by omega)) ?_
    by_cases hlt2 : k < ys.length
    ·
     refine WC_skip ?_
     refine then_n ?_
     refine WC_seq ?_
     refine WC_block ?_
     refine WC_seq ?_
     refine WC_reg fun ds => ?_
     refine WL_q rfl (q_move (lk1 rfl <| lk_in rfl hs11)) ?_
     refine WL_q rfl (q_index  sl_29 (lk2 rfl <| lk_off rfl <| lk2 rfl <| lk0) hx.plain (lk2 rfl <| lk_in rfl hs11) rfl hlt) ?_
     refine WL_q rfl (q_load1 one_3 (lk0) (hx.cell1 hlt rfl)) ?_
     refine WL_q rfl (q_assign (lk2 rfl <| lk0)) ?_
     refine WL_q rfl (q_assign (lk1 rfl <| lk0)) ?_
     refine WL_nil ?_
     refine then_n ?_
     refine WC_seq ?_
     refine WC_seq ?_
     refine WC_reg fun ds => ?_
     refine WL_q rfl (q_move (lk1 rfl <| lk0)) ?_
     refine WL_q rfl (q_move (lk4 rfl <| lk2 rfl <| lk1 rfl <| lk_off rfl <| lk4 rfl <| lk_entry rfl)) ?_
     refine WL_q rfl (q_lenP sl_29 (lk0) hy.plain) ?_
     refine WL_q rfl (q_geq (lk2 rfl <| lk0) (lk0)) ?_
     refine WL_nil ?_
     refine then_n ?_
     refine WC_if_false (lk0) (by first | rfl | exact decide_eq_false (by omega)) ?_
     by_cases hc : cmpZ xs[k] ys[k] = 0
     ·
      refine WC_skip ?_
      refine then_n ?_
      refine WC_seq ?_
      refine WC_reg fun ds => ?_
      refine WL_q rfl (q_move (lk8 rfl <| lk2 rfl <| lk_off rfl <| lk4 rfl <| lk_entry rfl)) ?_
      refine WL_q rfl (q_move (lk4 rfl <| lk2 rfl <| lk0)) ?_
      refine WL_q rfl (q_index  sl_29 (lk1 rfl <| lk0) hy.plain (lk0) rfl hlt2) ?_
      refine WL_q rfl (q_load1 one_3 (lk0) (hy.cell1 hlt2 rfl)) ?_
      refine WL_q rfl (q_assign (lk0)) ?_
      refine WL_nil ?_
      refine then_n ?_
      refine WC_seq ?_
      refine WC_reg fun ds => ?_
      refine WL_q rfl (q_move (lk8 rfl <| lk1 rfl <| lk0)) ?_
      refine WL_q rfl (q_move (lk1 rfl <| lk0)) ?_
      refine WL_c rfl (q_call bd_95 lk_func (.cons (lk1 rfl <| lk0) (.cons (lk0) .nil)) (cmp_ok _ _) (fun _ _ h => h)) ?_
      refine WL_q rfl (q_assign (lk0)) ?_
      refine WL_nil ?_
      refine then_n ?_
      refine WC_seq ?_
      refine WC_reg fun ds => ?_
      refine WL_q rfl (q_move (lk0)) ?_
      refine WL_q rfl (q_neq (lk0) lk_const) ?_
      refine WL_nil ?_
      refine then_n ?_
      refine WC_if_false (lk0) (decide_eq_false (by simpa using hc)) ?_
      refine WC_skip ?_
      refine block_n (then_n ?_)
      refine WC_reg fun ds => ?_
      refine WL_q rfl (q_add (lk16 rfl <| lk4 rfl <| lk1 rfl <| lk_in rfl hs11) lk_const rfl (by omega) (by omega)) ?_
      refine WL_q rfl (q_move (lk0)) ?_
      refine WL_nil ?_
      refine then_n ⟨_, m - 1, Off.eq (ou16 rfl <| ou4 rfl <| ou2 rfl <| ou1 rfl <| off_over), by omega, ?_⟩
      exact ⟨k + 1, by omega, by omega, (lk0), rfl, take_succ_eq hlt hlt2 htk (by have := cmpZ_zero hc; omega)⟩
     ·
      refine WC_skip ?_
      refine then_n ?_
      refine WC_seq ?_
      refine WC_reg fun ds => ?_
      refine WL_q rfl (q_move (lk8 rfl <| lk2 rfl <| lk_off rfl <| lk4 rfl <| lk_entry rfl)) ?_
      refine WL_q rfl (q_move (lk4 rfl <| lk2 rfl <| lk0)) ?_
      refine WL_q rfl (q_index  sl_29 (lk1 rfl <| lk0) hy.plain (lk0) rfl hlt2) ?_
      refine WL_q rfl (q_load1 one_3 (lk0) (hy.cell1 hlt2 rfl)) ?_
      refine WL_q rfl (q_assign (lk0)) ?_
      refine WL_nil ?_
      refine then_n ?_
      refine WC_seq ?_
      refine WC_reg fun ds => ?_
      refine WL_q rfl (q_move (lk8 rfl <| lk1 rfl <| lk0)) ?_
      refine WL_q rfl (q_move (lk1 rfl <| lk0)) ?_
      refine WL_c rfl (q_call bd_95 lk_func (.cons (lk1 rfl <| lk0) (.cons (lk0) .nil)) (cmp_ok _ _) (fun _ _ h => h)) ?_
      refine WL_q rfl (q_assign (lk0)) ?_
      refine WL_nil ?_
      refine then_n ?_
      refine WC_seq ?_
      refine WC_reg fun ds => ?_
      refine WL_q rfl (q_move (lk0)) ?_
      refine WL_q rfl (q_neq (lk0) lk_const) ?_
      refine WL_nil ?_
      refine then_n ?_
      refine WC_if_true (lk0) (decide_eq_true hc) ?_
      refine WC_seq ?_
      refine WC_reg fun ds => ?_
      refine WL_q rfl (q_move (lk2 rfl <| lk0)) ?_
      refine WL_q rfl (q_assign (lk0)) ?_
      refine WL_nil ?_
      refine then_n ?_
      refine WC_ret ?_
      refine block_r (then_r (then_r (block_r (then_r ?_))))
      refine post_ret rfl (.tmp (lk0) .nil) ?_
      show _ = _
      rw [cmpL_at hlt hlt2 htk hc]; rfl
    ·
     refine WC_skip ?_
     refine then_n ?_
     refine WC_seq ?_
     refine WC_block ?_
     refine WC_seq ?_
     refine WC_reg fun ds => ?_
     refine WL_q rfl (q_move (lk1 rfl <| lk_in rfl hs11)) ?_
     refine WL_q rfl (q_index  sl_29 (lk2 rfl <| lk_off rfl <| lk2 rfl <| lk0) hx.plain (lk2 rfl <| lk_in rfl hs11) rfl hlt) ?_
     refine WL_q rfl (q_load1 one_3 (lk0) (hx.cell1 hlt rfl)) ?_
     refine WL_q rfl (q_assign (lk2 rfl <| lk0)) ?_
     refine WL_q rfl (q_assign (lk1 rfl <| lk0)) ?_
     refine WL_nil ?_
     refine then_n ?_
     refine WC_seq ?_
     refine WC_seq ?_
     refine WC_reg fun ds => ?_
     refine WL_q rfl (q_move (lk1 rfl <| lk0)) ?_
     refine WL_q rfl (q_move (lk4 rfl <| lk2 rfl <| lk1 rfl <| lk_off rfl <| lk4 rfl <| lk_entry rfl)) ?_
     refine WL_q rfl (q_lenP sl_29 (lk0) hy.plain) ?_
     refine WL_q rfl (q_geq (lk2 rfl <| lk0) (lk0)) ?_
     refine WL_nil ?_
     refine then_n ?_
     refine WC_if_true (lk0) (by first | rfl | exact decide_eq_true (by omega)) ?_
     refine WC_seq ?_
     refine WC_reg fun ds => ?_
     refine WL_q rfl (q_assign lk_const) ?_
     refine WL_nil ?_
     refine then_n ?_
     refine WC_ret ?_
     refine then_r (block_r (then_r (then_r (block_r (then_r ?_)))))
     refine post_ret rfl (.tmp (lk0) .nil) ?_
     show _ = _
     rw [cmpL_end1 hlt (by omega) htk]; rfl
   ·
    refine WC_seq ?_
    refine WC_reg fun ds => ?_
    refine WL_q rfl (q_lss (lk_in rfl hs11) (lk_off rfl <| lk1 rfl <| lk0)) ?_
    refine WL_nil ?_
    refine then_n ?_
    refine WC_seq ?_
    refine WC_if_false (lk0) (by first | rfl | exact decide_eq_false (by omega)) ?_
    obtain rfl : k = xs.length := by omega
    by_cases h2 : xs.length < ys.length
    ·
     refine WC_exit ?_
     refine then_x (then_x (exit_here ?_))
     refine then_n ?_
     refine WC_seq ?_
     refine WC_seq ?_
     refine WC_reg fun ds => ?_
     refine WL_q rfl (q_move (lk1 rfl <| lk_off rfl <| lk4 rfl <| lk_entry rfl)) ?_
     refine WL_q rfl (q_lenP sl_29 (lk0) hx.plain) ?_
     refine WL_q rfl (q_move (lk2 rfl <| lk1 rfl <| lk_off rfl <| lk4 rfl <| lk_entry rfl)) ?_
     refine WL_q rfl (q_lenP sl_29 (lk0) hy.plain) ?_
     refine WL_q rfl (q_lss (lk2 rfl <| lk0) (lk0)) ?_
     refine WL_nil ?_
     refine then_n ?_
     refine WC_if_true (lk0) (by first | rfl | exact decide_eq_true (by omega)) ?_
     refine WC_seq ?_
     refine WC_reg fun ds => ?_
     refine WL_q rfl (q_assign lk_const) ?_
     refine WL_nil ?_
     refine then_n ?_
     refine WC_ret ?_
     refine then_r ?_
     refine post_ret rfl (.tmp (lk0) .nil) ?_
     show _ = _
     rw [cmpL_end0 hk htk, if_pos h2]; rfl
    ·
     refine WC_exit ?_
     refine then_x (then_x (exit_here ?_))
     refine then_n ?_
     refine WC_seq ?_
     refine WC_seq ?_
     refine WC_reg fun ds => ?_
     refine WL_q rfl (q_move (lk1 rfl <| lk_off rfl <| lk4 rfl <| lk_entry rfl)) ?_
     refine WL_q rfl (q_lenP sl_29 (lk0) hx.plain) ?_
     refine WL_q rfl (q_move (lk2 rfl <| lk1 rfl <| lk_off rfl <| lk4 rfl <| lk_entry rfl)) ?_
     refine WL_q rfl (q_lenP sl_29 (lk0) hy.plain) ?_
     refine WL_q rfl (q_lss (lk2 rfl <| lk0) (lk0)) ?_
     refine WL_nil ?_
     refine then_n ?_
     refine WC_if_false (lk0) (by first | rfl | exact decide_eq_false (by omega)) ?_
     refine WC_skip ?_
     refine then_n ?_
     refine WC_seq ?_
     refine WC_reg fun ds => ?_
     refine WL_q rfl (q_assign lk_const) ?_
     refine WL_nil ?_
     refine then_n ?_
     refine WC_ret ?_
     refine post_ret rfl (.tmp (lk0) .nil) ?_
     show _ = _
     rw [cmpL_end0 hk htk, if_neg h2]; rfl
set_option maxRecDepth 100000 in
theorem clip_ok {F : Heap} {v : Value} {l : List Nat} (hl : Nats F v l) : Ok Try.prog 66 [v].toArray F fun r _ => r = clipV v := by
  refine Ok.intro Try.func66 rfl Try.ntmps66 rfl fun w0 => ?_
  refine WC_seq ?_
  refine WC_reg fun ds => ?_
  refine WL_q rfl (q_assign lk_const) ?_
  refine WL_nil ?_
  refine then_n ?_
  refine WC_seq ?_
  refine WC_reg fun ds => ?_
  refine WL_q rfl (q_move (lk1 rfl <| lk_entry rfl)) ?_
  refine WL_q rfl (q_move (lk2 rfl <| lk_entry rfl)) ?_
  refine WL_q rfl (q_lenP sl_29 (lk0) hl.plain) ?_
  refine WL_q rfl (q_move (lk4 rfl <| lk_entry rfl)) ?_
  refine WL_q rfl (q_lenP sl_29 (lk0) hl.plain) ?_
  refine WL_q rfl (q_slice3 sl_29 (lk4 rfl <| lk0) hl.plain (lk2 rfl <| lk0) rfl (lk0) rfl) ?_
  refine WL_q rfl (q_assign (lk0)) ?_
  refine WL_nil ?_
  refine then_n ?_
  refine WC_ret ?_
  refine post_ret rfl (.tmp (lk0) .nil) ?_
  rfl
set_option maxRecDepth 100000 in
theorem worth_ok {F : Heap} {b c1 c8 c3 : Nat} {vb vr vs vq vl : Value} {r : Room} (hX : RoomX num F b c1 c8 c3 vb vr vs vq vl r) (hv : Valid r) {v : Value} {l : List Nat} (hl : Nats F v l) (hlt2 : ∀ i ∈ l, i < r.reqs.length) : Ok Try.prog 91 [.pointer (some ⟨b, 0, none⟩), v].toArray F fun u _ => u = .int .i64 (worthL r l) := by
  refine Ok.intro Try.func91 rfl Try.ntmps91 rfl fun w0 => ?_
  have hlen := hl.plain.lt
  refine WC_seq ?_
  refine WC_reg fun ds => ?_
  refine WL_q rfl (q_assign lk_const) ?_
  refine WL_nil ?_
  refine then_n ?_
  refine WC_seq ?_
  refine WC_seq ?_
  refine WC_reg fun ds => ?_
  refine WL_q rfl (q_move (lk1 rfl <| lk_entry rfl)) ?_
  refine WL_q rfl (q_lenP sl_29 (lk0) hl.plain) ?_
  refine WL_q rfl (q_move lk_const) ?_
  refine WL_nil ?_
  refine then_n ?_
  refine WC_block ?_
  refine WC_loopN [4, 6, 9, 10, 11, 12, 13, 14, 15, 16, 17, 18, 19, 20, 21, 22, 23, 24] (fun m e σ => ∃ k : Nat, m + k = l.length ∧ e 9 = .int .i64 k ∧ e 4 = .int .i64 (worthL r (l.take k)) ∧ σ = ⟨F, []⟩) (l.length) ?_ ?_
  · exact ⟨0, by omega, (lk0), (lk2 rfl <| lk1 rfl <| lk0), rfl⟩
  ·
   rintro m e _ ⟨k, hm, hs9, hs4, rfl⟩
   by_cases hlt : k < l.length
   ·
    refine WC_seq ?_
    refine WC_reg fun ds => ?_
    refine WL_q rfl (q_lss (lk_in rfl hs9) (lk_off rfl <| lk1 rfl <| lk0)) ?_
    refine WL_nil ?_
    refine then_n ?_
    refine WC_seq ?_
    refine WC_if_true (lk0) (by first | rfl | exact decide_eq_true (by omega)) ?_
    have hlk := hlt2 _ (List.getElem_mem hlt)
    have hwb := worthL_bound hv (l := l.take (k + 1)) (fun i hi => hlt2 i (List.mem_of_mem_take hi))
    rw [List.length_take] at hwb
    refine WC_skip ?_
    refine then_n ?_
    refine WC_seq ?_
    refine WC_block ?_
    refine WC_seq ?_
    refine WC_reg fun ds => ?_
    refine WL_q rfl (q_index  sl_29 (lk1 rfl <| lk_off rfl <| lk2 rfl <| lk0) hl.plain (lk1 rfl <| lk_in rfl hs9) rfl hlt) ?_
    refine WL_q rfl (q_load1 one_3 (lk0) (hl.cell1 hlt rfl)) ?_
    refine WL_q rfl (q_assign (lk0)) ?_
    refine WL_nil ?_
    refine then_n ?_
    refine WC_reg fun ds => ?_
    refine WL_q rfl (q_move (lk4 rfl <| lk_in rfl hs4)) ?_
    refine WL_q rfl (q_move (lk4 rfl <| lk1 rfl <| lk_off rfl <| lk4 rfl <| lk_entry rfl)) ?_
    refine WL_q rfl (q_nilCheck (lk0)) ?_
    refine WL_q rfl (q_fieldAddrB fd_114_0 (lk0)) ?_
    refine WL_q rfl (q_fieldAddrB fd_27_3 (lk0)) ?_
    refine WL_q rfl (q_load1 one_25 (lk0) (CellF.own hX.blk rfl).cell) ?_
    refine WL_q rfl (q_move (lk4 rfl <| lk2 rfl <| lk0)) ?_
    refine WL_q rfl (q_index  sl_25 (lk1 rfl <| lk0) hX.room.reqs.plain (lk0) rfl hlk) ?_
    refine WL_q rfl (q_fieldAddr fd_58_3 (lk0)) ?_
    refine WL_q rfl (q_load1 one_3 (lk0) (hX.room.reqs.cell hlk rfl)) ?_
    refine WL_q rfl (q_add (lk8 rfl <| lk1 rfl <| lk0) (lk0) (show worthL r (l.take k) + r.reqs[l[k]].worth = worthL r (l.take (k + 1)) by rw [worthL_take hlt, req_at hlk]) (by omega) (by omega)) ?_
    refine WL_q rfl (q_assign (lk0)) ?_
    refine WL_nil ?_
    refine block_n (then_n ?_)
    refine WC_reg fun ds => ?_
    refine WL_q rfl (q_add (lk16 rfl <| lk_in rfl hs9) lk_const rfl (by omega) (by omega)) ?_
    refine WL_q rfl (q_move (lk0)) ?_
    refine WL_nil ?_
    refine then_n ⟨_, m - 1, Off.eq (ou16 rfl <| ou2 rfl <| off_over), by omega, ?_⟩
    exact ⟨k + 1, by omega, (lk0), (lk2 rfl <| lk0), rfl⟩
   ·
    refine WC_seq ?_
    refine WC_reg fun ds => ?_
    refine WL_q rfl (q_lss (lk_in rfl hs9) (lk_off rfl <| lk1 rfl <| lk0)) ?_
    refine WL_nil ?_
    refine then_n ?_
    refine WC_seq ?_
    refine WC_if_false (lk0) (by first | rfl | exact decide_eq_false (by omega)) ?_
    refine WC_exit ?_
    refine then_x (then_x (exit_here ?_))
    refine then_n ?_
    refine WC_seq ?_
    refine WC_reg fun ds => ?_
    refine WL_q rfl (q_move (lk1 rfl <| lk_in rfl hs4)) ?_
    refine WL_q rfl (q_assign (lk0)) ?_
    refine WL_nil ?_
    refine then_n ?_
    refine WC_ret ?_
    refine post_ret rfl (.tmp (lk0) .nil) ?_
    show _ = _
    rw [show l.take k = l from List.take_of_length_le (by omega)]; rfl
def lenTab : ByteArray := ⟨#[0, 1, 2, 2, 3, 3, 3, 3, 4, 4, 4, 4, 4, 4, 4, 4, 5, 5, 5, 5, 5, 5, 5, 5, 5, 5, 5, 5, 5, 5, 5, 5, 6, 6, 6, 6, 6, 6, 6, 6, 6, 6, 6, 6, 6, 6, 6, 6, 6, 6, 6, 6, 6, 6, 6, 6, 6, 6, 6, 6, 6, 6, 6, 6, 7, 7, 7, 7, 7, 7, 7, 7, 7, 7, 7, 7, 7, 7, 7, 7, 7, 7, 7, 7, 7, 7, 7, 7, 7, 7, 7, 7, 7, 7, 7, 7, 7, 7, 7, 7, 7, 7, 7, 7, 7, 7, 7, 7, 7, 7, 7, 7, 7, 7, 7, 7, 7, 7, 7, 7, 7, 7, 7, 7, 7, 7, 7, 7, 8, 8, 8, 8, 8, 8, 8, 8, 8, 8, 8, 8, 8, 8, 8, 8, 8, 8, 8, 8, 8, 8, 8, 8, 8, 8, 8, 8, 8, 8, 8, 8, 8, 8, 8, 8, 8, 8, 8, 8, 8, 8, 8, 8, 8, 8, 8, 8, 8, 8, 8, 8, 8, 8, 8, 8, 8, 8, 8, 8, 8, 8, 8, 8, 8, 8, 8, 8, 8, 8, 8, 8, 8, 8, 8, 8, 8, 8, 8, 8, 8, 8, 8, 8, 8, 8, 8, 8, 8, 8, 8, 8, 8, 8, 8, 8, 8, 8, 8, 8, 8, 8, 8, 8, 8, 8, 8, 8, 8, 8, 8, 8, 8, 8, 8, 8, 8, 8, 8, 8, 8, 8, 8, 8, 8, 8, 8, 8]⟩
theorem lenTab_all : (List.range 256).all (fun n => decide (n < 2 ^ (lenTab.data.getD n 0).toNat) && decide ((lenTab.data.getD n 0).toNat ≤ 8)) = true := by kernel_rfl
theorem lenTab_at {n : Nat} (hn : n < 256) : ∃ h : n < lenTab.size, n < 2 ^ (lenTab[n]'h).toNat ∧ (lenTab[n]'h).toNat ≤ 8 := by
  have hs : lenTab.size = 256 := by kernel_rfl
  refine ⟨by omega, ?_⟩
  have := List.all_eq_true.1 lenTab_all n (by simpa using hn)
  simp only [Bool.and_eq_true, decide_eq_true_eq] at this
  have e : lenTab.data.getD n 0 = lenTab[n]'(by omega) := by
    have : n < lenTab.data.size := by have : lenTab.data.size = 256 := hs; omega
    simp only [Array.getD, this, dif_pos]; rfl
  rw [e] at this
  exact this
set_option maxRecDepth 100000 in
theorem len64_ok {F : Heap} {n : Nat} (hn : n < 256) : Ok Try.prog 108 [.int .u64 (n : Int)].toArray F fun r _ => ∃ q : Nat, r = .int .i64 q ∧ n < 2 ^ q ∧ q ≤ 8 := by
  refine Ok.intro Try.func108 rfl Try.ntmps108 rfl fun w0 => ?_
  obtain ⟨hs, hq1, hq2⟩ := lenTab_at hn
  refine WC_seq ?_
  refine WC_reg fun ds => ?_
  refine WL_q rfl (q_assign lk_const) ?_
  refine WL_nil ?_
  refine then_n ?_
  refine WC_seq ?_
  refine WC_seq ?_
  refine WC_reg fun ds => ?_
  refine WL_q rfl (q_move (lk1 rfl <| lk_entry rfl)) ?_
  refine WL_q rfl (q_geq (lk0) lk_const) ?_
  refine WL_nil ?_
  refine then_n ?_
  refine WC_if_false (lk0) (by first | rfl | exact decide_eq_false (by omega)) ?_
  refine WC_skip ?_
  refine then_n ?_
  refine WC_seq ?_
  refine WC_seq ?_
  refine WC_reg fun ds => ?_
  refine WL_q rfl (q_move (lk2 rfl <| lk1 rfl <| lk_entry rfl)) ?_
  refine WL_q rfl (q_geq (lk0) lk_const) ?_
  refine WL_nil ?_
  refine then_n ?_
  refine WC_if_false (lk0) (by first | rfl | exact decide_eq_false (by omega)) ?_
  refine WC_skip ?_
  refine then_n ?_
  refine WC_seq ?_
  refine WC_seq ?_
  refine WC_reg fun ds => ?_
  refine WL_q rfl (q_move (lk4 rfl <| lk1 rfl <| lk_entry rfl)) ?_
  refine WL_q rfl (q_geq (lk0) lk_const) ?_
  refine WL_nil ?_
  refine then_n ?_
  refine WC_if_false (lk0) (by first | rfl | exact decide_eq_false (by omega)) ?_
  refine WC_skip ?_
  refine then_n ?_
  refine WC_seq ?_
  refine WC_reg fun ds => ?_
  refine WL_q rfl (q_move (lk4 rfl <| lk2 rfl <| lk0)) ?_
  refine WL_q rfl (q_move (lk8 rfl <| lk_entry rfl)) ?_
  refine WL_q rfl (q_convert ⟨_, Try.underlying159⟩ Try.underlying5 (lk0) (IntWalk.u8_in _ ⟨by omega, by omega⟩)) ?_
  refine WL_q rfl (q_indexS (s := lenTab) Try.underlying9 lk_const (lk0) rfl hs) ?_
  refine WL_q rfl (q_convB ⟨_, Try.underlying5⟩ Try.underlying3 (lk0)) ?_
  refine WL_q rfl (q_addB (lk4 rfl <| lk0) (lk0) (by decide) (by decide)) ?_
  refine WL_q rfl (q_assign (lk0)) ?_
  refine WL_nil ?_
  refine then_n ?_
  refine WC_ret ?_
  refine post_ret rfl (.tmp (lk0) .nil) ?_
  exact ⟨_, congrArg (Value.int .i64) (Int.zero_add _), hq1, hq2⟩
set_option maxRecDepth 100000 in
theorem len_ok {F : Heap} {n : Nat} (hn : n < 256) : Ok Try.prog 103 [.int .u64 (n : Int)].toArray F fun r _ => ∃ q : Nat, r = .int .i64 q ∧ n < 2 ^ q ∧ q ≤ 8 := by
  refine Ok.intro Try.func103 rfl Try.ntmps103 rfl fun w0 => ?_
  refine WC_seq ?_
  refine WC_reg fun ds => ?_
  refine WL_q rfl (q_assign lk_const) ?_
  refine WL_nil ?_
  refine then_n ?_
  refine WC_seq ?_
  refine WC_if_false lk_const rfl ?_
  refine WC_skip ?_
  refine then_n ?_
  refine WC_seq ?_
  refine WC_reg fun ds => ?_
  refine WL_q rfl (q_move (lk1 rfl <| lk_entry rfl)) ?_
  refine WL_x rfl (x_call bd_108 lk_func (.cons (lk0) .nil) (len64_ok hn) fun v1 F2 hr3 hF4 => ?_)
  obtain ⟨q, rfl, hq1, hq2⟩ := hr3
  refine WL_q rfl (q_assign (lk0)) ?_
  refine WL_nil ?_
  refine then_n ?_
  refine WC_ret ?_
  refine post_ret rfl (.tmp (lk0) .nil) ?_
  exact ⟨q, rfl, hq1, hq2⟩
set_option maxRecDepth 100000 in
theorem list_ok {F : Heap} {n : Nat} (hn : n < 256) : Ok Try.prog 94 [.int .i64 (n : Int)].toArray F fun u F' => Nats F' u (bitsL n) := by
  refine Ok.intro Try.func94 rfl Try.ntmps94 rfl fun w0 => ?_
  refine WC_seq ?_
  refine WC_reg fun ds => ?_
  refine WL_q rfl (q_assign lk_const) ?_
  refine WL_nil ?_
  refine then_n ?_
  refine WC_seq ?_
  refine WC_seq ?_
  refine WC_reg fun ds => ?_
  refine WL_q rfl (q_move (lk1 rfl <| lk_entry rfl)) ?_
  refine WL_q rfl (q_convert ⟨_, Try.underlying3⟩ Try.underlying154 (lk0) (IntWalk.u64_in _ ⟨by omega, by omega⟩)) ?_
  refine WL_x rfl (x_call bd_103 lk_func (.cons (lk0) .nil) (len_ok hn) fun v1 F2 hr3 hF4 => ?_)
  obtain ⟨q, rfl, hq1, hq2⟩ := hr3
  refine WL_q rfl (q_move lk_const) ?_
  refine WL_nil ?_
  refine then_n ?_
  refine WC_block ?_
  refine WC_loopN [2, 3, 7, 8, 9, 10, 11, 12, 13, 14, 15, 16, 17, 18, 19] (fun m e σ => ∃ k : Nat, m + k = q ∧ e 7 = .int .i64 k ∧ ∃ v R, e 2 = v ∧ Own 3 1 v (bitsTo n k).length ((bitsTo n k).flatMap natE) R ∧ σ = ⟨F2, R⟩) (q) ?_ ?_
  · exact ⟨0, by omega, (lk0), _, _, (lk4 rfl <| lk0), Own.nil, rfl⟩
  ·
   rintro m e _ ⟨k, hm, hs7, v2, R2, hs2, ho, rfl⟩; have hbl := bitsTo_length (set := n) (k := k)
   by_cases hlt : k < q
   ·
    refine WC_seq ?_
    refine WC_reg fun ds => ?_
    refine WL_q rfl (q_lss (lk_in rfl hs7) (lk_off rfl <| lk1 rfl <| lk0)) ?_
    refine WL_nil ?_
    refine then_n ?_
    refine WC_seq ?_
    refine WC_if_true (lk0) (by first | rfl | exact decide_eq_true (by omega)) ?_
    by_cases hb : n.testBit k = true
    ·
     refine WC_skip ?_
     refine then_n ?_
     refine WC_seq ?_
     refine WC_block ?_
     refine WC_seq ?_
     refine WC_reg fun ds => ?_
     refine WL_q rfl (q_move (lk1 rfl <| lk_in rfl hs7)) ?_
     refine WL_q rfl (q_assign (lk0)) ?_
     refine WL_nil ?_
     refine then_n ?_
     refine WC_seq ?_
     refine WC_reg fun ds => ?_
     refine WL_q rfl (q_move (lk2 rfl <| lk1 rfl <| lk_off rfl <| lk4 rfl <| lk1 rfl <| lk_entry rfl)) ?_
     refine WL_q rfl (q_move (lk1 rfl <| lk0)) ?_
     refine WL_q rfl (q_shr (lk1 rfl <| lk0) (lk0) rfl (by show k < 64; omega) shr_nat) ?_
     refine WL_q rfl (q_and (lk0) lk_const (m := n / 2 ^ k) (k := 1) rfl rfl (by have := Nat.div_le_self n (2 ^ k); omega) (by omega) rfl) ?_
     refine WL_q rfl (q_eql (lk0) lk_const) ?_
     refine WL_nil ?_
     refine then_n ?_
     refine WC_if_true (lk0) (by rw [bit_eq]; exact hb) ?_
     refine WC_reg fun ds => ?_
     refine WL_q rfl (q_move (lk8 rfl <| lk_in rfl hs2)) ?_
     refine WL_q rfl (q_move (lk4 rfl <| lk2 rfl <| lk0)) ?_
     refine WL_x rfl (x_build sl_29 zr_3 rfl (.cons (lk0) .nil) rfl rfl (by decide) (by simp [Value.oneCell']) fun b6 hb6 nb6 => ?_)
     refine WL_x rfl (x_append sl_29 el_3 (lk2 rfl <| lk0) ho (lk0) (src_box (s := 1) 0 rfl rfl (by simp [Value.oneCell'])) (by omega) (by omega) (.s <| .z) .last fun v7 R8 ho9 => ?_)
     have ho2 := ho9.snoc (x := k) rfl rfl
     refine WL_q rfl (q_assign (lk0)) ?_
     refine WL_nil ?_
     refine block_n (then_n ?_)
     refine WC_imp (fun _ _ h => h.drop (.cons _ <| .refl _)) ?_
     refine WC_reg fun ds => ?_
     refine WL_q rfl (q_add (lk8 rfl <| lk4 rfl <| lk1 rfl <| lk_in rfl hs7) lk_const rfl (by omega) (by omega)) ?_
     refine WL_q rfl (q_move (lk0)) ?_
     refine WL_nil ?_
     refine then_n ⟨_, m - 1, Off.eq (ou8 rfl <| ou4 rfl <| ou2 rfl <| ou1 rfl <| off_over), by omega, ?_⟩
     refine ⟨k + 1, by omega, (lk0), _, _, (lk2 rfl <| lk0), by rw [bitsTo_succ, if_pos hb]; exact ho2, rfl⟩
    ·
     refine WC_skip ?_
     refine then_n ?_
     refine WC_seq ?_
     refine WC_block ?_
     refine WC_seq ?_
     refine WC_reg fun ds => ?_
     refine WL_q rfl (q_move (lk1 rfl <| lk_in rfl hs7)) ?_
     refine WL_q rfl (q_assign (lk0)) ?_
     refine WL_nil ?_
     refine then_n ?_
     refine WC_seq ?_
     refine WC_reg fun ds => ?_
     refine WL_q rfl (q_move (lk2 rfl <| lk1 rfl <| lk_off rfl <| lk4 rfl <| lk1 rfl <| lk_entry rfl)) ?_
     refine WL_q rfl (q_move (lk1 rfl <| lk0)) ?_
     refine WL_q rfl (q_shr (lk1 rfl <| lk0) (lk0) rfl (by show k < 64; omega) shr_nat) ?_
     refine WL_q rfl (q_and (lk0) lk_const (m := n / 2 ^ k) (k := 1) rfl rfl (by have := Nat.div_le_self n (2 ^ k); omega) (by omega) rfl) ?_
     refine WL_q rfl (q_eql (lk0) lk_const) ?_
     refine WL_nil ?_
     refine then_n ?_
     refine WC_if_false (lk0) (by rw [bit_eq]; simpa using hb) ?_
     refine WC_skip ?_
     refine block_n (then_n ?_)
     refine WC_reg fun ds => ?_
     refine WL_q rfl (q_add (lk8 rfl <| lk_in rfl hs7) lk_const rfl (by omega) (by omega)) ?_
     refine WL_q rfl (q_move (lk0)) ?_
     refine WL_nil ?_
     refine then_n ⟨_, m - 1, Off.eq (ou8 rfl <| ou2 rfl <| off_over), by omega, ?_⟩
     exact ⟨k + 1, by omega, (lk0), _, _, (lk8 rfl <| lk2 rfl <| lk_in rfl hs2), by rw [bitsTo_succ, if_neg hb]; exact ho, rfl⟩
   ·
    refine WC_seq ?_
    refine WC_reg fun ds => ?_
    refine WL_q rfl (q_lss (lk_in rfl hs7) (lk_off rfl <| lk1 rfl <| lk0)) ?_
    refine WL_nil ?_
    refine then_n ?_
    refine WC_seq ?_
    refine WC_if_false (lk0) (by first | rfl | exact decide_eq_false (by omega)) ?_
    obtain rfl : k = q := by omega
    refine WC_freezeR (σ := ⟨_, _⟩) (by rfl) ho (.z) .last fun F10 hF11 hz12 => ?_
    have hn2 := ho.sl (fun _ => rfl) hz12 (by have := bitsTo_length (set := n) (k := k); omega)
    refine WC_exit ?_
    refine then_x (then_x (exit_here ?_))
    refine then_n ?_
    refine WC_seq ?_
    refine WC_reg fun ds => ?_
    refine WL_q rfl (q_move (lk1 rfl <| lk_in rfl hs2)) ?_
    refine WL_q rfl (q_assign (lk0)) ?_
    refine WL_nil ?_
    refine then_n ?_
    refine WC_ret ?_
    refine post_ret rfl (.tmp (lk0) .nil) ?_
    show Nats _ _ _
    rw [← bitsTo_all hq2 hq1]; exact hn2
end Go.Proofs.Ytbcjfkcpfjccdaa
namespace Go.Proofs.Ytbcjfkcpfjccdaa
open Go.RowKit
theorem bd_69 : Body Try.prog 69 := body_of (by kernel_rfl)
theorem bd_94 : Body Try.prog 94 := body_of (by kernel_rfl)
theorem one_123 : OneT Try.prog 123 := oneT_of (by kernel_rfl)
set_option maxRecDepth 100000 in
theorem without_ok {F : Heap} {v u : Value} {l xs : List Nat} (hl : Nats F v l) (hx : Nats F u xs) (hn : l.length ≤ 1000) : Ok Try.prog 75 [v, u].toArray F fun z F' => Nats F' z (wo l xs) := by
  refine Ok.intro Try.func75 rfl Try.ntmps75 rfl fun w0 => ?_
  have hlen := hl.plain.lt
  refine WC_seq ?_
  refine WC_reg fun ds => ?_
  refine WL_q rfl (q_assign lk_const) ?_
  refine WL_nil ?_
  refine then_n ?_
  refine WC_seq ?_
  refine WC_seq ?_
  refine WC_reg fun ds => ?_
  refine WL_q rfl (q_move (lk1 rfl <| lk_entry rfl)) ?_
  refine WL_q rfl (q_lenP sl_29 (lk0) hl.plain) ?_
  refine WL_q rfl (q_move lk_const) ?_
  refine WL_nil ?_
  refine then_n ?_
  refine WC_block ?_
  refine WC_loopN [4, 6, 9, 10, 11, 12, 13, 14, 15, 16, 17, 18, 19, 20, 21] (fun m e σ => ∃ k : Nat, m + k = l.length ∧ e 9 = .int .i64 k ∧ ∃ v R, e 4 = v ∧ Own 3 1 v (wo (l.take k) xs).length ((wo (l.take k) xs).flatMap natE) R ∧ σ = ⟨F, R⟩) (l.length) ?_ ?_
  · exact ⟨0, by omega, (lk0), _, _, (lk2 rfl <| lk1 rfl <| lk0), Own.nil, rfl⟩
  ·
   rintro m e _ ⟨k, hm1, hs9, v4, R4, hs4, ho, rfl⟩; have hwl : (wo (l.take k) xs).length ≤ l.length := Nat.le_trans (List.length_filter_le _ _) (by rw [List.length_take]; omega)
   by_cases hlt : k < l.length
   ·
    refine WC_seq ?_
    refine WC_reg fun ds => ?_
    refine WL_q rfl (q_lss (lk_in rfl hs9) (lk_off rfl <| lk1 rfl <| lk0)) ?_
    refine WL_nil ?_
    refine then_n ?_
    refine WC_seq ?_
    refine WC_if_true (lk0) (by first | rfl | exact decide_eq_true (by omega)) ?_
    by_cases hm : l[k] ∈ xs
    ·
     refine WC_skip ?_
     refine then_n ?_
     refine WC_seq ?_
     refine WC_block ?_
     refine WC_seq ?_
     refine WC_reg fun ds => ?_
     refine WL_q rfl (q_index  sl_29 (lk1 rfl <| lk_off rfl <| lk2 rfl <| lk0) hl.plain (lk1 rfl <| lk_in rfl hs9) rfl hlt) ?_
     refine WL_q rfl (q_load1 one_3 (lk0) (hl.cell1 hlt rfl)) ?_
     refine WL_q rfl (q_assign (lk0)) ?_
     refine WL_nil ?_
     refine then_n ?_
     refine WC_seq ?_
     refine WC_reg fun ds => ?_
     refine WL_q rfl (q_move (lk4 rfl <| lk_off rfl <| lk4 rfl <| lk_entry rfl)) ?_
     refine WL_q rfl (q_move (lk1 rfl <| lk0)) ?_
     refine WL_c rfl (q_call bd_69 lk_func (.cons (lk1 rfl <| lk0) (.cons (lk0) .nil)) (contains_nat hx _) (fun _ _ h => h)) ?_
     refine WL_q rfl (q_not (lk0)) ?_
     refine WL_nil ?_
     refine then_n ?_
     refine WC_if_false (lk0) (by rw [decide_eq_true hm]; rfl) ?_
     refine WC_skip ?_
     refine block_n (then_n ?_)
     refine WC_reg fun ds => ?_
     refine WL_q rfl (q_add (lk8 rfl <| lk_in rfl hs9) lk_const rfl (by omega) (by omega)) ?_
     refine WL_q rfl (q_move (lk0)) ?_
     refine WL_nil ?_
     refine then_n ⟨_, m - 1, Off.eq (ou8 rfl <| ou2 rfl <| off_over), by omega, ?_⟩
     exact ⟨k + 1, by omega, (lk0), _, _, (lk8 rfl <| lk2 rfl <| lk_in rfl hs4), by rw [wo_take hlt, if_pos hm]; exact ho, rfl⟩
    ·
     refine WC_skip ?_
     refine then_n ?_
     refine WC_seq ?_
     refine WC_block ?_
     refine WC_seq ?_
     refine WC_reg fun ds => ?_
     refine WL_q rfl (q_index  sl_29 (lk1 rfl <| lk_off rfl <| lk2 rfl <| lk0) hl.plain (lk1 rfl <| lk_in rfl hs9) rfl hlt) ?_
     refine WL_q rfl (q_load1 one_3 (lk0) (hl.cell1 hlt rfl)) ?_
     refine WL_q rfl (q_assign (lk0)) ?_
     refine WL_nil ?_
     refine then_n ?_
     refine WC_seq ?_
     refine WC_reg fun ds => ?_
     refine WL_q rfl (q_move (lk4 rfl <| lk_off rfl <| lk4 rfl <| lk_entry rfl)) ?_
     refine WL_q rfl (q_move (lk1 rfl <| lk0)) ?_
     refine WL_c rfl (q_call bd_69 lk_func (.cons (lk1 rfl <| lk0) (.cons (lk0) .nil)) (contains_nat hx _) (fun _ _ h => h)) ?_
     refine WL_q rfl (q_not (lk0)) ?_
     refine WL_nil ?_
     refine then_n ?_
     refine WC_if_true (lk0) (by rw [decide_eq_false hm]; rfl) ?_
     refine WC_reg fun ds => ?_
     refine WL_q rfl (q_move (lk8 rfl <| lk_in rfl hs4)) ?_
     refine WL_q rfl (q_move (lk4 rfl <| lk1 rfl <| lk0)) ?_
     refine WL_x rfl (x_build sl_29 zr_3 rfl (.cons (lk0) .nil) rfl rfl (by decide) (by simp [Value.oneCell']) fun b2 hb2 nb2 => ?_)
     refine WL_x rfl (x_append sl_29 el_3 (lk2 rfl <| lk0) ho (lk0) (src_box (s := 1) 0 rfl rfl (by simp [Value.oneCell'])) (by omega) (by omega) (.s <| .z) .last fun v3 R4 ho5 => ?_)
     have ho2 := ho5.snoc (x := l[k]) rfl rfl
     refine WL_q rfl (q_assign (lk0)) ?_
     refine WL_nil ?_
     refine block_n (then_n ?_)
     refine WC_imp (fun _ _ h => h.drop (.cons _ <| .refl _)) ?_
     refine WC_reg fun ds => ?_
     refine WL_q rfl (q_add (lk8 rfl <| lk4 rfl <| lk1 rfl <| lk_in rfl hs9) lk_const rfl (by omega) (by omega)) ?_
     refine WL_q rfl (q_move (lk0)) ?_
     refine WL_nil ?_
     refine then_n ⟨_, m - 1, Off.eq (ou8 rfl <| ou4 rfl <| ou2 rfl <| ou1 rfl <| off_over), by omega, ?_⟩
     exact ⟨k + 1, by omega, (lk0), _, _, (lk2 rfl <| lk0), by rw [wo_take hlt, if_neg hm]; exact ho2, rfl⟩
   ·
    refine WC_seq ?_
    refine WC_reg fun ds => ?_
    refine WL_q rfl (q_lss (lk_in rfl hs9) (lk_off rfl <| lk1 rfl <| lk0)) ?_
    refine WL_nil ?_
    refine then_n ?_
    refine WC_seq ?_
    refine WC_if_false (lk0) (by first | rfl | exact decide_eq_false (by omega)) ?_
    refine WC_freezeR (σ := ⟨_, _⟩) (by rfl) ho (.z) .last fun F6 hF7 hz8 => ?_
    replace hl := hl.mono hF7
    replace hx := hx.mono hF7
    have hn2 := ho.sl (fun _ => rfl) hz8 (by omega)
    refine WC_exit ?_
    refine then_x (then_x (exit_here ?_))
    refine then_n ?_
    refine WC_seq ?_
    refine WC_reg fun ds => ?_
    refine WL_q rfl (q_move (lk1 rfl <| lk_in rfl hs4)) ?_
    refine WL_q rfl (q_assign (lk0)) ?_
    refine WL_nil ?_
    refine then_n ?_
    refine WC_ret ?_
    refine post_ret rfl (.tmp (lk0) .nil) ?_
    show Nats _ _ _
    rw [show wo l xs = wo (l.take k) xs by rw [List.take_of_length_le (by omega)]]; exact hn2
set_option maxRecDepth 100000 in
theorem sets1_iter {F0 : Heap} {b c1 c8 c3 : Nat} {vb vr vs vq vl : Value} {r : Room} (hX0 : RoomX num F0 b c1 c8 c3 vb vr vs vq vl r) (hv : Valid r) {d1 d2 d3 d4 : Nat} {of : Int} {w : Nat} {fv : Value} (z1 : F0 d1 = some (bx 98 [ptr b])) (z2 : F0 d2 = some (bx 3 [.int .i64 of])) (z3 : F0 d3 = some (bx 3 [.int .i64 (w : Int)])) (z4 : F0 d4 = some (bx 123 [fv])) (hw8 : w < 256) (num' : List Nat → Int)
    (hnum : ∀ G v l, F0.le G → Nats G v l → (∀ i ∈ l, i < r.reqs.length) → FnOk Try.prog fv [v] G fun u _ => u = .int .i64 (num' l)) : Iter Try.prog 93 [.pointer (some ⟨d1, 0, none⟩), .pointer (some ⟨d2, 0, none⟩), .pointer (some ⟨d3, 0, none⟩), .pointer (some ⟨d4, 0, none⟩)] F0 (fun l G vs => ∃ v, vs = [v, .int .i64 (num' l)] ∧ Nats G v l) (setsR r of w) := by
  intro L J Jx F RH hF hm hmx hy h0
  have hX := hX0.mono hF
  replace z1 := hF _ _ z1
  replace z2 := hF _ _ z2
  replace z3 := hF _ _ z3
  replace z4 := hF _ _ z4
  have hk0 : keys RH = keys RH := rfl
  refine OkM.intro Try.func93 rfl Try.ntmps93 rfl fun w0 => ?_
  have hq8 := hv.nq
  have hL1 := hX.room.reqs.plain.lt
  have hp256 := pow_le8 hq8
  refine WC_scope ?_
  refine WC_seq ?_
  refine WC_label ?_
  refine then_n ?_
  refine WC_seq ?_
  refine WC_reg fun ds => ?_
  refine WL_q rfl (q_load1 one_98 (lk_entry rfl) (CellF.own z1 rfl).cell) ?_
  refine WL_q rfl (q_nilCheck (lk0)) ?_
  refine WL_q rfl (q_fieldAddrB fd_114_0 (lk0)) ?_
  refine WL_q rfl (q_fieldAddrB fd_27_3 (lk0)) ?_
  refine WL_q rfl (q_load1 one_25 (lk0) (CellF.own hX.blk rfl).cell) ?_
  refine WL_q rfl (q_lenP sl_25 (lk0) hX.room.reqs.plain) ?_
  refine WL_q rfl (q_shl lk_const (lk0) (k := r.reqs.length) rfl (by omega) (show (1 : Int) * 2 ^ r.reqs.length = ((2 ^ r.reqs.length : Nat) : Int) by simp) (Int.le_trans (by decide) (Int.natCast_nonneg _)) (by have : ((2 ^ r.reqs.length : Nat) : Int) ≤ 256 := Int.ofNat_le.2 hp256; exact Int.le_trans this (by decide))) ?_
  refine WL_q rfl (q_move lk_const) ?_
  refine WL_nil ?_
  refine then_n ?_
  refine WC_block ?_
  refine WC_loopN [6, 7, 15, 16, 17, 18, 19, 20, 21, 22, 23, 24, 25, 26, 27, 28, 29, 30, 31, 32, 33, 34, 35, 36, 37, 38, 39, 40, 41, 42] (fun m e σ => ∃ G RH', F0.le G ∧ F.le G ∧ ∃ k : Nat, m + k = 2 ^ r.reqs.length ∧ e 15 = .int .i64 k ∧ keys RH' = keys RH ∧ J (setsTo r of w k) G RH' ∧ σ = ⟨G, RH'⟩) (2 ^ r.reqs.length) ?_ ?_
  · exact ⟨_, _, hF, Heap.le_refl _, 0, by omega, (lk0), rfl, h0, rfl⟩
  ·
   rintro m e _ ⟨G, RH', hG, hFG, k, hm1, hs15, hk, hJ, rfl⟩; replace hX := hX.mono hFG; replace z1 := hFG _ _ z1; replace z2 := hFG _ _ z2; replace z3 := hFG _ _ z3; replace z4 := hFG _ _ z4
   by_cases hlt : k < 2 ^ r.reqs.length
   ·
    refine WC_seq ?_
    refine WC_reg fun ds => ?_
    refine WL_q rfl (q_lss (lk_in rfl hs15) (lk_off rfl <| lk1 rfl <| lk0)) ?_
    refine WL_nil ?_
    refine then_n ?_
    refine WC_seq ?_
    refine WC_if_true (lk0) (by first | rfl | exact decide_eq_true (by omega)) ?_
    have hk256 : k < 256 := by omega
    by_cases h1 : butNot k of = 0
    ·
     refine WC_skip ?_
     refine then_n ?_
     refine WC_seq ?_
     refine WC_block ?_
     refine WC_seq ?_
     refine WC_reg fun ds => ?_
     refine WL_q rfl (q_move (lk1 rfl <| lk_in rfl hs15)) ?_
     refine WL_q rfl (q_assign (lk0)) ?_
     refine WL_nil ?_
     refine then_n ?_
     refine WC_seq ?_
     refine WC_seq ?_
     refine WC_reg fun ds => ?_
     refine WL_q rfl (q_move (lk0)) ?_
     refine WL_q rfl (q_load1 one_3 (lk4 rfl <| lk_off rfl <| lk8 rfl <| lk_entry rfl) (CellF.own z2 rfl).cell) ?_
     refine WL_q rfl (q_andNot (m := k) (lk1 rfl <| lk0) (lk0) rfl (by omega)) ?_
     refine WL_q rfl (q_neq (lk0) lk_const) ?_
     refine WL_q rfl (q_move (lk0)) ?_
     refine WL_want rfl rfl (lk0) (by simp [h1]) ?_
     refine WL_q rfl (q_move (lk4 rfl <| lk1 rfl <| lk0)) ?_
     refine WL_want rfl rfl (lk1 rfl <| lk0) (by simp [h1]) ?_
     refine WL_q rfl (q_load1 one_3 (lk8 rfl <| lk1 rfl <| lk_off rfl <| lk8 rfl <| lk_entry rfl) (CellF.own z3 rfl).cell) ?_
     refine WL_want rfl rfl (lk2 rfl <| lk0) (by simp [h1]) ?_
     refine WL_q rfl (q_and (lk1 rfl <| lk0) (lk0) (m := k) (k := w) rfl rfl (by omega) (by omega) rfl) ?_
     refine WL_want rfl rfl (lk2 rfl <| lk1 rfl <| lk0) (by simp [h1]) ?_
     refine WL_q rfl (q_load1 one_3 (lk8 rfl <| lk2 rfl <| lk1 rfl <| lk_off rfl <| lk8 rfl <| lk_entry rfl) (CellF.own z3 rfl).cell) ?_
     refine WL_want rfl rfl (lk4 rfl <| lk0) (by simp [h1]) ?_
     refine WL_q rfl (q_neq (lk1 rfl <| lk0) (lk0)) ?_
     refine WL_q rfl (q_pick_false (lk4 rfl <| lk1 rfl <| lk0) (by simp [h1]) (lk0)) ?_
     refine WL_nil ?_
     refine then_n ?_
     by_cases h2 : k &&& w = w
     ·
      refine WC_if_false (lk0) (by simp [h2]) ?_
      by_cases h3 : (allR r (bitsL k)).isSome = true
      ·
       refine WC_skip ?_
       refine then_n ?_
       refine WC_seq ?_
       refine WC_reg fun ds => ?_
       refine WL_q rfl (q_move (lk8 rfl <| lk2 rfl <| lk1 rfl <| lk0)) ?_
       refine WL_x rfl (x_call bd_94 lk_func (.cons (lk0) .nil) (list_ok hk256) fun v2 F3 hr4 hF5 => ?_)
       replace hX := hX.mono hF5
       replace hG := hG.mono hF5
       replace hFG := hFG.mono hF5
       replace hJ := hm _ _ _ _ hF5 hJ
       replace z1 := hF5 _ _ z1
       replace z2 := hF5 _ _ z2
       replace z3 := hF5 _ _ z3
       replace z4 := hF5 _ _ z4
       have hl2 := hr4
       refine WL_q rfl (q_assign (lk0)) ?_
       refine WL_nil ?_
       refine then_n ?_
       refine WC_seq ?_
       refine WC_seq ?_
       refine WC_reg fun ds => ?_
       refine WL_q rfl (q_load1 one_98 (lk16 rfl <| lk1 rfl <| lk_off rfl <| lk8 rfl <| lk_entry rfl) (CellF.own z1 rfl).cell) ?_
       refine WL_q rfl (q_move (lk1 rfl <| lk0)) ?_
       refine WL_c rfl (q_call bd_60 lk_func (.cons (lk1 rfl <| lk0) (.cons (lk0) .nil)) (can_ok hX hv hl2 (bitsL_lt hlt) bitsL_len) (fun _ _ h => h)) ?_
       refine WL_q rfl (q_not (lk0)) ?_
       refine WL_nil ?_
       refine then_n ?_
       refine WC_if_false (lk0) (by rw [h3]; rfl) ?_
       have hok : okSet r of w k = true := by unfold okSet; simp [h1, h2, h3]
       obtain ⟨rest, hsp⟩ := sets_split hlt hok
       refine WC_skip ?_
       refine then_n ?_
       refine WC_seq ?_
       refine WC_regionI fun ds => ?_
       refine WI_q rfl rfl (q_move (lk16 rfl <| lk4 rfl <| lk1 rfl <| lk_off rfl <| lk8 rfl <| lk_entry rfl)) ?_
       refine WI_q rfl rfl (q_move (lk4 rfl <| lk1 rfl <| lk0)) ?_
       refine WI_q rfl rfl (q_load1 one_123 (lk16 rfl <| lk4 rfl <| lk2 rfl <| lk1 rfl <| lk_off rfl <| lk8 rfl <| lk_entry rfl) (CellF.own z4 rfl).cell) ?_
       refine WI_q rfl rfl (q_move (lk4 rfl <| lk2 rfl <| lk1 rfl <| lk0)) ?_
       refine WI_c rfl rfl (q_callFn (lk1 rfl <| lk0) (.cons (lk0) .nil) (hnum _ _ _ hG hl2 (bitsL_lt hlt)) (fun _ _ h => h)) ?_
       refine WI_y (Ha := []) rfl (lk4 rfl <| lk0) (.cons (lk2 rfl <| lk1 rfl <| lk0) (.cons (lk0) .nil)) rfl (hy _ _ _ _ _ _ hsp hG hJ ⟨_, rfl, hl2⟩) fun v10 F11 RH hr12 hF13 hkY => ?_
       replace hX := hX.mono hF13
       replace hG := hG.mono hF13
       replace hFG := hFG.mono hF13
       replace hJ := hm _ _ _ _ hF13 hJ
       replace hl2 := hl2.mono hF13
       replace z1 := hF13 _ _ z1
       replace z2 := hF13 _ _ z2
       replace z3 := hF13 _ _ z3
       replace z4 := hF13 _ _ z4
       obtain ⟨yb, rfl, hyb⟩ := yes_no hr12
       have hk2 := hkY.trans hk
       refine WI_q rfl rfl (q_not (lk0)) ?_
       refine WI_nil ?_
       refine then_n ?_
       rcases hyb with ⟨rfl, hJ⟩ | ⟨rfl, hJx⟩
       ·
        refine WC_if_false (lk0) rfl ?_
        refine WC_skip ?_
        refine block_n (then_n ?_)
        refine WC_reg fun ds => ?_
        refine WL_q rfl (q_add (lk16 rfl <| lk8 rfl <| lk4 rfl <| lk_in rfl hs15) lk_const rfl (by omega) (by omega)) ?_
        refine WL_q rfl (q_move (lk0)) ?_
        refine WL_nil ?_
        refine then_n ⟨_, m - 1, Off.eq (ou16 rfl <| ou8 rfl <| ou4 rfl <| ou2 rfl <| off_over), by omega, ?_⟩
        refine ⟨_, _, hG, hFG, k + 1, by omega, (lk0), hk2, ?_, rfl⟩
        rw [setsTo_succ, if_pos hok]; exact hJ
       ·
        refine WC_if_true (lk0) rfl ?_
        refine WC_ret ?_
        refine block_r (then_r (then_r (block_r (scope_r ?_))))
        refine post_retM rfl .nil .all hk2 ?_
        exact .inr hJx
      ·
       refine WC_skip ?_
       refine then_n ?_
       refine WC_seq ?_
       refine WC_reg fun ds => ?_
       refine WL_q rfl (q_move (lk8 rfl <| lk2 rfl <| lk1 rfl <| lk0)) ?_
       refine WL_x rfl (x_call bd_94 lk_func (.cons (lk0) .nil) (list_ok hk256) fun v14 F15 hr16 hF17 => ?_)
       replace hX := hX.mono hF17
       replace hG := hG.mono hF17
       replace hFG := hFG.mono hF17
       replace hJ := hm _ _ _ _ hF17 hJ
       replace z1 := hF17 _ _ z1
       replace z2 := hF17 _ _ z2
       replace z3 := hF17 _ _ z3
       replace z4 := hF17 _ _ z4
       have hl2 := hr16
       refine WL_q rfl (q_assign (lk0)) ?_
       refine WL_nil ?_
       refine then_n ?_
       refine WC_seq ?_
       refine WC_seq ?_
       refine WC_reg fun ds => ?_
       refine WL_q rfl (q_load1 one_98 (lk16 rfl <| lk1 rfl <| lk_off rfl <| lk8 rfl <| lk_entry rfl) (CellF.own z1 rfl).cell) ?_
       refine WL_q rfl (q_move (lk1 rfl <| lk0)) ?_
       refine WL_c rfl (q_call bd_60 lk_func (.cons (lk1 rfl <| lk0) (.cons (lk0) .nil)) (can_ok hX hv hl2 (bitsL_lt hlt) bitsL_len) (fun _ _ h => h)) ?_
       refine WL_q rfl (q_not (lk0)) ?_
       refine WL_nil ?_
       refine then_n ?_
       refine WC_if_true (lk0) (by simpa using h3) ?_
       refine WC_exit ?_
       refine then_x (exit_here ?_)
       refine then_n ?_
       refine WC_reg fun ds => ?_
       refine WL_q rfl (q_add (lk16 rfl <| lk4 rfl <| lk1 rfl <| lk_in rfl hs15) lk_const rfl (by omega) (by omega)) ?_
       refine WL_q rfl (q_move (lk0)) ?_
       refine WL_nil ?_
       refine then_n ⟨_, m - 1, Off.eq (ou16 rfl <| ou4 rfl <| ou2 rfl <| ou1 rfl <| off_over), by omega, ?_⟩
       refine ⟨_, RH', hG, hFG, k + 1, by omega, (lk0), hk, ?_, rfl⟩
       rw [setsTo_succ, if_neg (by unfold okSet; simp [h1, h2, h3])]; exact hJ
     ·
      refine WC_if_true (lk0) (by first | rfl | exact decide_eq_true (by omega)) ?_
      refine WC_exit ?_
      refine then_x (exit_here ?_)
      refine then_n ?_
      refine WC_reg fun ds => ?_
      refine WL_q rfl (q_add (lk8 rfl <| lk4 rfl <| lk2 rfl <| lk_in rfl hs15) lk_const rfl (by omega) (by omega)) ?_
      refine WL_q rfl (q_move (lk0)) ?_
      refine WL_nil ?_
      refine then_n ⟨_, m - 1, Off.eq (ou16 rfl <| off_over), by omega, ?_⟩
      refine ⟨_, RH', hG, hFG, k + 1, by omega, (lk0), hk, ?_, rfl⟩
      rw [setsTo_succ, if_neg (by unfold okSet; simp [h1, h2])]; exact hJ
    ·
     refine WC_skip ?_
     refine then_n ?_
     refine WC_seq ?_
     refine WC_block ?_
     refine WC_seq ?_
     refine WC_reg fun ds => ?_
     refine WL_q rfl (q_move (lk1 rfl <| lk_in rfl hs15)) ?_
     refine WL_q rfl (q_assign (lk0)) ?_
     refine WL_nil ?_
     refine then_n ?_
     refine WC_seq ?_
     refine WC_seq ?_
     refine WC_reg fun ds => ?_
     refine WL_q rfl (q_move (lk0)) ?_
     refine WL_q rfl (q_load1 one_3 (lk4 rfl <| lk_off rfl <| lk8 rfl <| lk_entry rfl) (CellF.own z2 rfl).cell) ?_
     refine WL_q rfl (q_andNot (m := k) (lk1 rfl <| lk0) (lk0) rfl (by omega)) ?_
     refine WL_q rfl (q_neq (lk0) lk_const) ?_
     refine WL_q rfl (q_move (lk0)) ?_
     refine WL_pass rfl rfl (lk0) (.inl (congrArg Value.bool (by first | rfl | exact decide_eq_true (by omega)))) rfl ?_
     refine WL_pass rfl rfl (lk1 rfl <| lk0) (.inl (congrArg Value.bool (by first | rfl | exact decide_eq_true (by omega)))) rfl ?_
     refine WL_pass rfl rfl (lk2 rfl <| lk0) (.inl (congrArg Value.bool (by first | rfl | exact decide_eq_true (by omega)))) rfl ?_
     refine WL_pass rfl rfl (lk2 rfl <| lk1 rfl <| lk0) (.inl (congrArg Value.bool (by first | rfl | exact decide_eq_true (by omega)))) rfl ?_
     refine WL_pass rfl rfl (lk4 rfl <| lk0) (.inl (congrArg Value.bool (by first | rfl | exact decide_eq_true (by omega)))) rfl ?_
     refine WL_q rfl (q_pick_true (lk4 rfl <| lk1 rfl <| lk0) (by first | rfl | exact decide_eq_true (by omega)) lk_const) ?_
     refine WL_nil ?_
     refine then_n ?_
     refine WC_if_true (lk0) (by first | rfl | exact decide_eq_true (by omega)) ?_
     refine WC_exit ?_
     refine then_x (exit_here ?_)
     refine then_n ?_
     refine WC_reg fun ds => ?_
     refine WL_q rfl (q_add (lk8 rfl <| lk4 rfl <| lk2 rfl <| lk_in rfl hs15) lk_const rfl (by omega) (by omega)) ?_
     refine WL_q rfl (q_move (lk0)) ?_
     refine WL_nil ?_
     refine then_n ⟨_, m - 1, Off.eq (ou16 rfl <| off_over), by omega, ?_⟩
     refine ⟨_, RH', hG, hFG, k + 1, by omega, (lk0), hk, ?_, rfl⟩
     rw [setsTo_succ, if_neg (by unfold okSet; simp [h1])]; exact hJ
   ·
    refine WC_seq ?_
    refine WC_reg fun ds => ?_
    refine WL_q rfl (q_lss (lk_in rfl hs15) (lk_off rfl <| lk1 rfl <| lk0)) ?_
    refine WL_nil ?_
    refine then_n ?_
    refine WC_seq ?_
    refine WC_if_false (lk0) (by first | rfl | exact decide_eq_false (by omega)) ?_
    obtain rfl : k = 2 ^ r.reqs.length := by omega
    refine WC_exit ?_
    refine then_x (then_x (exit_here ?_))
    refine scope_n ?_
    refine post_endM rfl .nil .all hk ?_
    exact .inl hJ
end Go.Proofs.Ytbcjfkcpfjccdaa
namespace Go.Proofs.Ytbcjfkcpfjccdaa
open Go.RowKit
theorem one_124 : OneT Try.prog 124 := oneT_of (by kernel_rfl)
set_option maxRecDepth 100000 in
theorem sets_ok {F : Heap} {b : Nat} {of w : Int} {fv : Value} (hf1 : fv.oneCell' = true) : Ok Try.prog 71 [.pointer (some ⟨b, 0, none⟩), .int .i64 of, .int .i64 w, fv].toArray F fun u F' => ∃ d1 d2 d3 d4, u = .func (.func 93) #[] #[ptr d1, ptr d2, ptr d3, ptr d4] ∧ F' d1 = some (bx 98 [ptr b]) ∧ F' d2 = some (bx 3 [.int .i64 of]) ∧ F' d3 = some (bx 3 [.int .i64 w]) ∧ F' d4 = some (bx 123 [fv]) := by
  refine Ok.intro Try.func71 rfl Try.ntmps71 rfl fun w0 => ?_
  refine WC_seq ?_
  refine WC_reg fun ds => ?_
  refine WL_x rfl (x_box (lk_entry rfl) rfl fun b1 hb1 nb1 => ?_)
  refine WL_x rfl (x_box (lk1 rfl <| lk_entry rfl) rfl fun b2 hb2 nb2 => ?_)
  refine WL_x rfl (x_box (lk2 rfl <| lk_entry rfl) rfl fun b3 hb3 nb3 => ?_)
  refine WL_x rfl (x_box (lk2 rfl <| lk1 rfl <| lk_entry rfl) (cells_one hf1) fun b4 hb4 nb4 => ?_)
  refine WL_q rfl (q_assign lk_const) ?_
  refine WL_nil ?_
  refine then_n ?_
  refine WC_seq ?_
  refine WC_freeze (i := 3) rfl hb1 (.next <| .next <| .next <| .here) fun F5 hF6 hz4 => ?_
  refine WC_freeze (i := 2) rfl hb2 (.next <| .next <| .here) fun F7 hF8 hz5 => ?_
  replace hz4 := hF8 _ _ hz4
  refine WC_freeze (i := 1) rfl hb3 (.next <| .here) fun F9 hF10 hz6 => ?_
  replace hz4 := hF10 _ _ hz4
  replace hz5 := hF10 _ _ hz5
  refine WC_freeze (i := 0) rfl hb4 (.here) fun F11 hF12 hz7 => ?_
  replace hz4 := hF12 _ _ hz4
  replace hz5 := hF12 _ _ hz5
  replace hz6 := hF12 _ _ hz6
  refine WC_reg fun ds => ?_
  refine WL_q rfl (q_makeFunc (.cons (lk4 rfl <| lk0) (.cons (lk2 rfl <| lk1 rfl <| lk0) (.cons (lk2 rfl <| lk0) (.cons (lk1 rfl <| lk0) .nil))))) ?_
  refine WL_q rfl (q_assign (lk0)) ?_
  refine WL_nil ?_
  refine then_n ?_
  refine WC_ret ?_
  refine post_ret rfl (.tmp (lk0) .nil) ?_
  exact ⟨_, _, _, _, rfl, hz4, hz5, hz6, hz7⟩
set_option maxRecDepth 100000 in
theorem most_ok {F : Heap} {gf : FuncId} {cs : List Value} (hgb : Body Try.prog gf) {xs : List (List Nat)} {num' : List Nat → Int} (hit : Iter Try.prog gf cs F (fun l G vs => ∃ v, vs = [v, .int .i64 (num' l)] ∧ Nats G v l) xs) {cv : Value} (cmp : List Nat → List Nat → Int) (hc1 : cv.oneCell' = true)
    (hcmp : ∀ G v u l q, F.le G → Nats G v l → Nats G u q → l ∈ xs → (q = [] ∨ q ∈ xs) → FnOk Try.prog cv [v, u] G fun z _ => z = .int .i64 (cmp l q)) : Ok Try.prog 70 [.func (.func gf) #[] cs.toArray, cv].toArray F fun u F' => ∃ vb, u = .tuple #[vb, .int .i64 (mostR num' cmp xs).2] ∧ Nats F' vb (mostR num' cmp xs).1 ∧ ((mostR num' cmp xs).1 = [] ∨ (mostR num' cmp xs).1 ∈ xs) := by
  refine Ok.intro Try.func70 rfl Try.ntmps70 rfl fun w0 => ?_
  have hF0 : F.le F := Heap.le_refl _
  refine WC_seq ?_
  refine WC_reg fun ds => ?_
  refine WL_x rfl (x_box (lk_entry rfl) (cells_one hc1) fun b1 hb1 nb1 => ?_)
  refine WL_x rfl (x_alloc zr_29 rfl fun b2 hb2 nb2 => ?_)
  refine WL_x rfl (x_alloc zr_3 rfl fun b3 hb3 nb3 => ?_)
  refine WL_nil ?_
  refine then_n ?_
  refine WC_seq ?_
  refine WC_reg fun ds => ?_
  refine WL_x0 (x_store1 sz_3 (lk0) lk_const (i := 0) rfl (.here) rfl (.here) ?_)
  refine WL_nil ?_
  refine then_n ?_
  refine WC_seq ?_
  refine WC_seq ?_
  refine WC_freeze (i := 2) rfl hb1 (.next <| .next <| .here) fun F4 hF5 hz3 => ?_
  replace hF0 := hF0.mono hF5
  refine WC_reg fun ds => ?_
  refine WL_q rfl (q_move (lk2 rfl <| lk1 rfl <| lk_entry rfl)) ?_
  refine WL_nil ?_
  refine then_n ?_
  refine WC_block ?_
  refine WC_range rfl (lk0) hgb hit hF0 (fun pre G H => ∃ vb, H = [(b3, bx 3 [.int .i64 (mostR num' cmp pre).2]), (b2, bx 29 [vb])] ∧ Nats G vb (mostR num' cmp pre).1 ∧ ((mostR num' cmp pre).1 = [] ∨ (mostR num' cmp pre).1 ∈ xs)) (fun _ _ _ => False) (fun _ _ _ _ hF h => h.imp fun _ h => ⟨h.1, h.2.1.mono hF, h.2.2⟩) (fun _ _ _ _ _ h => h) ⟨_, rfl, Sl.nil, .inl rfl⟩ (fun L D fn tm pre x rest G H1 vs hxs hle hJ hA => ?_) (fun _ _ _ _ h => h.elim) (fun F2 H1 hF2 hJ => ?_)
  ·
   replace hF0 := hF0.mono hle
   replace hz3 := hle _ _ hz3
   obtain ⟨vb, rfl, hvb, hbm⟩ := hJ
   obtain ⟨v9, rfl, hv9⟩ := hA
   have hxm : x ∈ xs := by rw [hxs]; simp
   refine ⟨rfl, rfl, fun w1 => ?_⟩
   refine WC_eq (e' := (upd (upd _ 9 v9) 10 (.int .i64 (num' x)))) rfl rfl ?_
   refine WC_seq ?_
   refine WC_region (.inr (by kernel_rfl)) (fun _ _ h => h) fun ds => ?_
   refine WL_q rfl (q_assign (lk1 rfl <| lk0)) ?_
   refine WL_nil ?_
   refine then_n ?_
   refine WC_region (.inr (by kernel_rfl)) (fun _ _ h => h) fun ds => ?_
   refine WL_q rfl (q_assign (lk1 rfl <| lk0)) ?_
   refine WL_nil ?_
   refine then_n ⟨_, rfl, ?_⟩
   by_cases h1 : (mostR num' cmp pre).2 < num' x
   ·
    refine WC_block ?_
    refine WC_seq ?_
    refine WC_region (.inr (by kernel_rfl)) (fun _ _ h => h) fun ds => ?_
    refine WL_q rfl (q_move (lk0)) ?_
    refine WL_q rfl (q_load1 one_3 (lk4 rfl <| lk2 rfl <| lk0) (Cell.own 2 rfl rfl)) ?_
    refine WL_q rfl (q_gtr (lk1 rfl <| lk0) (lk0)) ?_
    refine WL_q rfl (q_move (lk0)) ?_
    refine WL_pass rfl rfl (lk0) (.inl (congrArg Value.bool (by first | rfl | exact decide_eq_true (by omega)))) rfl ?_
    refine WL_pass rfl rfl (lk1 rfl <| lk0) (.inl (congrArg Value.bool (by first | rfl | exact decide_eq_true (by omega)))) rfl ?_
    refine WL_pass rfl rfl (lk2 rfl <| lk0) (.inl (congrArg Value.bool (by first | rfl | exact decide_eq_true (by omega)))) rfl ?_
    refine WL_pass rfl rfl (lk2 rfl <| lk1 rfl <| lk0) (.inl (congrArg Value.bool (by first | rfl | exact decide_eq_true (by omega)))) rfl ?_
    refine WL_pass rfl rfl (lk0) (.inr rfl) rfl ?_
    refine WL_pass rfl rfl (lk1 rfl <| lk0) (.inr rfl) rfl ?_
    refine WL_pass rfl rfl (lk2 rfl <| lk0) (.inr rfl) rfl ?_
    refine WL_pass rfl rfl (lk2 rfl <| lk1 rfl <| lk0) (.inr rfl) rfl ?_
    refine WL_pass rfl rfl (lk4 rfl <| lk0) (.inr rfl) rfl ?_
    refine WL_pass rfl rfl (lk8 rfl <| lk1 rfl <| lk0) (.inl (congrArg Value.bool (by first | rfl | exact decide_eq_true (by omega)))) rfl ?_
    refine WL_q rfl (q_pick_true (lk8 rfl <| lk2 rfl <| lk0) (by first | rfl | exact decide_eq_true (by omega)) lk_const) ?_
    refine WL_nil ?_
    refine then_n ?_
    refine WC_if_true (lk0) rfl ?_
    refine WC_region (.inr (by kernel_rfl)) (fun _ _ h => h) fun ds => ?_
    refine WL_q rfl (q_move (lk16 rfl <| lk0)) ?_
    refine WL_q rfl (q_move (lk16 rfl <| lk0)) ?_
    refine WL_x0 (x_store1 sz_29 (lk16 rfl <| lk4 rfl <| lk2 rfl <| lk1 rfl <| lk0) (lk1 rfl <| lk0) (i := 3) rfl (.here) (by first | rfl | exact hv9.plain.one) (.next <| .next <| .next <| .here) ?_)
    refine WL_x0 (x_store1 sz_3 (lk16 rfl <| lk4 rfl <| lk2 rfl <| lk0) (lk0) (i := 2) rfl (.here) (by first | rfl | exact hv9.plain.one) (.next <| .next <| .here) ?_)
    refine WL_nil ?_
    refine block_n ?_
    refine round_n (.cons (.here) <| .cons (.here) <| .cons (.here) <| .cons (.here) <| .nil) rfl ?_
    refine .inl ⟨rfl, _, rfl, hle, ?_⟩
    have e1 : (mostR num' cmp (pre ++ [x])) = (x, num' x) := by rw [mostR_snoc, mostStep_yes (.inl h1)]
    exact ⟨_, by rw [e1], by rw [e1]; exact hv9, by rw [e1]; exact .inr hxm⟩
   ·
    refine WC_block ?_
    refine WC_seq ?_
    refine WC_region (.inr (by kernel_rfl)) (fun _ _ h => h) fun ds => ?_
    refine WL_q rfl (q_move (lk0)) ?_
    refine WL_q rfl (q_load1 one_3 (lk4 rfl <| lk2 rfl <| lk0) (Cell.own 2 rfl rfl)) ?_
    refine WL_q rfl (q_gtr (lk1 rfl <| lk0) (lk0)) ?_
    refine WL_q rfl (q_move (lk0)) ?_
    refine WL_want rfl rfl (lk0) (by first | rfl | exact decide_eq_false (by omega)) ?_
    refine WL_q rfl (q_move (lk4 rfl <| lk0)) ?_
    refine WL_want rfl rfl (lk1 rfl <| lk0) (by first | rfl | exact decide_eq_false (by omega)) ?_
    refine WL_q rfl (q_load1 one_3 (lk8 rfl <| lk2 rfl <| lk0) (Cell.own 2 rfl rfl)) ?_
    refine WL_want rfl rfl (lk2 rfl <| lk0) (by first | rfl | exact decide_eq_false (by omega)) ?_
    refine WL_q rfl (q_eql (lk1 rfl <| lk0) (lk0)) ?_
    refine WL_want rfl rfl (lk2 rfl <| lk1 rfl <| lk0) (by first | rfl | exact decide_eq_false (by omega)) ?_
    refine WL_q rfl (q_move (lk0)) ?_
    by_cases h2 : num' x = (mostR num' cmp pre).2
    ·
     refine WL_want rfl rfl (lk0) (decide_eq_true h2) ?_
     refine WL_q rfl (q_load1 one_124 (lk8 rfl <| lk4 rfl <| lk2 rfl <| lk1 rfl <| lk0) (CellF.own hz3 rfl).cell) ?_
     refine WL_want rfl rfl (lk1 rfl <| lk0) (decide_eq_true h2) ?_
     refine WL_q rfl (q_move (lk8 rfl <| lk2 rfl <| lk0)) ?_
     refine WL_want rfl rfl (lk2 rfl <| lk0) (decide_eq_true h2) ?_
     refine WL_q rfl (q_load1 one_29 (lk16 rfl <| lk0) (Cell.own 3 rfl rfl)) ?_
     refine WL_want rfl rfl (lk2 rfl <| lk1 rfl <| lk0) (decide_eq_true h2) ?_
     refine WL_c rfl (q_callFn (lk2 rfl <| lk0) (.cons (lk1 rfl <| lk0) (.cons (lk0) .nil)) (hcmp _ _ _ _ _ hF0 hv9 hvb hxm hbm) (fun _ _ h => h)) ?_
     refine WL_want rfl rfl (lk4 rfl <| lk0) (decide_eq_true h2) ?_
     refine WL_q rfl (q_lss (lk0) lk_const) ?_
     refine WL_want rfl rfl (lk8 rfl <| lk1 rfl <| lk0) (by first | rfl | exact decide_eq_false (by omega)) ?_
     refine WL_q rfl (q_pick_true (lk4 rfl <| lk1 rfl <| lk0) (decide_eq_true h2) (lk0)) ?_
     refine WL_q rfl (q_pick_false (lk8 rfl <| lk2 rfl <| lk0) (by first | rfl | exact decide_eq_false (by omega)) (lk0)) ?_
     refine WL_nil ?_
     refine then_n ?_
     by_cases h3 : cmp x (mostR num' cmp pre).1 < 0
     ·
      refine WC_if_true (lk0) (decide_eq_true h3) ?_
      refine WC_region (.inr (by kernel_rfl)) (fun _ _ h => h) fun ds => ?_
      refine WL_q rfl (q_move (lk16 rfl <| lk0)) ?_
      refine WL_q rfl (q_move (lk16 rfl <| lk0)) ?_
      refine WL_x0 (x_store1 sz_29 (lk16 rfl <| lk4 rfl <| lk2 rfl <| lk1 rfl <| lk0) (lk1 rfl <| lk0) (i := 3) rfl (.here) (by first | rfl | exact hv9.plain.one) (.next <| .next <| .next <| .here) ?_)
      refine WL_x0 (x_store1 sz_3 (lk16 rfl <| lk4 rfl <| lk2 rfl <| lk0) (lk0) (i := 2) rfl (.here) (by first | rfl | exact hv9.plain.one) (.next <| .next <| .here) ?_)
      refine WL_nil ?_
      refine block_n ?_
      refine round_n (.cons (.here) <| .cons (.here) <| .cons (.here) <| .cons (.here) <| .nil) rfl ?_
      refine .inl ⟨rfl, _, rfl, hle, ?_⟩
      have e1 : (mostR num' cmp (pre ++ [x])) = (x, num' x) := by rw [mostR_snoc, mostStep_yes (.inr ⟨h2, h3⟩)]
      exact ⟨_, by rw [e1], by rw [e1]; exact hv9, by rw [e1]; exact .inr hxm⟩
     ·
      refine WC_if_false (lk0) (decide_eq_false h3) ?_
      refine WC_skip ?_
      refine block_n ?_
      refine round_n (.cons (.here) <| .cons (.here) <| .cons (.here) <| .cons (.here) <| .nil) rfl ?_
      refine .inl ⟨rfl, _, rfl, hle, ?_⟩
      have e1 : (mostR num' cmp (pre ++ [x])) = (mostR num' cmp pre) := by rw [mostR_snoc, mostStep_no (fun h => h.elim h1 fun h => h3 h.2)]
      exact ⟨_, by rw [e1], by rw [e1]; exact hvb, by rw [e1]; exact hbm⟩
    ·
     refine WL_pass rfl rfl (lk0) (.inl (congrArg Value.bool (decide_eq_false h2))) rfl ?_
     refine WL_pass rfl rfl (lk1 rfl <| lk0) (.inl (congrArg Value.bool (decide_eq_false h2))) rfl ?_
     refine WL_pass rfl rfl (lk2 rfl <| lk0) (.inl (congrArg Value.bool (decide_eq_false h2))) rfl ?_
     refine WL_pass rfl rfl (lk2 rfl <| lk1 rfl <| lk0) (.inl (congrArg Value.bool (decide_eq_false h2))) rfl ?_
     refine WL_pass rfl rfl (lk4 rfl <| lk0) (.inl (congrArg Value.bool (decide_eq_false h2))) rfl ?_
     refine WL_want rfl rfl (lk8 rfl <| lk1 rfl <| lk0) (by first | rfl | exact decide_eq_false (by omega)) ?_
     refine WL_q rfl (q_pick_false (lk4 rfl <| lk1 rfl <| lk0) (decide_eq_false h2) lk_const) ?_
     refine WL_q rfl (q_pick_false (lk8 rfl <| lk2 rfl <| lk0) (by first | rfl | exact decide_eq_false (by omega)) (lk0)) ?_
     refine WL_nil ?_
     refine then_n ?_
     refine WC_if_false (lk0) rfl ?_
     refine WC_skip ?_
     refine block_n ?_
     refine round_n (.cons (.here) <| .cons (.here) <| .cons (.here) <| .cons (.here) <| .nil) rfl ?_
     refine .inl ⟨rfl, _, rfl, hle, ?_⟩
     have e1 : (mostR num' cmp (pre ++ [x])) = (mostR num' cmp pre) := by rw [mostR_snoc, mostStep_no (fun h => h.elim h1 fun h => h2 h.1)]
     exact ⟨_, by rw [e1], by rw [e1]; exact hvb, by rw [e1]; exact hbm⟩
  replace hF0 := hF0.mono hF2
  replace hz3 := hF2 _ _ hz3
  obtain ⟨vb, rfl, hvb, hbm⟩ := hJ
  refine block_n (then_n ?_)
  refine WC_seq ?_
  refine WC_drawS (.inl rfl) (fun _ _ h => h) (.cons_cons _ <| .cons_cons _ <| .refl _) [3] (by kernel_rfl) fun ds => ?_
  refine WX_take 0 rfl (by kernel_rfl) (by kernel_rfl) (by kernel_rfl) (by kernel_rfl) rfl rfl (fun _ h => h.drop (.cons_cons _ <| .cons_cons _ <| .refl _)) (fun _ _ _ h => h) (q_load1 one_29 (lk2 rfl <| lk0) (Cell.own 1 rfl rfl)) ?_
  refine WX_take 1 rfl (by kernel_rfl) (by kernel_rfl) (by kernel_rfl) (by kernel_rfl) rfl rfl (fun _ h => h.drop (.cons_cons _ <| .cons_cons _ <| .refl _)) (fun _ _ _ h => h) (q_load1 one_3 (lk2 rfl <| lk0) (Cell.own 0 rfl rfl)) ?_
  refine WX_x0 2 rfl (by kernel_rfl) (x_store1 sz_29 (lk4 rfl <| lk0) (lk1 rfl <| lk0) (i := 1) rfl (.here) (by first | rfl | exact hvb.plain.one) (.next <| .here) ⟨fun _ _ => (fun _ h => h.drop (.cons_cons _ <| .cons_cons _ <| .refl _)), ?_⟩)
  refine WX_x0 3 rfl (by kernel_rfl) (x_store1 sz_3 (lk2 rfl <| lk1 rfl <| lk0) (lk0) (i := 0) rfl (.here) (by first | rfl | exact hvb.plain.one) (.here) ⟨(fun h => nomatch h), ?_⟩)
  refine WX_done (by kernel_rfl) ?_ _
  refine then_n ?_
  refine WC_ret ?_
  refine post_ret rfl (.one one_29 (lk4 rfl <| lk0) (Cell.own 1 rfl rfl) (.one one_3 (lk2 rfl <| lk1 rfl <| lk0) (Cell.own 0 rfl rfl) .nil)) ?_
  exact ⟨_, rfl, hvb, hbm⟩
end Go.Proofs.Ytbcjfkcpfjccdaa
namespace Go.Proofs.Ytbcjfkcpfjccdaa
open Go.RowKit
theorem bd_66 : Body Try.prog 66 := body_of (by kernel_rfl)
theorem bd_67 : Body Try.prog 67 := body_of (by kernel_rfl)
theorem bd_70 : Body Try.prog 70 := body_of (by kernel_rfl)
theorem bd_71 : Body Try.prog 71 := body_of (by kernel_rfl)
theorem bd_74 : Body Try.prog 74 := body_of (by kernel_rfl)
theorem bd_91 : Body Try.prog 91 := body_of (by kernel_rfl)
theorem bd_93 : Body Try.prog 93 := body_of (by kernel_rfl)
set_option maxRecDepth 100000 in
theorem best_ok {F : Heap} {b c1 c8 c3 : Nat} {vb vr vs vq vl : Value} {r : Room} (hX : RoomX num F b c1 c8 c3 vb vr vs vq vl r) (hv : Valid r) : Ok Try.prog 67 [.pointer (some ⟨b, 0, none⟩)].toArray F fun u F' => ∃ ws, u = .tuple #[ws, .int .i64 (bestP r).2] ∧ Nats F' ws (bestP r).1 ∧ ((bestP r).1 = [] ∨ (bestP r).1 ∈ setsR r (-1) 0) := by
  refine Ok.intro Try.func67 rfl Try.ntmps67 rfl fun w0 => ?_
  refine WC_seq ?_
  refine WC_reg fun ds => ?_
  refine WL_q rfl (q_assign lk_const) ?_
  refine WL_q rfl (q_assign lk_const) ?_
  refine WL_nil ?_
  refine then_n ?_
  refine WC_seq ?_
  refine WC_reg fun ds => ?_
  refine WL_q rfl (q_move (lk2 rfl <| lk_entry rfl)) ?_
  refine WL_q rfl (q_move (lk2 rfl <| lk1 rfl <| lk_entry rfl)) ?_
  refine WL_q rfl (q_makeFunc2 (.cons (lk0) .nil) .nil) ?_
  refine WL_x rfl (x_call bd_71 lk_func (.cons (lk2 rfl <| lk0) (.cons lk_const (.cons lk_const (.cons (lk0) .nil)))) (sets_ok rfl) fun v1 F2 hr3 hF4 => ?_)
  replace hX := hX.mono hF4
  obtain ⟨d1, d2, d3, d4, rfl, z1, z2, z3, z4⟩ := hr3
  refine WL_x rfl (x_call bd_70 lk_func (.cons (lk0) (.cons lk_func .nil)) (most_ok bd_93 (sets1_iter hX hv z1 z2 z3 z4 (of := -1) (w := 0) (by decide) (worthL r) (fun G v l hG hl hlt => ⟨91, [ptr b], [], rfl, bd_91, worth_ok (hX.mono hG) hv hl hlt⟩)) cmpL rfl (fun G v u l q _ h1 h2 _ _ => ⟨74, [], [], rfl, bd_74, compare_ok h1 h2⟩)) fun v5 F6 hr7 hF8 => ?_)
  replace hX := hX.mono hF8
  obtain ⟨ws, rfl, hws, hmem⟩ := hr7
  refine WL_q rfl (q_extract (lk0) rfl) ?_
  refine WL_q rfl (q_extract (lk1 rfl <| lk0) rfl) ?_
  refine WL_q rfl (q_assign (lk1 rfl <| lk0)) ?_
  refine WL_q rfl (q_assign (lk1 rfl <| lk0)) ?_
  refine WL_nil ?_
  refine then_n ?_
  refine WC_ret ?_
  refine post_ret rfl (.tmp (lk1 rfl <| lk0) (.tmp (lk0) .nil)) ?_
  exact ⟨_, rfl, hws, hmem⟩
set_option maxRecDepth 100000 in
theorem best_top_ok {F : Heap} {vb vr vs vq : Value} {r : Room} (hr : RoomR F vb vr vs vq r) : Ok Try.prog 30 [.agg #[vb, vr, vs, vq]].toArray F fun u F' => ∃ ws, u = .tuple #[ws, .int .i64 (bestE r).2.1, .int .i64 (bestE r).2.2] ∧ Nats F' ws (bestE r).1 := by
  refine Ok.intro Try.func30 rfl Try.ntmps30 rfl fun w0 => ?_
  by_cases h0 : (check r).2.2 = 0
  ·
   have hv := valid_of h0
   refine WC_seq ?_
   refine WC_reg fun ds => ?_
   refine WL_x rfl (x_box (lk_entry rfl) rfl fun b1 hb1 nb1 => ?_)
   refine WL_q rfl (q_assign lk_const) ?_
   refine WL_q rfl (q_assign lk_const) ?_
   refine WL_q rfl (q_assign lk_const) ?_
   refine WL_nil ?_
   refine then_n ?_
   refine WC_seq ?_
   refine WC_reg fun ds => ?_
   refine WL_q rfl (q_loadN agg_27 (lk2 rfl <| lk1 rfl <| lk0) rfl rfl (own_whole 0 rfl)) ?_
   refine WL_x rfl (x_call bd_57 lk_func (.cons (lk0) (.cons lk_const .nil)) (enter_good hr (Sl.nil : Ints F _ []) (someErr_nil.trans h0)) fun v2 F3 hr4 hF5 => ?_)
   replace hr := hr.mono hF5
   obtain ⟨p, rfl, hlk⟩ := hr4
   obtain ⟨b, c1, c8, c3, wb, wr, ws, wq, wl, rfl, hX⟩ := hlk
   refine WL_q rfl (q_move (lk0)) ?_
   refine WL_q rfl (q_extract (lk0) rfl) ?_
   refine WL_q rfl (q_extract (lk1 rfl <| lk0) rfl) ?_
   refine WL_q rfl (q_assign (lk1 rfl <| lk0)) ?_
   refine WL_q rfl (q_assign (lk1 rfl <| lk0)) ?_
   refine WL_nil ?_
   refine then_n ?_
   refine WC_seq ?_
   refine WC_seq ?_
   refine WC_reg fun ds => ?_
   refine WL_q rfl (q_move (lk0)) ?_
   refine WL_q rfl (q_neq (lk0) lk_const) ?_
   refine WL_nil ?_
   refine then_n ?_
   refine WC_if_false (lk0) (by decide) ?_
   refine WC_skip ?_
   refine then_n ?_
   refine WC_seq ?_
   refine WC_reg fun ds => ?_
   refine WL_q rfl (q_move (lk2 rfl <| lk1 rfl <| lk0)) ?_
   refine WL_x rfl (x_call bd_67 lk_func (.cons (lk0) .nil) (best_ok hX hv) fun v6 F7 hr8 hF9 => ?_)
   replace hr := hr.mono hF9
   replace hX := hX.mono hF9
   obtain ⟨ws, rfl, hws, hmem⟩ := hr8
   refine WL_q rfl (q_move (lk0)) ?_
   refine WL_q rfl (q_extract (lk0) rfl) ?_
   refine WL_q rfl (q_extract (lk1 rfl <| lk0) rfl) ?_
   refine WL_q rfl (q_assign (lk1 rfl <| lk0)) ?_
   refine WL_q rfl (q_assign (lk1 rfl <| lk0)) ?_
   refine WL_nil ?_
   refine then_n ?_
   refine WC_seq ?_
   refine WC_reg fun ds => ?_
   refine WL_q rfl (q_move (lk1 rfl <| lk0)) ?_
   refine WL_q rfl (q_move (lk1 rfl <| lk0)) ?_
   refine WL_q rfl (q_assign (lk1 rfl <| lk0)) ?_
   refine WL_q rfl (q_assign (lk1 rfl <| lk0)) ?_
   refine WL_q rfl (q_assign lk_const) ?_
   refine WL_nil ?_
   refine then_n ?_
   refine WC_ret ?_
   refine post_ret rfl (.tmp (lk2 rfl <| lk0) (.tmp (lk1 rfl <| lk0) (.tmp (lk0) .nil))) ?_
   rw [bestE_ok h0]
   exact ⟨_, rfl, hws⟩
  ·
   refine WC_seq ?_
   refine WC_reg fun ds => ?_
   refine WL_x rfl (x_box (lk_entry rfl) rfl fun b10 hb10 nb10 => ?_)
   refine WL_q rfl (q_assign lk_const) ?_
   refine WL_q rfl (q_assign lk_const) ?_
   refine WL_q rfl (q_assign lk_const) ?_
   refine WL_nil ?_
   refine then_n ?_
   refine WC_seq ?_
   refine WC_reg fun ds => ?_
   refine WL_q rfl (q_loadN agg_27 (lk2 rfl <| lk1 rfl <| lk0) rfl rfl (own_whole 0 rfl)) ?_
   refine WL_c rfl (q_call bd_57 lk_func (.cons (lk0) (.cons lk_const .nil)) (enter_bad hr (Sl.nil : Ints F _ []) (fun h => h0 (someErr_nil.symm.trans h))) (fun _ _ h => h)) ?_
   refine WL_q rfl (q_move (lk0)) ?_
   refine WL_q rfl (q_extract (lk0) rfl) ?_
   refine WL_q rfl (q_extract (lk1 rfl <| lk0) rfl) ?_
   refine WL_q rfl (q_assign (lk1 rfl <| lk0)) ?_
   refine WL_q rfl (q_assign (lk1 rfl <| lk0)) ?_
   refine WL_nil ?_
   refine then_n ?_
   refine WC_seq ?_
   refine WC_seq ?_
   refine WC_reg fun ds => ?_
   refine WL_q rfl (q_move (lk0)) ?_
   refine WL_q rfl (q_neq (lk0) lk_const) ?_
   refine WL_nil ?_
   refine then_n ?_
   refine WC_if_true (lk0) (by simpa [someErr_nil] using h0) ?_
   refine WC_seq ?_
   refine WC_reg fun ds => ?_
   refine WL_q rfl (q_move (lk2 rfl <| lk0)) ?_
   refine WL_q rfl (q_assign lk_const) ?_
   refine WL_q rfl (q_assign lk_const) ?_
   refine WL_q rfl (q_assign (lk2 rfl <| lk0)) ?_
   refine WL_nil ?_
   refine then_n ?_
   refine WC_ret ?_
   refine then_r ?_
   refine post_ret rfl (.tmp (lk2 rfl <| lk0) (.tmp (lk1 rfl <| lk0) (.tmp (lk0) .nil))) ?_
   rw [bestE_bad h0, ← someErr_nil]
   exact ⟨_, rfl, Sl.nil⟩
set_option maxRecDepth 100000 in
theorem turn_top_ok {F : Heap} {vb vr vs vq : Value} {r : Room} (hr : RoomR F vb vr vs vq r) : Ok Try.prog 28 [.agg #[vb, vr, vs, vq]].toArray F fun u F' => ∃ ws, u = .tuple #[ws, .int .i64 (turnE r).2] ∧ Nats F' ws (turnE r).1 := by
  refine Ok.intro Try.func28 rfl Try.ntmps28 rfl fun w0 => ?_
  have hL1 := hr.reqs.plain.lt
  by_cases h0 : (check r).2.2 = 0
  ·
   have hv := valid_of h0
   refine WC_seq ?_
   refine WC_reg fun ds => ?_
   refine WL_x rfl (x_box (lk_entry rfl) rfl fun b1 hb1 nb1 => ?_)
   refine WL_q rfl (q_assign lk_const) ?_
   refine WL_q rfl (q_assign lk_const) ?_
   refine WL_nil ?_
   refine then_n ?_
   refine WC_seq ?_
   refine WC_reg fun ds => ?_
   refine WL_q rfl (q_loadN agg_27 (lk2 rfl <| lk0) rfl rfl (own_whole 0 rfl)) ?_
   refine WL_x rfl (x_call bd_57 lk_func (.cons (lk0) (.cons lk_const .nil)) (enter_good hr (Sl.nil : Ints F _ []) (someErr_nil.trans h0)) fun v2 F3 hr4 hF5 => ?_)
   replace hr := hr.mono hF5
   obtain ⟨p, rfl, hlk⟩ := hr4
   obtain ⟨b, c1, c8, c3, wb, wr, ws, wq, wl, rfl, hX⟩ := hlk
   refine WL_q rfl (q_move (lk0)) ?_
   refine WL_q rfl (q_extract (lk0) rfl) ?_
   refine WL_q rfl (q_extract (lk1 rfl <| lk0) rfl) ?_
   refine WL_q rfl (q_assign (lk1 rfl <| lk0)) ?_
   refine WL_q rfl (q_assign (lk1 rfl <| lk0)) ?_
   refine WL_nil ?_
   refine then_n ?_
   refine WC_seq ?_
   refine WC_seq ?_
   refine WC_reg fun ds => ?_
   refine WL_q rfl (q_move (lk0)) ?_
   refine WL_q rfl (q_neq (lk0) lk_const) ?_
   refine WL_nil ?_
   refine then_n ?_
   refine WC_if_false (lk0) (by decide) ?_
   refine WC_skip ?_
   refine then_n ?_
   refine WC_seq ?_
   refine WC_seq ?_
   refine WC_reg fun ds => ?_
   refine WL_q rfl (q_fieldAddrB fd_27_3 (lk8 rfl <| lk2 rfl <| lk1 rfl <| lk0)) ?_
   refine WL_q rfl (q_load1 one_25 (lk0) (Cell.own 0 rfl rfl)) ?_
   refine WL_q rfl (q_lenP sl_25 (lk0) hr.reqs.plain) ?_
   refine WL_q rfl (q_move lk_const) ?_
   refine WL_nil ?_
   refine then_n ?_
   refine WC_block ?_
   refine WC_loopN [2, 5, 6, 18, 19, 20, 21, 22, 23, 24, 25, 26, 27, 28, 29, 30] (fun m e σ => ∃ G, RoomX num G b c1 c8 c3 wb wr ws wq wl r ∧ ∃ k : Nat, m + k = r.reqs.length ∧ e 18 = .int .i64 k ∧ ∃ v2, e 2 = v2 ∧ Nats G v2 (turnTo r k) ∧ σ = ⟨G, [(b1, bx 27 [vb, vr, vs, vq])]⟩) (r.reqs.length) ?_ ?_
   · exact ⟨_, hX, 0, by omega, (lk0), _, (lk8 rfl <| lk4 rfl <| lk2 rfl <| lk0), Sl.nil, rfl⟩
   ·
    rintro m e _ ⟨G, hX, k, hm1, hs18, v2, hs2, h2, rfl⟩
    by_cases hlt : k < r.reqs.length
    ·
     refine WC_seq ?_
     refine WC_reg fun ds => ?_
     refine WL_q rfl (q_lss (lk_in rfl hs18) (lk_off rfl <| lk1 rfl <| lk0)) ?_
     refine WL_nil ?_
     refine then_n ?_
     refine WC_seq ?_
     refine WC_if_true (lk0) (by first | rfl | exact decide_eq_true (by omega)) ?_
     have hk8 := hv.nq
     have htl := turnTo_len (r := r) k
     refine WC_skip ?_
     refine then_n ?_
     refine WC_seq ?_
     refine WC_block ?_
     refine WC_seq ?_
     refine WC_reg fun ds => ?_
     refine WL_q rfl (q_move (lk1 rfl <| lk_in rfl hs18)) ?_
     refine WL_q rfl (q_assign (lk0)) ?_
     refine WL_nil ?_
     refine then_n ?_
     refine WC_seq ?_
     refine WC_reg fun ds => ?_
     refine WL_q rfl (q_move (lk2 rfl <| lk1 rfl <| lk_in rfl hs2)) ?_
     refine WL_c rfl (q_call bd_66 lk_func (.cons (lk0) .nil) (clip_ok h2) (fun _ _ h => h)) ?_
     refine WL_q rfl (q_move (lk2 rfl <| lk0)) ?_
     refine WL_x rfl (x_build sl_29 zr_3 rfl (.cons (lk0) .nil) rfl rfl (by decide) (by simp [Value.oneCell']) fun b7 hb7 nb7 => ?_)
     refine WL_x rfl (x_appendF sl_29 el_3 (lk2 rfl <| lk0) (h2.clip.src (fun _ => rfl) natE_one) (clip_full h2.plain) (by decide) (lk0) (src_box (s := 1) 0 rfl rfl (by simp [Value.oneCell'])) (by omega) (by omega) (.s <| .s <| .z) .end fun v8 R9 ho10 => ?_)
     have ho2 := ho10.snoc (x := k) rfl rfl
     refine WL_q rfl (q_assign (lk0)) ?_
     refine WL_nil ?_
     refine then_n ?_
     refine WC_seq ?_
     refine WC_freezeR (σ := ⟨_, _⟩) (by rfl) ho2 (.s <| .s <| .z) .last fun F11 hF12 hz13 => ?_
     replace hX := hX.mono hF12
     replace h2 := h2.mono hF12
     have hn2 := ho2.sl (fun _ => rfl) hz13 (by simp only [List.length_append, List.length_singleton]; omega)
     by_cases hc : (allR r (turnTo r k ++ [k])).isSome = true
     ·
      refine WC_reg fun ds => ?_
      refine WL_q rfl (q_move (lk8 rfl <| lk1 rfl <| lk_off rfl <| lk4 rfl <| lk2 rfl <| lk1 rfl <| lk0)) ?_
      refine WL_q rfl (q_move (lk1 rfl <| lk0)) ?_
      refine WL_c rfl (q_call bd_60 lk_func (.cons (lk1 rfl <| lk0) (.cons (lk0) .nil)) (can_ok hX hv hn2 (fun i hi => by rcases List.mem_append.1 hi with hi | hi; (have := turnTo_lt k i hi; omega); (simp at hi; omega)) (by simp only [List.length_append, List.length_singleton]; omega)) (fun _ _ h => h)) ?_
      refine WL_nil ?_
      refine then_n ?_
      refine WC_if_true (lk0) hc ?_
      refine WC_reg fun ds => ?_
      refine WL_q rfl (q_move (lk2 rfl <| lk1 rfl <| lk0)) ?_
      refine WL_q rfl (q_assign (lk0)) ?_
      refine WL_nil ?_
      refine block_n (then_n ?_)
      refine WC_imp (fun _ _ h => h.drop (.cons _ <| .cons_cons _ <| .refl _)) ?_
      refine WC_reg fun ds => ?_
      refine WL_q rfl (q_add (lk8 rfl <| lk4 rfl <| lk2 rfl <| lk_in rfl hs18) lk_const rfl (by omega) (by omega)) ?_
      refine WL_q rfl (q_move (lk0)) ?_
      refine WL_nil ?_
      refine then_n ⟨_, m - 1, Off.eq (ou16 rfl <| off_over), by omega, ?_⟩
      exact ⟨_, hX, k + 1, by omega, (lk0), _, (lk2 rfl <| lk0), by rw [turnTo_yes hc]; exact hn2, rfl⟩
     ·
      refine WC_reg fun ds => ?_
      refine WL_q rfl (q_move (lk8 rfl <| lk1 rfl <| lk_off rfl <| lk4 rfl <| lk2 rfl <| lk1 rfl <| lk0)) ?_
      refine WL_q rfl (q_move (lk1 rfl <| lk0)) ?_
      refine WL_c rfl (q_call bd_60 lk_func (.cons (lk1 rfl <| lk0) (.cons (lk0) .nil)) (can_ok hX hv hn2 (fun i hi => by rcases List.mem_append.1 hi with hi | hi; (have := turnTo_lt k i hi; omega); (simp at hi; omega)) (by simp only [List.length_append, List.length_singleton]; omega)) (fun _ _ h => h)) ?_
      refine WL_nil ?_
      refine then_n ?_
      refine WC_if_false (lk0) (by simpa using hc) ?_
      refine WC_skip ?_
      refine block_n (then_n ?_)
      refine WC_imp (fun _ _ h => h.drop (.cons _ <| .cons_cons _ <| .refl _)) ?_
      refine WC_reg fun ds => ?_
      refine WL_q rfl (q_add (lk8 rfl <| lk4 rfl <| lk_in rfl hs18) lk_const rfl (by omega) (by omega)) ?_
      refine WL_q rfl (q_move (lk0)) ?_
      refine WL_nil ?_
      refine then_n ⟨_, m - 1, Off.eq (ou8 rfl <| ou4 rfl <| ou2 rfl <| off_over), by omega, ?_⟩
      exact ⟨_, hX, k + 1, by omega, (lk0), _, (lk8 rfl <| lk4 rfl <| lk2 rfl <| lk_in rfl hs2), by rw [turnTo_no hc]; exact h2, rfl⟩
    ·
     refine WC_seq ?_
     refine WC_reg fun ds => ?_
     refine WL_q rfl (q_lss (lk_in rfl hs18) (lk_off rfl <| lk1 rfl <| lk0)) ?_
     refine WL_nil ?_
     refine then_n ?_
     refine WC_seq ?_
     refine WC_if_false (lk0) (by first | rfl | exact decide_eq_false (by omega)) ?_
     obtain rfl : k = r.reqs.length := by omega
     refine WC_exit ?_
     refine then_x (then_x (exit_here ?_))
     refine then_n ?_
     refine WC_seq ?_
     refine WC_reg fun ds => ?_
     refine WL_q rfl (q_move (lk1 rfl <| lk_in rfl hs2)) ?_
     refine WL_q rfl (q_assign (lk0)) ?_
     refine WL_q rfl (q_assign lk_const) ?_
     refine WL_nil ?_
     refine then_n ?_
     refine WC_ret ?_
     refine post_ret rfl (.tmp (lk1 rfl <| lk0) (.tmp (lk0) .nil)) ?_
     rw [turnE_ok h0]
     exact ⟨_, rfl, h2⟩
  ·
   refine WC_seq ?_
   refine WC_reg fun ds => ?_
   refine WL_x rfl (x_box (lk_entry rfl) rfl fun b14 hb14 nb14 => ?_)
   refine WL_q rfl (q_assign lk_const) ?_
   refine WL_q rfl (q_assign lk_const) ?_
   refine WL_nil ?_
   refine then_n ?_
   refine WC_seq ?_
   refine WC_reg fun ds => ?_
   refine WL_q rfl (q_loadN agg_27 (lk2 rfl <| lk0) rfl rfl (own_whole 0 rfl)) ?_
   refine WL_c rfl (q_call bd_57 lk_func (.cons (lk0) (.cons lk_const .nil)) (enter_bad hr (Sl.nil : Ints F _ []) (fun h => h0 (someErr_nil.symm.trans h))) (fun _ _ h => h)) ?_
   refine WL_q rfl (q_move (lk0)) ?_
   refine WL_q rfl (q_extract (lk0) rfl) ?_
   refine WL_q rfl (q_extract (lk1 rfl <| lk0) rfl) ?_
   refine WL_q rfl (q_assign (lk1 rfl <| lk0)) ?_
   refine WL_q rfl (q_assign (lk1 rfl <| lk0)) ?_
   refine WL_nil ?_
   refine then_n ?_
   refine WC_seq ?_
   refine WC_seq ?_
   refine WC_reg fun ds => ?_
   refine WL_q rfl (q_move (lk0)) ?_
   refine WL_q rfl (q_neq (lk0) lk_const) ?_
   refine WL_nil ?_
   refine then_n ?_
   refine WC_if_true (lk0) (by simpa [someErr_nil] using h0) ?_
   refine WC_seq ?_
   refine WC_reg fun ds => ?_
   refine WL_q rfl (q_move (lk2 rfl <| lk0)) ?_
   refine WL_q rfl (q_assign lk_const) ?_
   refine WL_q rfl (q_assign (lk1 rfl <| lk0)) ?_
   refine WL_nil ?_
   refine then_n ?_
   refine WC_ret ?_
   refine then_r ?_
   refine post_ret rfl (.tmp (lk1 rfl <| lk0) (.tmp (lk0) .nil)) ?_
   rw [turnE_bad h0, ← someErr_nil]
   exact ⟨_, rfl, Sl.nil⟩
end Go.Proofs.Ytbcjfkcpfjccdaa
namespace Go.Proofs.Ytbcjfkcpfjccdaa
open Go.RowKit
theorem el_60 : ElemT Try.prog 60 2 16 (.agg #[.int .i64 0, .int .i64 0]) := elemT_of (by kernel_rfl) rfl (by decide)
theorem zr_60 : ZeroT Try.prog 60 (.agg #[.int .i64 0, .int .i64 0]) := zeroT_of (by kernel_rfl)
set_option maxRecDepth 100000 in
theorem left_top_ok {F : Heap} {vb vr vs vq : Value} {r : Room} (hr : RoomR F vb vr vs vq r) {v : Value} {xs : List Int} (hx : Ints F v xs) {v2 : Value} {ss : List Int} (hs : Ints F v2 ss) : Ok Try.prog 25 [.agg #[vb, vr, vs, vq], v, v2].toArray F fun u F' => ∃ ws, u = .tuple #[ws, .int .i64 (leftE r xs ss).2] ∧ Sl F' ws 2 spanE (leftE r xs ss).1 := by
  refine Ok.intro Try.func25 rfl Try.ntmps25 rfl fun w0 => ?_
  have hL1 := hr.seats.plain.lt
  have hL2 := hx.plain.lt
  have hL3 := hs.plain.lt
  by_cases h0 : someErr r xs = 0
  ·
   obtain ⟨l, rfl, hlt2, hasc⟩ := idx_of h0
   have hv := someErr_valid h0
   have hl := ints_nats hx
   have hn8 := asc_length hv hlt2 hasc
   have hnb := hv.nb
   refine WC_seq ?_
   refine WC_reg fun ds => ?_
   refine WL_x rfl (x_box (lk_entry rfl) rfl fun b1 hb1 nb1 => ?_)
   refine WL_q rfl (q_assign lk_const) ?_
   refine WL_q rfl (q_assign lk_const) ?_
   refine WL_nil ?_
   refine then_n ?_
   refine WC_seq ?_
   refine WC_reg fun ds => ?_
   refine WL_q rfl (q_loadN agg_27 (lk2 rfl <| lk0) rfl rfl (own_whole 0 rfl)) ?_
   refine WL_q rfl (q_move (lk4 rfl <| lk_entry rfl)) ?_
   refine WL_x rfl (x_call bd_57 lk_func (.cons (lk1 rfl <| lk0) (.cons (lk0) .nil)) (enter_good hr hx h0) fun v2 F3 hr4 hF5 => ?_)
   replace hr := hr.mono hF5
   replace hx := hx.mono hF5
   replace hs := hs.mono hF5
   replace hl := hl.mono hF5
   obtain ⟨p, rfl, hlk⟩ := hr4
   obtain ⟨b, c1, c8, c3, wb, wr, ws, wq, wl, rfl, hX⟩ := hlk
   refine WL_q rfl (q_move (lk0)) ?_
   refine WL_q rfl (q_extract (lk0) rfl) ?_
   refine WL_q rfl (q_extract (lk1 rfl <| lk0) rfl) ?_
   refine WL_q rfl (q_assign (lk1 rfl <| lk0)) ?_
   refine WL_q rfl (q_assign (lk1 rfl <| lk0)) ?_
   refine WL_nil ?_
   refine then_n ?_
   refine WC_seq ?_
   refine WC_block ?_
   refine WC_seq ?_
   refine WC_reg fun ds => ?_
   refine WL_q rfl (q_move (lk0)) ?_
   refine WL_q rfl (q_neq (lk0) lk_const) ?_
   refine WL_q rfl (q_assign (lk0)) ?_
   refine WL_nil ?_
   refine then_n ?_
   refine WC_if_false (lk0) (by decide) ?_
   by_cases h1 : ss.length = l.length
   ·
    refine WC_seq ?_
    refine WC_reg fun ds => ?_
    refine WL_q rfl (q_move (lk8 rfl <| lk4 rfl <| lk2 rfl <| lk_entry rfl)) ?_
    refine WL_q rfl (q_lenP sl_29 (lk0) hs.plain) ?_
    refine WL_q rfl (q_move (lk16 rfl <| lk_entry rfl)) ?_
    refine WL_q rfl (q_lenP sl_29 (lk0) hl.plain) ?_
    refine WL_q rfl (q_neq (lk2 rfl <| lk0) (lk0)) ?_
    refine WL_q rfl (q_assign (lk0)) ?_
    refine WL_nil ?_
    refine then_n ?_
    refine WC_if_false (lk0) (decide_eq_false (by omega)) ?_
    by_cases hall : (ss.any fun z => !(inB 0 (r.seats.length - 1) z)) = true
    ·
     refine WC_seq ?_
     refine WC_reg fun ds => ?_
     refine WL_q rfl (q_fieldAddrB fd_27_2 (lk16 rfl <| lk2 rfl <| lk1 rfl <| lk0)) ?_
     refine WL_q rfl (q_load1 one_24 (lk0) (Cell.own 0 rfl rfl)) ?_
     refine WL_q rfl (q_lenP sl_24 (lk0) hr.seats.plain) ?_
     refine WL_q rfl (q_sub (lk0) lk_const rfl (by omega) (by omega)) ?_
     refine WL_q rfl (q_move (lk16 rfl <| lk8 rfl <| lk_entry rfl)) ?_
     refine WL_c rfl (q_call bd_51 lk_func (.cons lk_const (.cons (lk1 rfl <| lk0) (.cons (lk0) .nil))) (outside_ok _ _ hs) (fun _ _ h => h)) ?_
     refine WL_q rfl (q_assign (lk0)) ?_
     refine WL_nil ?_
     refine then_n ?_
     refine WC_if_true (lk0) hall ?_
     refine WC_seq ?_
     refine WC_reg fun ds => ?_
     refine WL_q rfl (q_assign lk_const) ?_
     refine WL_q rfl (q_assign lk_const) ?_
     refine WL_nil ?_
     refine then_n ?_
     refine WC_ret ?_
     refine block_r (then_r ?_)
     refine post_ret rfl (.tmp (lk1 rfl <| lk0) (.tmp (lk0) .nil)) ?_
     rw [leftE_sit h0 (sits_rng h1 hall) (by decide)]
     exact ⟨_, rfl, Sl.nil⟩
    ·
     replace hall : (ss.any fun z => !(inB 0 (r.seats.length - 1) z)) = false := by simpa using hall
     refine WC_seq ?_
     refine WC_reg fun ds => ?_
     refine WL_q rfl (q_fieldAddrB fd_27_2 (lk16 rfl <| lk2 rfl <| lk1 rfl <| lk0)) ?_
     refine WL_q rfl (q_load1 one_24 (lk0) (Cell.own 0 rfl rfl)) ?_
     refine WL_q rfl (q_lenP sl_24 (lk0) hr.seats.plain) ?_
     refine WL_q rfl (q_sub (lk0) lk_const rfl (by omega) (by omega)) ?_
     refine WL_q rfl (q_move (lk16 rfl <| lk8 rfl <| lk_entry rfl)) ?_
     refine WL_c rfl (q_call bd_51 lk_func (.cons lk_const (.cons (lk1 rfl <| lk0) (.cons (lk0) .nil))) (outside_ok _ _ hs) (fun _ _ h => h)) ?_
     refine WL_q rfl (q_assign (lk0)) ?_
     refine WL_nil ?_
     refine then_n ?_
     refine WC_if_false (lk0) hall ?_
     refine WC_skip ?_
     refine block_n (then_n ?_)
     refine WC_seq ?_
     refine WC_reg fun ds => ?_
     refine WL_q rfl (q_assign lk_const) ?_
     refine WL_nil ?_
     refine then_n ?_
     refine WC_seq ?_
     refine WC_seq ?_
     refine WC_reg fun ds => ?_
     refine WL_q rfl (q_move (lk16 rfl <| lk8 rfl <| lk4 rfl <| lk_entry rfl)) ?_
     refine WL_q rfl (q_lenP sl_29 (lk0) hs.plain) ?_
     refine WL_q rfl (q_move lk_const) ?_
     refine WL_nil ?_
     refine then_n ?_
     refine WC_block ?_
     refine WC_loopN [6, 7, 9, 11, 42, 43, 44, 45, 46, 47, 48, 49, 50, 51, 52, 53, 54, 55] (fun m e σ => ∃ k mask : Nat, m + k = ss.length ∧ e 42 = .int .i64 k ∧ e 9 = .int .i64 (mask : Int) ∧ e 6 = .slice none 0 0 ∧ σ = ⟨F3, [(b1, bx 27 [vb, vr, vs, vq])]⟩ ∧ (∀ t : Nat, mask.testBit t = decide ((t : Int) ∈ ss.take k)) ∧ mask < 64 ∧ ∀ j (hj : j < ss.length), j < k → ss[j] ∉ ss.take j) (ss.length) ?_ ?_
     · exact ⟨0, 0, by omega, (lk0), (lk2 rfl <| lk1 rfl <| lk0), (lk16 rfl <| lk8 rfl <| lk4 rfl <| lk1 rfl <| lk0), rfl, fun t => by simp, by omega, fun j hj h => absurd h (by omega)⟩
     ·
      rintro m e _ ⟨k, mask, hm, hs42, hs9, hs6, rfl, hmk, hm6, hno⟩
      by_cases hlt : k < ss.length
      ·
       refine WC_seq ?_
       refine WC_reg fun ds => ?_
       refine WL_q rfl (q_lss (lk_in rfl hs42) (lk_off rfl <| lk1 rfl <| lk0)) ?_
       refine WL_nil ?_
       refine then_n ?_
       refine WC_seq ?_
       refine WC_if_true (lk0) (by first | rfl | exact decide_eq_true (by omega)) ?_
       have hkl : k < l.length := by omega
       have hlk := hlt2 _ (List.getElem_mem hkl)
       have hns := hv.ns
       have hq8 := hv.nq
       obtain ⟨s, hse, hsn⟩ := inB_nat (in_of_any hall hlt)
       have hs66 : s < 6 := by omega
       have hpk := pow_lt (show s < 6 by omega)
       by_cases hme : (s : Int) ∈ ss.take k
       ·
        refine WC_skip ?_
        refine then_n ?_
        refine WC_seq ?_
        refine WC_block ?_
        refine WC_seq ?_
        refine WC_reg fun ds => ?_
        refine WL_q rfl (q_index  sl_29 (lk1 rfl <| lk_off rfl <| lk2 rfl <| lk0) hs.plain (lk1 rfl <| lk_in rfl hs42) rfl hlt) ?_
        refine WL_q rfl (q_load1 one_3 (lk0) (show Cell _ _ (.int .i64 ((s : Nat) : Int)) by rw [← hse]; exact hs.int hlt)) ?_
        refine WL_q rfl (q_assign (lk0)) ?_
        refine WL_nil ?_
        refine then_n ?_
        refine WC_seq ?_
        refine WC_seq ?_
        refine WC_reg fun ds => ?_
        refine WL_q rfl (q_move (lk4 rfl <| lk_in rfl hs9)) ?_
        refine WL_q rfl (q_move (lk1 rfl <| lk0)) ?_
        refine WL_q rfl (q_shr (lk1 rfl <| lk0) (lk0) (k := s) rfl (by show s < 64; omega) shr_nat) ?_
        refine WL_q rfl (q_and (lk0) lk_const (m := mask / 2 ^ s) (k := 1) rfl rfl (by have := Nat.div_le_self mask (2 ^ s); omega) (by omega) rfl) ?_
        refine WL_q rfl (q_eql (lk0) lk_const) ?_
        refine WL_nil ?_
        refine then_n ?_
        refine WC_if_true (lk0) (by rw [bit_eq, hmk]; exact decide_eq_true hme) ?_
        refine WC_seq ?_
        refine WC_reg fun ds => ?_
        refine WL_q rfl (q_assign lk_const) ?_
        refine WL_q rfl (q_assign lk_const) ?_
        refine WL_nil ?_
        refine then_n ?_
        refine WC_ret ?_
        refine then_r (block_r (then_r (then_r (block_r (then_r ?_)))))
        refine post_ret rfl (.tmp (lk1 rfl <| lk0) (.tmp (lk0) .nil)) ?_
        rw [leftE_sit h0 (sits_twice h1 hall (twice_take hlt (by rw [hse]; exact hme))) (by decide)]
        exact ⟨_, rfl, Sl.nil⟩
       ·
        refine WC_skip ?_
        refine then_n ?_
        refine WC_seq ?_
        refine WC_block ?_
        refine WC_seq ?_
        refine WC_reg fun ds => ?_
        refine WL_q rfl (q_index  sl_29 (lk1 rfl <| lk_off rfl <| lk2 rfl <| lk0) hs.plain (lk1 rfl <| lk_in rfl hs42) rfl hlt) ?_
        refine WL_q rfl (q_load1 one_3 (lk0) (show Cell _ _ (.int .i64 ((s : Nat) : Int)) by rw [← hse]; exact hs.int hlt)) ?_
        refine WL_q rfl (q_assign (lk0)) ?_
        refine WL_nil ?_
        refine then_n ?_
        refine WC_seq ?_
        refine WC_seq ?_
        refine WC_reg fun ds => ?_
        refine WL_q rfl (q_move (lk4 rfl <| lk_in rfl hs9)) ?_
        refine WL_q rfl (q_move (lk1 rfl <| lk0)) ?_
        refine WL_q rfl (q_shr (lk1 rfl <| lk0) (lk0) (k := s) rfl (by show s < 64; omega) shr_nat) ?_
        refine WL_q rfl (q_and (lk0) lk_const (m := mask / 2 ^ s) (k := 1) rfl rfl (by have := Nat.div_le_self mask (2 ^ s); omega) (by omega) rfl) ?_
        refine WL_q rfl (q_eql (lk0) lk_const) ?_
        refine WL_nil ?_
        refine then_n ?_
        refine WC_if_false (lk0) (by rw [bit_eq, hmk]; exact decide_eq_false hme) ?_
        refine WC_skip ?_
        refine then_n ?_
        refine WC_reg fun ds => ?_
        refine WL_q rfl (q_move (lk8 rfl <| lk1 rfl <| lk_in rfl hs9)) ?_
        refine WL_q rfl (q_move (lk4 rfl <| lk2 rfl <| lk0)) ?_
        refine WL_q rfl (q_shl lk_const (lk0) (k := s) rfl (by omega) (show (1 : Int) * 2 ^ s = ((2 ^ s : Nat) : Int) by simp) (Int.le_trans (by decide) (Int.natCast_nonneg (2 ^ s))) (by omega)) ?_
        refine WL_q rfl (q_or (lk2 rfl <| lk0) (lk0) (m := mask) (k := 2 ^ s) rfl (by simp) (by omega) (by omega) rfl) ?_
        refine WL_q rfl (q_assign (lk0)) ?_
        refine WL_nil ?_
        refine block_n (then_n ?_)
        refine WC_reg fun ds => ?_
        refine WL_q rfl (q_add (lk8 rfl <| lk4 rfl <| lk2 rfl <| lk_in rfl hs42) lk_const rfl (by omega) (by omega)) ?_
        refine WL_q rfl (q_move (lk0)) ?_
        refine WL_nil ?_
        refine then_n ⟨_, m - 1, Off.eq (ou16 rfl <| off_over), by omega, ?_⟩
        refine ⟨k + 1, mask ||| 2 ^ s, by omega, (lk0), (lk2 rfl <| lk0), (lk16 rfl <| lk_in rfl hs6), rfl, by rw [List.take_succ_eq_append_getElem hlt, hse]; exact mask_orI hmk, mask_lt hm6 (by omega), fun j hj hjk => ?_⟩
        rcases Nat.lt_succ_iff_lt_or_eq.1 hjk with hjk | rfl
        · exact hno j hj hjk
        · rw [hse]; exact hme
      ·
       refine WC_seq ?_
       refine WC_reg fun ds => ?_
       refine WL_q rfl (q_lss (lk_in rfl hs42) (lk_off rfl <| lk1 rfl <| lk0)) ?_
       refine WL_nil ?_
       refine then_n ?_
       refine WC_seq ?_
       refine WC_if_false (lk0) (by first | rfl | exact decide_eq_false (by omega)) ?_
       have hnd : ss.Nodup := nodup_take fun j hj => hno j hj (by omega)
       by_cases ha : Apart r l
       ·
        refine WC_exit ?_
        refine then_x (then_x (exit_here ?_))
        refine then_n ?_
        refine WC_seq ?_
        refine WC_seq ?_
        refine WC_reg fun ds => ?_
        refine WL_q rfl (q_move (lk1 rfl <| lk_off rfl <| lk16 rfl <| lk4 rfl <| lk1 rfl <| lk0)) ?_
        refine WL_q rfl (q_move (lk2 rfl <| lk_off rfl <| lk16 rfl <| lk8 rfl <| lk4 rfl <| lk2 rfl <| lk1 rfl <| lk_entry rfl)) ?_
        refine WL_c rfl (q_call bd_63 lk_func (.cons (lk1 rfl <| lk0) (.cons (lk0) .nil)) (apart_ok hX hv hl hlt2) (fun _ _ h => h)) ?_
        refine WL_q rfl (q_not (lk0)) ?_
        refine WL_nil ?_
        refine then_n ?_
        refine WC_if_false (lk0) (by rw [decide_eq_true ha]; rfl) ?_
        refine WC_skip ?_
        refine then_n ?_
        refine WC_seq ?_
        refine WC_seq ?_
        refine WC_reg fun ds => ?_
        refine WL_q rfl (q_fieldAddrB fd_27_0 (lk4 rfl <| lk1 rfl <| lk_off rfl <| lk16 rfl <| lk8 rfl <| lk4 rfl <| lk2 rfl <| lk0)) ?_
        refine WL_q rfl (q_load1 one_22 (lk0) (Cell.own 0 rfl rfl)) ?_
        refine WL_q rfl (q_lenP sl_22 (lk0) hr.books.plain) ?_
        refine WL_q rfl (q_move lk_const) ?_
        refine WL_nil ?_
        refine then_n ?_
        refine WC_block ?_
        refine WC_loopN [6, 13, 63, 64, 65, 66, 67, 68, 69, 70, 71, 72] (fun m e σ => ∃ k : Nat, m + k = r.books.length ∧ e 63 = .int .i64 k ∧ ∃ v6 R6, e 6 = v6 ∧ Own 60 2 v6 (leftL r l ss 0 k).length ((leftL r l ss 0 k).flatMap spanE) R6 ∧ σ = ⟨F3, (b1, bx 27 [vb, vr, vs, vq]) :: R6⟩) (r.books.length) ?_ ?_
        · exact ⟨0, by omega, (lk0), _, _, (lk8 rfl <| lk1 rfl <| lk_in rfl hs6), Own.nil, rfl⟩
        ·
         rintro m2 e2 _ ⟨k, hm2, hu63, v6, R6, hu6, ho, rfl⟩
         by_cases hlt : k < r.books.length
         ·
          refine WC_seq ?_
          refine WC_reg fun ds => ?_
          refine WL_q rfl (q_lss (lk_in rfl hu63) (lk_off rfl <| lk1 rfl <| lk0)) ?_
          refine WL_nil ?_
          refine then_n ?_
          refine WC_seq ?_
          refine WC_if_true (lk0) (by first | rfl | exact decide_eq_true (by omega)) ?_
          have hkl8 := hv.nb
          have hlen := leftL_length (r := r) (l := l) (ss := ss) (n := 0) (k := k)
          refine WC_skip ?_
          refine then_n ?_
          refine WC_seq ?_
          refine WC_block ?_
          refine WC_seq ?_
          refine WC_reg fun ds => ?_
          refine WL_q rfl (q_index  sl_22 (lk1 rfl <| lk_off rfl <| lk2 rfl <| lk0) hr.books.plain (lk1 rfl <| lk_in rfl hu63) rfl hlt) ?_
          refine WL_q rfl (q_loadN agg_62 (lk0) rfl rfl (hr.books.whole hlt)) ?_
          refine WL_x rfl (x_alloc zr_62 rfl fun b8 hb8 nb8 => ?_)
          refine WL_x0 (x_storeA sz_62 (lk0) (lk1 rfl <| lk0) (i := 0) rfl rfl rfl rfl Book.enc_one (.here) ?_)
          refine WL_nil ?_
          refine then_n ?_
          refine WC_reg fun ds => ?_
          refine WL_q rfl (q_move (lk4 rfl <| lk_in rfl hu6)) ?_
          refine WL_q rfl (q_fieldAddrB fd_62_2 (lk1 rfl <| lk0)) ?_
          refine WL_q rfl (q_loadN (vs := [.int .i64 r.books[k].lo, .int .i64 r.books[k].hi]) agg_60 (lk0) rfl rfl (own_part 0 rfl rfl)) ?_
          refine WL_x rfl (x_buildN (offs := [(0, 2)]) (zl := [.int .i64 0, .int .i64 0]) sl_42 zr_60 rfl (.cons (lk0) rfl .nil) (by intro i p h; rcases i with _ | i <;> simp at h <;> subst h <;> rfl) (.cons rfl rfl (Nat.le_of_ble_eq_true rfl) (.cons (.here) (.cons (.next <| .here) .nil)) .nil) (by decide) (by decide) fun b9 hb9 nb9 => ?_)
          refine WL_x rfl (x_append sl_42 el_60 (lk2 rfl <| lk1 rfl <| lk0) ho (lk0) (src_box (s := 2) 0 rfl rfl (by simp [Value.oneCell'])) (by omega) (by omega) (.s <| .s <| .s <| .z) .last fun v10 R11 ho12 => ?_)
          have ho2 := ho12.snoc (x := leftAt r l ss 0 k) rfl (by rw [leftAt_zero, ← bk_at hlt]; rfl)
          rw [← leftL_succ] at ho2
          refine WL_q rfl (q_assign (lk0)) ?_
          refine WL_nil ?_
          refine block_n (then_n ?_)
          refine WC_imp (fun _ _ h => h.drop (.cons _ <| .cons _ <| .cons_cons _ <| .refl _)) ?_
          refine WC_reg fun ds => ?_
          refine WL_q rfl (q_add (lk8 rfl <| lk2 rfl <| lk_in rfl hu63) lk_const rfl (by omega) (by omega)) ?_
          refine WL_q rfl (q_move (lk0)) ?_
          refine WL_nil ?_
          refine then_n ⟨_, m2 - 1, Off.eq (ou8 rfl <| ou4 rfl <| off_over), by omega, ?_⟩
          exact ⟨k + 1, by omega, (lk0), _, _, (lk2 rfl <| lk0), ho2, rfl⟩
         ·
          refine WC_seq ?_
          refine WC_reg fun ds => ?_
          refine WL_q rfl (q_lss (lk_in rfl hu63) (lk_off rfl <| lk1 rfl <| lk0)) ?_
          refine WL_nil ?_
          refine then_n ?_
          refine WC_seq ?_
          refine WC_if_false (lk0) (by first | rfl | exact decide_eq_false (by omega)) ?_
          obtain rfl : k = r.books.length := by omega
          rw [leftL_length] at ho
          refine WC_exit ?_
          refine then_x (then_x (exit_here ?_))
          refine then_n ?_
          refine WC_seq ?_
          refine WC_seq ?_
          refine WC_reg fun ds => ?_
          refine WL_q rfl (q_move (lk1 rfl <| lk_off rfl <| lk8 rfl <| lk1 rfl <| lk_off rfl <| lk16 rfl <| lk8 rfl <| lk4 rfl <| lk2 rfl <| lk1 rfl <| lk_entry rfl)) ?_
          refine WL_q rfl (q_lenP sl_29 (lk0) hl.plain) ?_
          refine WL_q rfl (q_move lk_const) ?_
          refine WL_nil ?_
          refine then_n ?_
          refine WC_block ?_
          refine WC_loopN [6, 7, 14, 15, 16, 75, 76, 77, 78, 79, 80, 81, 82, 83, 84, 85, 86, 87, 88, 89, 90, 91, 92, 93, 94, 95, 96, 97, 98, 99, 100, 101, 102, 103, 104, 105, 106, 107, 108, 109, 110, 111, 112, 113, 114, 115, 116, 117, 118, 119, 120, 121, 122, 123, 124, 125, 126, 127, 128, 129, 130, 131, 132] (fun m e σ => ∃ k : Nat, m + k = l.length ∧ e 75 = .int .i64 k ∧ ∃ v6 R6, e 6 = v6 ∧ Own 60 2 v6 r.books.length ((leftL r l ss k r.books.length).flatMap spanE) R6 ∧ σ = ⟨F3, (b1, bx 27 [vb, vr, vs, vq]) :: R6⟩ ∧ ∀ j, j < k → badSeat r l ss j = false) (l.length) ?_ ?_
          · exact ⟨0, by omega, (lk0), _, _, (lk4 rfl <| lk_in rfl hu6), ho, rfl, fun j h => absurd h (by omega)⟩
          ·
           rintro m3 e3 _ ⟨k, hm3, hw75, v6, R6, hw6, ho, rfl, hno3⟩
           by_cases hlt0 : k < l.length
           ·
            have hlt : k < ss.length := by omega
            refine WC_seq ?_
            refine WC_reg fun ds => ?_
            refine WL_q rfl (q_lss (lk_in rfl hw75) (lk_off rfl <| lk1 rfl <| lk0)) ?_
            refine WL_nil ?_
            refine then_n ?_
            refine WC_seq ?_
            refine WC_if_true (lk0) (by first | rfl | exact decide_eq_true (by omega)) ?_
            have hkl : k < l.length := by omega
            have hlk := hlt2 _ (List.getElem_mem hkl)
            have hns := hv.ns
            have hq8 := hv.nq
            obtain ⟨s, hse, hsn⟩ := inB_nat (in_of_any hall hlt)
            have hs66 : s < 6 := by omega
            have hpk := pow_lt (show s < 6 by omega)
            obtain ⟨eB, lB⟩ := hv.book hlk
            have hl8 : l[k] < 8 := by omega
            have hlb := light_bound hv hlk hsn
            have hab := leftAt_bound hv (b := r.book l[k]) hlt2 hall (n := k) (by omega) (by omega) hn8 lB
            have hlx := leftAt_next (r := r) hkl hlt hse
            by_cases hrs : reason r l[k] s ≠ 0
            ·
             refine WC_skip ?_
             refine then_n ?_
             refine WC_seq ?_
             refine WC_block ?_
             refine WC_seq ?_
             refine WC_reg fun ds => ?_
             refine WL_q rfl (q_move (lk1 rfl <| lk_in rfl hw75)) ?_
             refine WL_q rfl (q_index  sl_29 (lk2 rfl <| lk_off rfl <| lk2 rfl <| lk0) hl.plain (lk2 rfl <| lk_in rfl hw75) rfl hlt0) ?_
             refine WL_q rfl (q_load1 one_3 (lk0) (hl.cell1 hlt0 rfl)) ?_
             refine WL_q rfl (q_assign (lk2 rfl <| lk0)) ?_
             refine WL_q rfl (q_assign (lk1 rfl <| lk0)) ?_
             refine WL_nil ?_
             refine then_n ?_
             refine WC_seq ?_
             refine WC_seq ?_
             refine WC_reg fun ds => ?_
             refine WL_q rfl (q_move (lk4 rfl <| lk2 rfl <| lk_off rfl <| lk4 rfl <| lk_off rfl <| lk8 rfl <| lk1 rfl <| lk_off rfl <| lk16 rfl <| lk4 rfl <| lk1 rfl <| lk0)) ?_
             refine WL_q rfl (q_move (lk1 rfl <| lk0)) ?_
             refine WL_q rfl (q_move (lk8 rfl <| lk_off rfl <| lk4 rfl <| lk_off rfl <| lk8 rfl <| lk1 rfl <| lk_off rfl <| lk16 rfl <| lk8 rfl <| lk4 rfl <| lk2 rfl <| lk1 rfl <| lk_entry rfl)) ?_
             refine WL_q rfl (q_move (lk4 rfl <| lk0)) ?_
             refine WL_q rfl (q_index  sl_29 (lk1 rfl <| lk0) hs.plain (lk0) rfl hlt) ?_
             refine WL_q rfl (q_load1 one_3 (lk0) (show Cell _ _ (.int .i64 ((s : Nat) : Int)) by rw [← hse]; exact hs.int hlt)) ?_
             refine WL_c rfl (q_call bd_58 lk_func (.cons (lk4 rfl <| lk1 rfl <| lk0) (.cons (lk4 rfl <| lk0) (.cons (lk0) .nil))) (why_ok hX hv hlk hsn) (fun _ _ h => h)) ?_
             refine WL_q rfl (q_neq (lk0) lk_const) ?_
             refine WL_nil ?_
             refine then_n ?_
             refine WC_if_true (lk0) (decide_eq_true hrs) ?_
             refine WC_seq ?_
             refine WC_reg fun ds => ?_
             refine WL_q rfl (q_assign lk_const) ?_
             refine WL_q rfl (q_assign lk_const) ?_
             refine WL_nil ?_
             refine then_n ?_
             refine WC_ret ?_
             refine then_r (block_r (then_r (then_r (block_r (then_r ?_)))))
             refine post_ret rfl (.tmp (lk1 rfl <| lk0) (.tmp (lk0) .nil)) ?_
             rw [leftE_sit h0 (sits_bad h1 hall hnd ha hlt (by rw [badSeat_at hkl hlt hse]; exact decide_eq_true hrs)) (by decide)]
             exact ⟨_, rfl, Sl.nil⟩
            ·
             refine WC_skip ?_
             refine then_n ?_
             refine WC_seq ?_
             refine WC_block ?_
             refine WC_seq ?_
             refine WC_reg fun ds => ?_
             refine WL_q rfl (q_move (lk1 rfl <| lk_in rfl hw75)) ?_
             refine WL_q rfl (q_index  sl_29 (lk2 rfl <| lk_off rfl <| lk2 rfl <| lk0) hl.plain (lk2 rfl <| lk_in rfl hw75) rfl hlt0) ?_
             refine WL_q rfl (q_load1 one_3 (lk0) (hl.cell1 hlt0 rfl)) ?_
             refine WL_q rfl (q_assign (lk2 rfl <| lk0)) ?_
             refine WL_q rfl (q_assign (lk1 rfl <| lk0)) ?_
             refine WL_nil ?_
             refine then_n ?_
             refine WC_seq ?_
             refine WC_seq ?_
             refine WC_reg fun ds => ?_
             refine WL_q rfl (q_move (lk4 rfl <| lk2 rfl <| lk_off rfl <| lk4 rfl <| lk_off rfl <| lk8 rfl <| lk1 rfl <| lk_off rfl <| lk16 rfl <| lk4 rfl <| lk1 rfl <| lk0)) ?_
             refine WL_q rfl (q_move (lk1 rfl <| lk0)) ?_
             refine WL_q rfl (q_move (lk8 rfl <| lk_off rfl <| lk4 rfl <| lk_off rfl <| lk8 rfl <| lk1 rfl <| lk_off rfl <| lk16 rfl <| lk8 rfl <| lk4 rfl <| lk2 rfl <| lk1 rfl <| lk_entry rfl)) ?_
             refine WL_q rfl (q_move (lk4 rfl <| lk0)) ?_
             refine WL_q rfl (q_index  sl_29 (lk1 rfl <| lk0) hs.plain (lk0) rfl hlt) ?_
             refine WL_q rfl (q_load1 one_3 (lk0) (show Cell _ _ (.int .i64 ((s : Nat) : Int)) by rw [← hse]; exact hs.int hlt)) ?_
             refine WL_c rfl (q_call bd_58 lk_func (.cons (lk4 rfl <| lk1 rfl <| lk0) (.cons (lk4 rfl <| lk0) (.cons (lk0) .nil))) (why_ok hX hv hlk hsn) (fun _ _ h => h)) ?_
             refine WL_q rfl (q_neq (lk0) lk_const) ?_
             refine WL_nil ?_
             refine then_n ?_
             refine WC_if_false (lk0) (decide_eq_false hrs) ?_
             refine WC_skip ?_
             refine then_n ?_
             refine WC_seq ?_
             refine WC_reg fun ds => ?_
             refine WL_q rfl (q_move (lk8 rfl <| lk4 rfl <| lk2 rfl <| lk_in rfl hw6)) ?_
             refine WL_q rfl (q_fieldAddrB fd_27_3 (lk8 rfl <| lk4 rfl <| lk2 rfl <| lk1 rfl <| lk_off rfl <| lk4 rfl <| lk_off rfl <| lk8 rfl <| lk1 rfl <| lk_off rfl <| lk16 rfl <| lk8 rfl <| lk4 rfl <| lk2 rfl <| lk0)) ?_
             refine WL_q rfl (q_load1 one_25 (lk0) (Cell.own 0 rfl rfl)) ?_
             refine WL_q rfl (q_move (lk8 rfl <| lk2 rfl <| lk1 rfl <| lk0)) ?_
             refine WL_q rfl (q_index  sl_25 (lk1 rfl <| lk0) hr.reqs.plain (lk0) rfl hlk) ?_
             refine WL_q rfl (q_fieldAddr fd_58_1 (lk0)) ?_
             refine WL_q rfl (q_load1 one_3 (lk0) (hr.reqs.cell hlk rfl)) ?_
             refine WL_q rfl (q_index (k := r.book l[k]) sl_42 (lk4 rfl <| lk2 rfl <| lk0) (ho.plain (by omega)) (lk0) eB lB) ?_
             refine WL_q rfl (q_assign (lk0)) ?_
             refine WL_nil ?_
             refine then_n ?_
             refine WC_seq ?_
             refine WC_drawS (.inl rfl) (fun _ _ h => h) (.cons_cons _ <| .refl _) [18] (by kernel_rfl) fun ds => ?_
             refine WX_take 0 rfl (by kernel_rfl) (by kernel_rfl) (by kernel_rfl) (by kernel_rfl) rfl rfl (fun _ h => h.drop (.cons_cons _ <| .refl _)) (fun _ _ _ h => h) (q_move (lk0)) ?_
             refine WX_take 1 rfl (by kernel_rfl) (by kernel_rfl) (by kernel_rfl) (by kernel_rfl) rfl rfl (fun _ h => h.drop (.cons_cons _ <| .refl _)) (fun _ _ _ h => h) (q_nilCheck (lk0)) ?_
             refine WX_take 2 rfl (by kernel_rfl) (by kernel_rfl) (by kernel_rfl) (by kernel_rfl) rfl rfl (fun _ h => h.drop (.cons_cons _ <| .refl _)) (fun _ _ _ h => h) (q_fieldAddr fd_60_0 (lk0)) ?_
             refine WX_take 3 rfl (by kernel_rfl) (by kernel_rfl) (by kernel_rfl) (by kernel_rfl) rfl rfl (fun _ h => h.drop (.cons_cons _ <| .refl _)) (fun _ _ _ h => h) (q_load1 one_3 (lk0) (own_cell ho (fun p hp => .tail _ hp) (flat_left (j := 0) lB rfl))) ?_
             refine WX_take 4 rfl (by kernel_rfl) (by kernel_rfl) (by kernel_rfl) (by kernel_rfl) rfl rfl (fun _ h => h.drop (.cons_cons _ <| .refl _)) (fun _ _ _ h => h) (q_move (lk16 rfl <| lk8 rfl <| lk2 rfl <| lk1 rfl <| lk_off rfl <| lk4 rfl <| lk_off rfl <| lk8 rfl <| lk1 rfl <| lk_off rfl <| lk16 rfl <| lk4 rfl <| lk1 rfl <| lk0)) ?_
             refine WX_take 5 rfl (by kernel_rfl) (by kernel_rfl) (by kernel_rfl) (by kernel_rfl) rfl rfl (fun _ h => h.drop (.cons_cons _ <| .refl _)) (fun _ _ _ h => h) (q_move (lk16 rfl <| lk4 rfl <| lk2 rfl <| lk0)) ?_
             refine WX_take 6 rfl (by kernel_rfl) (by kernel_rfl) (by kernel_rfl) (by kernel_rfl) rfl rfl (fun _ h => h.drop (.cons_cons _ <| .refl _)) (fun _ _ _ h => h) (q_move (lk16 rfl <| lk8 rfl <| lk4 rfl <| lk1 rfl <| lk_off rfl <| lk4 rfl <| lk_off rfl <| lk8 rfl <| lk1 rfl <| lk_off rfl <| lk16 rfl <| lk8 rfl <| lk4 rfl <| lk2 rfl <| lk1 rfl <| lk_entry rfl)) ?_
             refine WX_take 7 rfl (by kernel_rfl) (by kernel_rfl) (by kernel_rfl) (by kernel_rfl) rfl rfl (fun _ h => h.drop (.cons_cons _ <| .refl _)) (fun _ _ _ h => h) (q_move (lk16 rfl <| lk8 rfl <| lk1 rfl <| lk0)) ?_
             refine WX_take 8 rfl (by kernel_rfl) (by kernel_rfl) (by kernel_rfl) (by kernel_rfl) rfl rfl (fun _ h => h.drop (.cons_cons _ <| .refl _)) (fun _ _ _ h => h) (q_index  sl_29 (lk1 rfl <| lk0) hs.plain (lk0) rfl hlt) ?_
             refine WX_take 9 rfl (by kernel_rfl) (by kernel_rfl) (by kernel_rfl) (by kernel_rfl) rfl rfl (fun _ h => h.drop (.cons_cons _ <| .refl _)) (fun _ _ _ h => h) (q_load1 one_3 (lk0) (show Cell _ _ (.int .i64 ((s : Nat) : Int)) by rw [← hse]; exact hs.int hlt)) ?_
             refine WX_take 10 rfl (by kernel_rfl) (by kernel_rfl) (by kernel_rfl) (by kernel_rfl) rfl rfl (fun _ h => h.drop (.cons_cons _ <| .refl _)) (fun _ _ _ h => h) (q_nilCheck (lk4 rfl <| lk1 rfl <| lk0)) ?_
             refine WX_take 11 rfl (by kernel_rfl) (by kernel_rfl) (by kernel_rfl) (by kernel_rfl) rfl rfl (fun _ h => h.drop (.cons_cons _ <| .refl _)) (fun _ _ _ h => h) (q_fieldAddrB fd_114_1 (lk0)) ?_
             refine WX_take 12 rfl (by kernel_rfl) (by kernel_rfl) (by kernel_rfl) (by kernel_rfl) rfl rfl (fun _ h => h.drop (.cons_cons _ <| .refl _)) (fun _ _ _ h => h) (q_indexArrB  ar_111 (lk0) (lk4 rfl <| lk2 rfl <| lk0) rfl hl8) ?_
             refine WX_take 13 rfl (by kernel_rfl) (by kernel_rfl) (by kernel_rfl) (by kernel_rfl) rfl rfl (fun _ h => h.drop (.cons_cons _ <| .refl _)) (fun _ _ _ h => h) (q_indexArrB  ar_110 (lk0) (lk2 rfl <| lk1 rfl <| lk0) rfl (by omega)) ?_
             refine WX_take 14 rfl (by kernel_rfl) (by kernel_rfl) (by kernel_rfl) (by kernel_rfl) rfl rfl (fun _ h => h.drop (.cons_cons _ <| .refl _)) (fun _ _ _ h => h) (q_load1 one_3 (lk0) (hX.light_cell hl8 (by omega : s < 6)).cell) ?_
             refine WX_take 15 rfl (by kernel_rfl) (by kernel_rfl) (by kernel_rfl) (by kernel_rfl) rfl rfl (fun _ h => h.drop (.cons_cons _ <| .refl _)) (fun _ _ _ h => h) (q_sub (lk8 rfl <| lk2 rfl <| lk1 rfl <| lk0) (lk0) rfl (by omega) (by omega)) ?_
             refine WX_take 16 rfl (by kernel_rfl) (by kernel_rfl) (by kernel_rfl) (by kernel_rfl) rfl rfl (fun _ h => h.drop (.cons_cons _ <| .refl _)) (fun _ _ _ h => h) (q_nilCheck (lk8 rfl <| lk4 rfl <| lk2 rfl <| lk1 rfl <| lk0)) ?_
             refine WX_take 17 rfl (by kernel_rfl) (by kernel_rfl) (by kernel_rfl) (by kernel_rfl) rfl rfl (fun _ h => h.drop (.cons_cons _ <| .refl _)) (fun _ _ _ h => h) (q_fieldAddr fd_60_0 (lk0)) ?_
             refine WX_x0 18 rfl (by kernel_rfl) (x_storeR sz_3 (lk0) (lk2 rfl <| lk0) ho (by rw [flat_left_len]; omega) rfl (.s .z) .last fun R7 ho3 => ⟨(fun h => nomatch h), ?_⟩)
             refine WX_done (by kernel_rfl) ?_ _
             refine then_n ?_
             refine WC_drawS (.inl rfl) (fun _ _ h => h) (.cons_cons _ <| .refl _) [18] (by kernel_rfl) fun ds => ?_
             refine WX_take 0 rfl (by kernel_rfl) (by kernel_rfl) (by kernel_rfl) (by kernel_rfl) rfl rfl (fun _ h => h.drop (.cons_cons _ <| .refl _)) (fun _ _ _ h => h) (q_move (lk16 rfl <| lk2 rfl <| lk0)) ?_
             refine WX_take 1 rfl (by kernel_rfl) (by kernel_rfl) (by kernel_rfl) (by kernel_rfl) rfl rfl (fun _ h => h.drop (.cons_cons _ <| .refl _)) (fun _ _ _ h => h) (q_nilCheck (lk0)) ?_
             refine WX_take 2 rfl (by kernel_rfl) (by kernel_rfl) (by kernel_rfl) (by kernel_rfl) rfl rfl (fun _ h => h.drop (.cons_cons _ <| .refl _)) (fun _ _ _ h => h) (q_fieldAddr fd_60_1 (lk0)) ?_
             refine WX_take 3 rfl (by kernel_rfl) (by kernel_rfl) (by kernel_rfl) (by kernel_rfl) rfl rfl (fun _ h => h.drop (.cons_cons _ <| .refl _)) (fun _ _ _ h => h) (q_load1 one_3 (lk0) (own_cell ho3 (fun p hp => .tail _ hp) (by rw [List.getElem?_set_ne (by omega)]; exact flat_left (j := 1) lB rfl))) ?_
             refine WX_take 4 rfl (by kernel_rfl) (by kernel_rfl) (by kernel_rfl) (by kernel_rfl) rfl rfl (fun _ h => h.drop (.cons_cons _ <| .refl _)) (fun _ _ _ h => h) (q_move (lk32 rfl <| lk8 rfl <| lk4 rfl <| lk1 rfl <| lk_off rfl <| lk4 rfl <| lk_off rfl <| lk8 rfl <| lk1 rfl <| lk_off rfl <| lk16 rfl <| lk4 rfl <| lk1 rfl <| lk0)) ?_
             refine WX_take 5 rfl (by kernel_rfl) (by kernel_rfl) (by kernel_rfl) (by kernel_rfl) rfl rfl (fun _ h => h.drop (.cons_cons _ <| .refl _)) (fun _ _ _ h => h) (q_move (lk32 rfl <| lk8 rfl <| lk0)) ?_
             refine WX_take 6 rfl (by kernel_rfl) (by kernel_rfl) (by kernel_rfl) (by kernel_rfl) rfl rfl (fun _ h => h.drop (.cons_cons _ <| .refl _)) (fun _ _ _ h => h) (q_move (lk32 rfl <| lk8 rfl <| lk4 rfl <| lk2 rfl <| lk1 rfl <| lk_off rfl <| lk4 rfl <| lk_off rfl <| lk8 rfl <| lk1 rfl <| lk_off rfl <| lk16 rfl <| lk8 rfl <| lk4 rfl <| lk2 rfl <| lk1 rfl <| lk_entry rfl)) ?_
             refine WX_take 7 rfl (by kernel_rfl) (by kernel_rfl) (by kernel_rfl) (by kernel_rfl) rfl rfl (fun _ h => h.drop (.cons_cons _ <| .refl _)) (fun _ _ _ h => h) (q_move (lk32 rfl <| lk8 rfl <| lk2 rfl <| lk1 rfl <| lk0)) ?_
             refine WX_take 8 rfl (by kernel_rfl) (by kernel_rfl) (by kernel_rfl) (by kernel_rfl) rfl rfl (fun _ h => h.drop (.cons_cons _ <| .refl _)) (fun _ _ _ h => h) (q_index  sl_29 (lk1 rfl <| lk0) hs.plain (lk0) rfl hlt) ?_
             refine WX_take 9 rfl (by kernel_rfl) (by kernel_rfl) (by kernel_rfl) (by kernel_rfl) rfl rfl (fun _ h => h.drop (.cons_cons _ <| .refl _)) (fun _ _ _ h => h) (q_load1 one_3 (lk0) (show Cell _ _ (.int .i64 ((s : Nat) : Int)) by rw [← hse]; exact hs.int hlt)) ?_
             refine WX_take 10 rfl (by kernel_rfl) (by kernel_rfl) (by kernel_rfl) (by kernel_rfl) rfl rfl (fun _ h => h.drop (.cons_cons _ <| .refl _)) (fun _ _ _ h => h) (q_nilCheck (lk4 rfl <| lk1 rfl <| lk0)) ?_
             refine WX_take 11 rfl (by kernel_rfl) (by kernel_rfl) (by kernel_rfl) (by kernel_rfl) rfl rfl (fun _ h => h.drop (.cons_cons _ <| .refl _)) (fun _ _ _ h => h) (q_fieldAddrB fd_114_1 (lk0)) ?_
             refine WX_take 12 rfl (by kernel_rfl) (by kernel_rfl) (by kernel_rfl) (by kernel_rfl) rfl rfl (fun _ h => h.drop (.cons_cons _ <| .refl _)) (fun _ _ _ h => h) (q_indexArrB  ar_111 (lk0) (lk4 rfl <| lk2 rfl <| lk0) rfl hl8) ?_
             refine WX_take 13 rfl (by kernel_rfl) (by kernel_rfl) (by kernel_rfl) (by kernel_rfl) rfl rfl (fun _ h => h.drop (.cons_cons _ <| .refl _)) (fun _ _ _ h => h) (q_indexArrB  ar_110 (lk0) (lk2 rfl <| lk1 rfl <| lk0) rfl (by omega)) ?_
             refine WX_take 14 rfl (by kernel_rfl) (by kernel_rfl) (by kernel_rfl) (by kernel_rfl) rfl rfl (fun _ h => h.drop (.cons_cons _ <| .refl _)) (fun _ _ _ h => h) (q_load1 one_3 (lk0) (hX.light_cell hl8 (by omega : s < 6)).cell) ?_
             refine WX_take 15 rfl (by kernel_rfl) (by kernel_rfl) (by kernel_rfl) (by kernel_rfl) rfl rfl (fun _ h => h.drop (.cons_cons _ <| .refl _)) (fun _ _ _ h => h) (q_sub (lk8 rfl <| lk2 rfl <| lk1 rfl <| lk0) (lk0) rfl (by omega) (by omega)) ?_
             refine WX_take 16 rfl (by kernel_rfl) (by kernel_rfl) (by kernel_rfl) (by kernel_rfl) rfl rfl (fun _ h => h.drop (.cons_cons _ <| .refl _)) (fun _ _ _ h => h) (q_nilCheck (lk8 rfl <| lk4 rfl <| lk2 rfl <| lk1 rfl <| lk0)) ?_
             refine WX_take 17 rfl (by kernel_rfl) (by kernel_rfl) (by kernel_rfl) (by kernel_rfl) rfl rfl (fun _ h => h.drop (.cons_cons _ <| .refl _)) (fun _ _ _ h => h) (q_fieldAddr fd_60_1 (lk0)) ?_
             refine WX_x0 18 rfl (by kernel_rfl) (x_storeR sz_3 (lk0) (lk2 rfl <| lk0) ho3 (by rw [List.length_set, flat_left_len]; omega) rfl (.s .z) .last fun R8 ho4 => ⟨(fun h => nomatch h), ?_⟩)
             refine WX_done (by kernel_rfl) ?_ _
             refine block_n (then_n ?_)
             refine WC_reg fun ds => ?_
             refine WL_q rfl (q_add (lk32 rfl <| lk16 rfl <| lk8 rfl <| lk2 rfl <| lk1 rfl <| lk_in rfl hw75) lk_const rfl (by omega) (by omega)) ?_
             refine WL_q rfl (q_move (lk0)) ?_
             refine WL_nil ?_
             refine then_n ⟨_, m3 - 1, Off.eq (ou32 rfl <| ou16 rfl <| ou8 rfl <| ou4 rfl <| ou1 rfl <| off_over), by omega, ?_⟩
             rw [flat_set2 (by rw [leftL_length]; exact lB), show ((leftAt r l ss k (r.book l[k])).1 - light r l[k] s, (leftAt r l ss k (r.book l[k])).2 - light r l[k] s) = leftAt r l ss (k + 1) (r.book l[k]) from hlx.symm, leftL_set hkl] at ho4
             refine ⟨k + 1, by omega, (lk0), _, _, (lk32 rfl <| lk16 rfl <| lk8 rfl <| lk4 rfl <| lk1 rfl <| lk_in rfl hw6), ho4, rfl, fun j hjk => ?_⟩
             rcases Nat.lt_succ_iff_lt_or_eq.1 hjk with hjk | rfl
             · exact hno3 j hjk
             · rw [badSeat_at hkl hlt hse]; exact decide_eq_false hrs
           ·
            refine WC_seq ?_
            refine WC_reg fun ds => ?_
            refine WL_q rfl (q_lss (lk_in rfl hw75) (lk_off rfl <| lk1 rfl <| lk0)) ?_
            refine WL_nil ?_
            refine then_n ?_
            refine WC_seq ?_
            refine WC_if_false (lk0) (by first | rfl | exact decide_eq_false (by omega)) ?_
            obtain rfl : k = l.length := by omega
            have hsit := sits_ok h1 hall hnd ha fun i hi => hno3 i (by omega)
            have ho5 : Own 60 2 v6 (leftL r l ss l.length r.books.length).length ((leftL r l ss l.length r.books.length).flatMap spanE) R6 := by rw [leftL_length]; exact ho
            refine WC_freezeR (σ := ⟨_, _⟩) (by rfl) ho5 (.s <| .z) .last fun F14 hF15 hz16 => ?_
            replace hr := hr.mono hF15
            replace hx := hx.mono hF15
            replace hs := hs.mono hF15
            replace hl := hl.mono hF15
            replace hX := hX.mono hF15
            have hn2 := ho5.sl (fun _ => rfl) hz16 (by rw [leftL_length]; omega)
            refine WC_exit ?_
            refine then_x (then_x (exit_here ?_))
            refine then_n ?_
            refine WC_seq ?_
            refine WC_reg fun ds => ?_
            refine WL_q rfl (q_move (lk1 rfl <| lk_in rfl hw6)) ?_
            refine WL_q rfl (q_assign (lk0)) ?_
            refine WL_q rfl (q_assign lk_const) ?_
            refine WL_nil ?_
            refine then_n ?_
            refine WC_ret ?_
            refine post_ret rfl (.tmp (lk1 rfl <| lk0) (.tmp (lk0) .nil)) ?_
            rw [leftE_ok h0 hsit]
            exact ⟨_, rfl, hn2⟩
       ·
        refine WC_exit ?_
        refine then_x (then_x (exit_here ?_))
        refine then_n ?_
        refine WC_seq ?_
        refine WC_seq ?_
        refine WC_reg fun ds => ?_
        refine WL_q rfl (q_move (lk1 rfl <| lk_off rfl <| lk16 rfl <| lk4 rfl <| lk1 rfl <| lk0)) ?_
        refine WL_q rfl (q_move (lk2 rfl <| lk_off rfl <| lk16 rfl <| lk8 rfl <| lk4 rfl <| lk2 rfl <| lk1 rfl <| lk_entry rfl)) ?_
        refine WL_c rfl (q_call bd_63 lk_func (.cons (lk1 rfl <| lk0) (.cons (lk0) .nil)) (apart_ok hX hv hl hlt2) (fun _ _ h => h)) ?_
        refine WL_q rfl (q_not (lk0)) ?_
        refine WL_nil ?_
        refine then_n ?_
        refine WC_if_true (lk0) (by rw [decide_eq_false ha]; rfl) ?_
        refine WC_seq ?_
        refine WC_reg fun ds => ?_
        refine WL_q rfl (q_assign lk_const) ?_
        refine WL_q rfl (q_assign lk_const) ?_
        refine WL_nil ?_
        refine then_n ?_
        refine WC_ret ?_
        refine then_r ?_
        refine post_ret rfl (.tmp (lk1 rfl <| lk0) (.tmp (lk0) .nil)) ?_
        rw [leftE_sit h0 (sits_apart h1 hall hnd ha) (by decide)]
        exact ⟨_, rfl, Sl.nil⟩
   ·
    refine WC_seq ?_
    refine WC_reg fun ds => ?_
    refine WL_q rfl (q_move (lk8 rfl <| lk4 rfl <| lk2 rfl <| lk_entry rfl)) ?_
    refine WL_q rfl (q_lenP sl_29 (lk0) hs.plain) ?_
    refine WL_q rfl (q_move (lk16 rfl <| lk_entry rfl)) ?_
    refine WL_q rfl (q_lenP sl_29 (lk0) hl.plain) ?_
    refine WL_q rfl (q_neq (lk2 rfl <| lk0) (lk0)) ?_
    refine WL_q rfl (q_assign (lk0)) ?_
    refine WL_nil ?_
    refine then_n ?_
    refine WC_if_true (lk0) (decide_eq_true (by omega)) ?_
    refine WC_seq ?_
    refine WC_reg fun ds => ?_
    refine WL_q rfl (q_assign lk_const) ?_
    refine WL_q rfl (q_assign lk_const) ?_
    refine WL_nil ?_
    refine then_n ?_
    refine WC_ret ?_
    refine block_r (then_r ?_)
    refine post_ret rfl (.tmp (lk1 rfl <| lk0) (.tmp (lk0) .nil)) ?_
    rw [leftE_sit h0 (sits_len h1) (by decide)]
    exact ⟨_, rfl, Sl.nil⟩
  ·
   refine WC_seq ?_
   refine WC_reg fun ds => ?_
   refine WL_x rfl (x_box (lk_entry rfl) rfl fun b17 hb17 nb17 => ?_)
   refine WL_q rfl (q_assign lk_const) ?_
   refine WL_q rfl (q_assign lk_const) ?_
   refine WL_nil ?_
   refine then_n ?_
   refine WC_seq ?_
   refine WC_reg fun ds => ?_
   refine WL_q rfl (q_loadN agg_27 (lk2 rfl <| lk0) rfl rfl (own_whole 0 rfl)) ?_
   refine WL_q rfl (q_move (lk4 rfl <| lk_entry rfl)) ?_
   refine WL_c rfl (q_call bd_57 lk_func (.cons (lk1 rfl <| lk0) (.cons (lk0) .nil)) (enter_bad hr hx h0) (fun _ _ h => h)) ?_
   refine WL_q rfl (q_move (lk0)) ?_
   refine WL_q rfl (q_extract (lk0) rfl) ?_
   refine WL_q rfl (q_extract (lk1 rfl <| lk0) rfl) ?_
   refine WL_q rfl (q_assign (lk1 rfl <| lk0)) ?_
   refine WL_q rfl (q_assign (lk1 rfl <| lk0)) ?_
   refine WL_nil ?_
   refine then_n ?_
   refine WC_seq ?_
   refine WC_block ?_
   refine WC_seq ?_
   refine WC_reg fun ds => ?_
   refine WL_q rfl (q_move (lk0)) ?_
   refine WL_q rfl (q_neq (lk0) lk_const) ?_
   refine WL_q rfl (q_assign (lk0)) ?_
   refine WL_nil ?_
   refine then_n ?_
   refine WC_if_true (lk0) (decide_eq_true h0) ?_
   refine WC_seq ?_
   refine WC_reg fun ds => ?_
   refine WL_q rfl (q_move (lk2 rfl <| lk1 rfl <| lk0)) ?_
   refine WL_q rfl (q_assign lk_const) ?_
   refine WL_q rfl (q_assign (lk1 rfl <| lk0)) ?_
   refine WL_nil ?_
   refine then_n ?_
   refine WC_ret ?_
   refine block_r (then_r ?_)
   refine post_ret rfl (.tmp (lk1 rfl <| lk0) (.tmp (lk0) .nil)) ?_
   rw [leftE_bad h0]
   exact ⟨_, rfl, Sl.nil⟩
end Go.Proofs.Ytbcjfkcpfjccdaa
namespace Go.Proofs.Ytbcjfkcpfjccdaa
open Go.RowKit
theorem sz_60 : SizeT Try.prog 60 2 := sizeT_of (by kernel_rfl)
theorem bt_60 : BuildT Try.prog 60 [.int .i64 0, .int .i64 0] [(0, 1), (1, 1)] := buildT_of zr_60 (by kernel_rfl) (by decide)
end Go.Proofs.Ytbcjfkcpfjccdaa
