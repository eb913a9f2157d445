/-
  A part of a proof: SaleMore returns true of any sale, bid and lot by bits and sum, and leaves what it is handed as it was. No conditions.
-/
import Derived.Test.YtaikojfonleccaaPad
import Derived.KernelRfl
namespace Go.Proofs.Ytaikojfonleccaa
open Go.RowKit
theorem zr_165 : ZeroT Try.prog 165 (.nilFunc) := C4 (by kernel_rfl)
theorem fd_60_1 : FieldT Try.prog 60 1 1 := Ca (by kernel_rfl)
theorem Cf : FieldT Try.prog 60 2 2 := Ca (by kernel_rfl)
theorem sz_165 : SizeT Try.prog 165 1 := C8 (by kernel_rfl)
theorem next_all {s : Sale} (hv : ValidS s) {L : Nat} {F0 : Heap} {xs : List (List Nat)} {J : List (List Nat) → Heap → List (Nat × Obj) → Prop} {Jx : Heap → List (Nat × Obj) → Prop} {vs vb vl vn vd : Value} {b kb d3 d4 d5 d6 many : Nat}
   (hm : ∀ pre F F' H, F.le F' → J pre F H → J pre F' H) (hmx : ∀ F F' H, F.le F' → Jx F H → Jx F' H) (hy : YieldOk Try.prog L F0 xs J Jx) (hmany : many ≤ 6) : ∀ r, NextOk s L F0 xs J Jx vs vb vl vn vd b kb d3 d4 d5 d6 many r
 | 0 => next_nil hv hm hmx hy hmany
 | r + 1 => next_step hv hm hmx hy hmany (next_all hv hm hmx hy hmany r)
theorem everyTo_split {n k : Nat} (hk : k ≤ n) (h1 : k ≠ 1) : ∃ rest, everyR n = everyTo n k ++ (listsR k 0 n).map (([] : List Nat) ++ ·) ++ rest := by
 rw [← everyTo_end]
 unfold everyTo
 rw [List.range_eq_range', show n + 1 = k + (n - k + 1) by omega, ← List.range'_append_1, List.flatMap_append, List.range'_succ, List.flatMap_cons, Nat.zero_add, if_neg h1, ← List.range_eq_range']
 exact ⟨(List.range' (k + 1) (n - k)).flatMap fun m => if m = 1 then [] else listsR m 0 n, by simp⟩
theorem setOf_nil : SetOf 0 (castL []) := fun t => by simp [castL]
set_option maxRecDepth 100000 in
theorem rings1_iter {F0 : Heap} {b kb : Nat} {vs vb vl vn vd : Value} {s : Sale} (hX0 : AucX 156 F0 b vs vb vl vn vd kb s) (hv : ValidS s) {d5 : Nat} (z5 : F0 d5 = some (bx 116 [.pointer (some ⟨b, 0, none⟩)])) : IterG Try.prog 108 [.pointer (some ⟨d5, 0, none⟩)] F0 RingA (everyR s.bidders.length) := by
 intro L J Jx F RH hF hm hmx hy h0
 have hX := hX0.mono hF
 replace z5 := hF _ _ z5
 refine OkG.intro Try.func108 rfl Try.ntmps108 rfl fun w0 => ?_
 have hL1 := hX.sale.bidders.plain.lt
 have hnb := hv.nb
 refine Af <| Ai fun ds => Bl rfl (Cc (Ak rfl) rfl fun b1 hb1 nb1 => ?_)
 refine Ah <| Ad <| Af <| Cq (i := 0) rfl hb1 (.here) fun F2 hF3 hz2 => ?_
 replace hX := hX.mono hF3
 replace h0 := hm _ _ _ _ hF3 h0
 replace hF := Heap.le_trans hF hF3
 replace z5 := hF3 _ _ z5
 refine Ai fun ds => Aa rfl (Aq one_116 (Al rfl <| Ak rfl) (CellF.own z5 rfl).cell) ?_
 refine Aa rfl (Bu (Ac)) ?_
 refine Aa rfl (Aj E4 (Ac)) ?_
 refine Aa rfl (Aj C7 (Ac)) ?_
 refine Aa rfl (Aq Cx (Ac) (CellF.own hX.blk rfl).cell) ?_
 refine Aa rfl (Bf Cr (Ac) hX.sale.bidders.plain) ?_
 refine Aa rfl (B3 (Ac) Ab rfl (by omega) (by omega)) ?_
 refine Aa rfl (Ag Ab) ?_
 refine Ah <| Ad <| A4 <| B4 [3, 4, 12, 13, 14, 15, 16, 17, 18, 19, 20, 21] (fun m e σ => ∃ G RH', F0.le G ∧ F2.le G ∧ ∃ k : Nat, m + k = s.bidders.length + 1 ∧ e 12 = .int .i64 (k : Int) ∧ J (everyTo s.bidders.length k) G RH' ∧ σ = ⟨G, RH'⟩) (s.bidders.length + 1) ?_ ?_
 · exact ⟨_, _, hF, Heap.le_refl _, 0, by omega, (Ac), h0, rfl⟩
 ·
  rintro m e _ ⟨G, RH', hG, hFG, k, hm1, hs12, hJ, rfl⟩; replace hX := hX.mono hFG; replace z5 := hFG _ _ z5; replace hz2 := hFG _ _ hz2
  by_cases hlt : k < s.bidders.length + 1
  ·
   refine Af <| Ai fun ds => Aa rfl (B0 (Au rfl hs12) (Ao rfl <| Al rfl <| Ac)) ?_
   refine Ah <| Ad <| Af <| Ar (Ac) (by first | rfl | exact decide_eq_true (by omega)) ?_
   by_cases h1 : k = 1
   ·
    refine Ax <| Ad <| Af <| A4 <| Af <| Ai fun ds => Aa rfl (Ag (Al rfl <| Au rfl hs12)) ?_
    refine Bl rfl (B6 C3 rfl fun b5 hb5 nb5 => ?_)
    refine Ck (C2 sz_3 (Ac) (Al rfl <| Ac) (i := 0) rfl (.here) rfl (.here) ?_)
    refine Ah <| Ad <| Af <| Af <| Ai fun ds => Aa rfl (Aq Bd (Ac) (Cell.own 0 rfl rfl)) ?_
    refine Aa rfl (B9 (Ac) Ab) ?_
    refine Ah <| Ad <| Ar (Ac) (decide_eq_true (by omega)) ?_
    refine Bx ?_
    refine Bk (Bn ?_)
    refine Ad <| Ct (fun _ _ h => h.drop (.cons _ <| .refl _)) ?_
    refine Ai fun ds => Aa rfl (B3 (Ay rfl <| Al rfl <| Au rfl hs12) Ab rfl (by omega) (by omega)) ?_
    refine Aa rfl (Ag (Ac)) ?_
    refine Ah <| Ad ⟨_, m - 1, Off.eq (ou4 rfl <| Et rfl <| Eu rfl <| Bj), by omega, ?_⟩
    refine ⟨_, RH', hG, hFG, k + 1, by omega, (Ac), ?_, rfl⟩
    rw [everyTo_succ, if_pos h1, List.append_nil]; exact hJ
   ·
    obtain ⟨rest, hsp⟩ := everyTo_split (n := s.bidders.length) (k := k) (by omega) h1
    refine Ax <| Ad <| Af <| A4 <| Af <| Ai fun ds => Aa rfl (Ag (Al rfl <| Au rfl hs12)) ?_
    refine Bl rfl (B6 C3 rfl fun b6 hb6 nb6 => ?_)
    refine Ck (C2 sz_3 (Ac) (Al rfl <| Ac) (i := 0) rfl (.here) rfl (.here) ?_)
    refine Ah <| Ad <| Af <| Af <| Ai fun ds => Aa rfl (Aq Bd (Ac) (Cell.own 0 rfl rfl)) ?_
    refine Aa rfl (B9 (Ac) Ab) ?_
    refine Ah <| Ad <| Am (Ac) (decide_eq_false (by omega)) ?_
    refine Ax <| Ad <| Af <| Ai fun ds => Bl rfl (B6 zr_165 rfl fun b7 hb7 nb7 => ?_)
    refine Ah <| Ad <| Af <| Ai fun ds => Aa rfl (Cw (.cons (Ap rfl <| Al rfl <| Ac) (.cons (Ay rfl <| Ap rfl <| Ao rfl <| Ba rfl <| Ac) (.cons (Ay rfl <| Ap rfl <| Ao rfl <| Ba rfl <| Al rfl <| Ak rfl) (.cons (Ac) .nil))))) ?_
    refine Ck (C2 sz_165 (Al rfl <| Ac) (Ac) (i := 0) rfl (.here) rfl (.here) ?_)
    refine Ah <| Ad <| Af <| Cq (i := 1) rfl hb6 (.next <| .here) fun F8 hF9 hz3 => ?_
    replace hX := hX.mono hF9
    replace hG := Heap.le_trans hG hF9
    replace hFG := Heap.le_trans hFG hF9
    replace hJ := hm _ _ _ _ hF9 hJ
    replace z5 := hF9 _ _ z5
    replace hz2 := hF9 _ _ hz2
    refine Cq (i := 0) rfl hb7 (.here) fun F10 hF11 hz4 => ?_
    replace hX := hX.mono hF11
    replace hG := Heap.le_trans hG hF11
    replace hFG := Heap.le_trans hFG hF11
    replace hJ := hm _ _ _ _ hF11 hJ
    replace z5 := hF11 _ _ z5
    replace hz2 := hF11 _ _ hz2
    replace hz3 := hF11 _ _ hz3
    refine Ai fun ds => Aa rfl (Aq one_165 (Al rfl <| Ac) (CellF.own hz4 rfl).cell) ?_
    refine Bl rfl (x_callG bd_109 (Ac) (.cons Ab (.cons Ab (.cons Ab .nil))) rfl (next_all hv hm hmx hy (b := b) (kb := kb) (many := k) (by omega) k (from_ := 0) (set := 0) (ring := []) hG hX ⟨hz3, hz2, z5, hz4⟩ (Sl.nil : Nats _ _ []) (by simp) (by omega) (by decide) setOf_nil hsp hJ) fun v16 F17 H20 hr18 hF19 => ?_)
    replace hG := Heap.le_trans hG hF19
    replace hFG := Heap.le_trans hFG hF19
    replace hJ := hm _ _ _ _ hF19 hJ
    obtain ⟨yb, rfl, hyb⟩ := yes_no hr18
    refine Aa rfl (Cu (Ac)) ?_
    refine Ah <| Ad ?_
    rcases hyb with ⟨rfl, hJ2⟩ | ⟨rfl, hJx⟩
    ·
     refine Am (Ac) rfl ?_
     refine Ax <| Bh <| Ad <| Ai fun ds => Aa rfl (B3 (Ba rfl <| Ap rfl <| Au rfl hs12) Ab rfl (by omega) (by omega)) ?_
     refine Aa rfl (Ag (Ac)) ?_
     refine Ah <| Ad ⟨_, m - 1, Off.eq (Ei rfl <| ou4 rfl <| Bj), by omega, ?_⟩
     refine ⟨_, _, hG, hFG, k + 1, by omega, (Ac), ?_, rfl⟩
     rw [everyTo_succ, if_neg h1]; simpa using hJ2
    ·
     refine Ar (Ac) rfl ?_
     refine A5 <| Bc (A7 (A7 (Bc ?_)))
     refine post_retG rfl .nil .all ?_
     exact .inr hJx
  ·
   refine Af <| Ai fun ds => Aa rfl (B0 (Au rfl hs12) (Ao rfl <| Al rfl <| Ac)) ?_
   refine Ah <| Ad <| Af <| Am (Ac) (by first | rfl | exact decide_eq_false (by omega)) ?_
   obtain rfl : k = s.bidders.length + 1 := by omega
   rw [everyTo_end] at hJ
   refine Bx ?_
   refine Bk <| Bk <| Bn <| post_endG rfl .nil .all ?_
   exact .inl hJ
set_option maxRecDepth 100000 in
theorem rings_ok {F : Heap} {b kb : Nat} {vs vb vl vn vd : Value} {s : Sale} (hX : AucX 156 F b vs vb vl vn vd kb s) (_hv : ValidS s)  : Ok Try.prog 83 [.pointer (some ⟨b, 0, none⟩)].toArray F fun u F' => ∃ d, u = .func (.func 108) #[] #[.pointer (some ⟨d, 0, none⟩)] ∧ F' d = some (bx 116 [.pointer (some ⟨b, 0, none⟩)]) := by
 refine Ok.intro Try.func83 rfl Try.ntmps83 rfl fun w0 => ?_
 refine Af <| Ai fun ds => Bl rfl (Cc (Ak rfl) rfl fun b1 hb1 nb1 => ?_)
 refine Aa rfl (Ae Ab) ?_
 refine Ah <| Ad <| Af <| Cq (i := 0) rfl hb1 (.here) fun F2 hF3 hz => ?_
 refine Ai fun ds => Aa rfl (Cw (.cons (Al rfl <| Ac) .nil)) ?_
 refine Aa rfl (Ae (Ac)) ?_
 refine Ah <| Ad <| A5 <| Aw rfl (.tmp (Ac) .nil) ?_
 exact ⟨_, rfl, hz⟩
set_option maxRecDepth 100000 in
theorem right_ok {F : Heap} (x : Ent) (r : Res) : Ok Try.prog 84 [.agg x.enc.toArray, .agg r.enc.toArray].toArray F fun u _ => u = .bool (rightE x r) := by
 refine Ok.intro Try.func84 rfl Try.ntmps84 rfl fun w0 => ?_
 by_cases h1 : x.sold = decide (r.bidder ≠ -1)
 ·
  refine Af <| Ai fun ds => Bl rfl (Cc (Ak rfl) rfl fun b1 hb1 nb1 => ?_)
  refine Bl rfl (Cc (Al rfl <| Ak rfl) rfl fun b2 hb2 nb2 => ?_)
  refine Aa rfl (Ae Ab) ?_
  refine Ah <| Ad <| Af <| Ai fun ds => Aa rfl (Aj fd_60_1 (Ap rfl <| Ac)) ?_
  refine Aa rfl (Aq one_4 (Ac) (Cell.own 1 rfl rfl)) ?_
  refine Aa rfl (Aj Dk (Ap rfl <| Al rfl <| Ac)) ?_
  refine Aa rfl (Aq Bd (Ac) (Cell.own 0 rfl rfl)) ?_
  refine Aa rfl (B5 (Ac) Ab) ?_
  refine Aa rfl (q_eqb Try.underlying4 (Ap rfl <| Al rfl <| Ac) (Ac)) ?_
  refine Aa rfl (Ag (Ac)) ?_
  refine As rfl rfl (Ac) (by simpa using h1) ?_
  refine Aa rfl (Aj fd_60_1 (Ba rfl <| Al rfl <| Ac)) ?_
  refine As rfl rfl (Al rfl <| Ac) (by simpa using h1) ?_
  refine Aa rfl (Aq one_4 (Ac) (Cell.own 1 rfl rfl)) ?_
  refine As rfl rfl (Ap rfl <| Ac) (by simpa using h1) ?_
  refine Aa rfl (Cu (Ac)) ?_
  refine As rfl rfl (Ap rfl <| Al rfl <| Ac) (by simpa using h1) ?_
  refine Aa rfl (Ag (Ac)) ?_
  rcases Bool.eq_false_or_eq_true x.sold with h2 | h2
  ·
   refine As rfl rfl (Ac) (by first | (rw [h2]; done) | (rw [h2]; rfl)) ?_
   refine Aa rfl (Aj fd_63_1 (Ba rfl <| Ay rfl <| Ac)) ?_
   refine As rfl rfl (Al rfl <| Ac) (by first | (rw [h2]; done) | (rw [h2]; rfl)) ?_
   refine Aa rfl (Aq Bd (Ac) (Cell.own 0 rfl rfl)) ?_
   refine As rfl rfl (Ap rfl <| Ac) (by first | (rw [h2]; done) | (rw [h2]; rfl)) ?_
   refine Aa rfl (Aj Cf (Ba rfl <| Ay rfl <| Ap rfl <| Al rfl <| Ac)) ?_
   refine As rfl rfl (Ap rfl <| Al rfl <| Ac) (by first | (rw [h2]; done) | (rw [h2]; rfl)) ?_
   refine Aa rfl (Aj Dt (Ac)) ?_
   refine As rfl rfl (Ay rfl <| Ac) (by first | (rw [h2]; done) | (rw [h2]; rfl)) ?_
   refine Aa rfl (Aq Bd (Ac) (Cell.own 1 rfl rfl)) ?_
   refine As rfl rfl (Ay rfl <| Al rfl <| Ac) (by first | (rw [h2]; done) | (rw [h2]; rfl)) ?_
   refine Aa rfl (Dp (Ap rfl <| Al rfl <| Ac) (Ac)) ?_
   refine As rfl rfl (Ay rfl <| Ap rfl <| Ac) (by first | (rw [h2]; done) | (rw [h2]; rfl)) ?_
   refine Aa rfl (Ag (Ac)) ?_
   by_cases h3 : x.lo ≤ r.price
   ·
    refine As rfl rfl (Ac) (decide_eq_true h3) ?_
    refine Aa rfl (Aj fd_63_1 (Bb rfl <| Ap rfl <| Al rfl <| Ac)) ?_
    refine As rfl rfl (Al rfl <| Ac) (decide_eq_true h3) ?_
    refine Aa rfl (Aq Bd (Ac) (Cell.own 0 rfl rfl)) ?_
    refine As rfl rfl (Ap rfl <| Ac) (decide_eq_true h3) ?_
    refine Aa rfl (Aj Cf (Bb rfl <| Ay rfl <| Ap rfl <| Ac)) ?_
    refine As rfl rfl (Ap rfl <| Al rfl <| Ac) (decide_eq_true h3) ?_
    refine Aa rfl (Aj Ds (Ac)) ?_
    refine As rfl rfl (Ay rfl <| Ac) (decide_eq_true h3) ?_
    refine Aa rfl (Aq Bd (Ac) (Cell.own 1 rfl rfl)) ?_
    refine As rfl rfl (Ay rfl <| Al rfl <| Ac) (decide_eq_true h3) ?_
    refine Aa rfl (q_leq (Ap rfl <| Al rfl <| Ac) (Ac)) ?_
    refine As rfl rfl (Ba rfl <| Ay rfl <| Al rfl <| Ac) (by first | (rw [h2]; done) | (rw [h2]; rfl)) ?_
    refine Aa rfl (A6 (Ay rfl <| Ap rfl <| Ac) (decide_eq_true h3) (Ac)) ?_
    refine As rfl rfl (Bb rfl <| Ap rfl <| Ac) (by simpa using h1) ?_
    refine Aa rfl (A8 (Ba rfl <| Ay rfl <| Ap rfl <| Ac) (by first | (rw [h2]; done) | (rw [h2]; rfl)) (Ac)) ?_
    refine Aa rfl (A6 (Bb rfl <| Ap rfl <| Al rfl <| Ac) (by simpa using h1) (Ac)) ?_
    refine Aa rfl (Ae (Ac)) ?_
    refine Ah <| Ad <| A5 <| Aw rfl (.tmp (Ac) .nil) ?_
    show _ = _
    unfold rightE; rw [← h1, h2]; simp [outOf, h3]
   ·
    refine At rfl rfl (Ac) (.inl (congrArg Value.bool (decide_eq_false h3))) rfl ?_
    refine At rfl rfl (Al rfl <| Ac) (.inl (congrArg Value.bool (decide_eq_false h3))) rfl ?_
    refine At rfl rfl (Ap rfl <| Ac) (.inl (congrArg Value.bool (decide_eq_false h3))) rfl ?_
    refine At rfl rfl (Ap rfl <| Al rfl <| Ac) (.inl (congrArg Value.bool (decide_eq_false h3))) rfl ?_
    refine At rfl rfl (Ay rfl <| Ac) (.inl (congrArg Value.bool (decide_eq_false h3))) rfl ?_
    refine At rfl rfl (Ay rfl <| Al rfl <| Ac) (.inl (congrArg Value.bool (decide_eq_false h3))) rfl ?_
    refine As rfl rfl (Ba rfl <| Ay rfl <| Al rfl <| Ac) (by first | (rw [h2]; done) | (rw [h2]; rfl)) ?_
    refine Aa rfl (A8 (Ay rfl <| Ap rfl <| Ac) (decide_eq_false h3) Ab) ?_
    refine As rfl rfl (Bb rfl <| Ap rfl <| Ac) (by simpa using h1) ?_
    refine Aa rfl (A8 (Ba rfl <| Ay rfl <| Ap rfl <| Ac) (by first | (rw [h2]; done) | (rw [h2]; rfl)) (Ac)) ?_
    refine Aa rfl (A6 (Bb rfl <| Ap rfl <| Al rfl <| Ac) (by simpa using h1) (Ac)) ?_
    refine Aa rfl (Ae (Ac)) ?_
    refine Ah <| Ad <| A5 <| Aw rfl (.tmp (Ac) .nil) ?_
    show _ = _
    unfold rightE; rw [← h1, h2]; simp [outOf, h3]
  ·
   refine At rfl rfl (Ac) (.inl (congrArg Value.bool (by first | (rw [h2]; done) | (rw [h2]; rfl)))) rfl ?_
   refine At rfl rfl (Al rfl <| Ac) (.inl (congrArg Value.bool (by first | (rw [h2]; done) | (rw [h2]; rfl)))) rfl ?_
   refine At rfl rfl (Ap rfl <| Ac) (.inl (congrArg Value.bool (by first | (rw [h2]; done) | (rw [h2]; rfl)))) rfl ?_
   refine At rfl rfl (Ap rfl <| Al rfl <| Ac) (.inl (congrArg Value.bool (by first | (rw [h2]; done) | (rw [h2]; rfl)))) rfl ?_
   refine At rfl rfl (Ay rfl <| Ac) (.inl (congrArg Value.bool (by first | (rw [h2]; done) | (rw [h2]; rfl)))) rfl ?_
   refine At rfl rfl (Ay rfl <| Al rfl <| Ac) (.inl (congrArg Value.bool (by first | (rw [h2]; done) | (rw [h2]; rfl)))) rfl ?_
   refine At rfl rfl (Ay rfl <| Ap rfl <| Ac) (.inl (congrArg Value.bool (by first | (rw [h2]; done) | (rw [h2]; rfl)))) rfl ?_
   refine At rfl rfl (Ac) (.inr rfl) rfl ?_
   refine At rfl rfl (Al rfl <| Ac) (.inr rfl) rfl ?_
   refine At rfl rfl (Ap rfl <| Ac) (.inr rfl) rfl ?_
   refine At rfl rfl (Ap rfl <| Al rfl <| Ac) (.inr rfl) rfl ?_
   refine At rfl rfl (Ay rfl <| Ac) (.inr rfl) rfl ?_
   refine At rfl rfl (Ay rfl <| Al rfl <| Ac) (.inr rfl) rfl ?_
   refine At rfl rfl (Ba rfl <| Ay rfl <| Al rfl <| Ac) (.inl (congrArg Value.bool (by first | (rw [h2]; done) | (rw [h2]; rfl)))) rfl ?_
   refine As rfl rfl (Bb rfl <| Ap rfl <| Ac) (by simpa using h1) ?_
   refine Aa rfl (A6 (Ba rfl <| Ay rfl <| Ap rfl <| Ac) (by first | (rw [h2]; done) | (rw [h2]; rfl)) Ab) ?_
   refine Aa rfl (A6 (Bb rfl <| Ap rfl <| Al rfl <| Ac) (by simpa using h1) (Ac)) ?_
   refine Aa rfl (Ae (Ac)) ?_
   refine Ah <| Ad <| A5 <| Aw rfl (.tmp (Ac) .nil) ?_
   show _ = _
   unfold rightE; rw [← h1, h2]; simp [outOf]
 ·
  refine Af <| Ai fun ds => Bl rfl (Cc (Ak rfl) rfl fun b3 hb3 nb3 => ?_)
  refine Bl rfl (Cc (Al rfl <| Ak rfl) rfl fun b4 hb4 nb4 => ?_)
  refine Aa rfl (Ae Ab) ?_
  refine Ah <| Ad <| Af <| Ai fun ds => Aa rfl (Aj fd_60_1 (Ap rfl <| Ac)) ?_
  refine Aa rfl (Aq one_4 (Ac) (Cell.own 1 rfl rfl)) ?_
  refine Aa rfl (Aj Dk (Ap rfl <| Al rfl <| Ac)) ?_
  refine Aa rfl (Aq Bd (Ac) (Cell.own 0 rfl rfl)) ?_
  refine Aa rfl (B5 (Ac) Ab) ?_
  refine Aa rfl (q_eqb Try.underlying4 (Ap rfl <| Al rfl <| Ac) (Ac)) ?_
  refine Aa rfl (Ag (Ac)) ?_
  refine At rfl rfl (Ac) (.inl (congrArg Value.bool (by simpa using h1))) rfl ?_
  refine At rfl rfl (Al rfl <| Ac) (.inl (congrArg Value.bool (by simpa using h1))) rfl ?_
  refine At rfl rfl (Ap rfl <| Ac) (.inl (congrArg Value.bool (by simpa using h1))) rfl ?_
  refine At rfl rfl (Ap rfl <| Al rfl <| Ac) (.inl (congrArg Value.bool (by simpa using h1))) rfl ?_
  refine At rfl rfl (Ac) (.inr rfl) rfl ?_
  refine At rfl rfl (Al rfl <| Ac) (.inr rfl) rfl ?_
  refine At rfl rfl (Ap rfl <| Ac) (.inr rfl) rfl ?_
  refine At rfl rfl (Ap rfl <| Al rfl <| Ac) (.inr rfl) rfl ?_
  refine At rfl rfl (Ay rfl <| Ac) (.inr rfl) rfl ?_
  refine At rfl rfl (Ay rfl <| Al rfl <| Ac) (.inr rfl) rfl ?_
  refine At rfl rfl (Ay rfl <| Ap rfl <| Ac) (.inr rfl) rfl ?_
  refine At rfl rfl (Ac) (.inr rfl) rfl ?_
  refine At rfl rfl (Al rfl <| Ac) (.inr rfl) rfl ?_
  refine At rfl rfl (Ap rfl <| Ac) (.inr rfl) rfl ?_
  refine At rfl rfl (Ap rfl <| Al rfl <| Ac) (.inr rfl) rfl ?_
  refine At rfl rfl (Ay rfl <| Ac) (.inr rfl) rfl ?_
  refine At rfl rfl (Ay rfl <| Al rfl <| Ac) (.inr rfl) rfl ?_
  refine At rfl rfl (Ba rfl <| Ay rfl <| Al rfl <| Ac) (.inr rfl) rfl ?_
  refine At rfl rfl (Bb rfl <| Ap rfl <| Ac) (.inl (congrArg Value.bool (by simpa using h1))) rfl ?_
  refine Aa rfl (A8 (Bb rfl <| Ap rfl <| Al rfl <| Ac) (by simpa using h1) Ab) ?_
  refine Aa rfl (Ae (Ac)) ?_
  refine Ah <| Ad <| A5 <| Aw rfl (.tmp (Ac) .nil) ?_
  show _ = _
  unfold rightE; simp [outOf]; intro h; exact absurd h (by simpa using h1)
end Go.Proofs.Ytaikojfonleccaa
namespace Go.Proofs.Ytaikojfonleccaa
open Go.RowKit
theorem zr_58 : ZeroT Try.prog 58 (.agg #[.int .i64 0, .int .i64 0]) := C4 (by kernel_rfl)
theorem agg_58 : AggT Try.prog 58 2 := aggT_of (by kernel_rfl)
theorem bd_103 : Body Try.prog 103 := Br (by kernel_rfl)
theorem bd_104 : Body Try.prog 104 := Br (by kernel_rfl)
theorem bt_58 : BuildT Try.prog 58 [.int .i64 0, .int .i64 0] [(0, 1), (1, 1)] := Em zr_58 (by kernel_rfl) (by decide)
theorem fd_60_0 : FieldT Try.prog 60 0 0 := Ca (by kernel_rfl)
theorem one_47 : OneT Try.prog 47 := Dj (by kernel_rfl)
theorem stoodSp : Try.prog.stoodInHeld 58 = false := by kernel_rfl
theorem guardSp : Try.prog.eqGuardType Try.prog.depth 58 = false := by kernel_rfl
theorem oneSp : OneT Try.prog 3 := Dj (by kernel_rfl)
theorem span_zero {a b : Int} : (!((a == 0) && (b == 0))) = decide (¬ (a = 0 ∧ b = 0)) := by
 by_cases h1 : a = 0 <;> by_cases h2 : b = 0 <;> simp [h1, h2]
theorem range_two {a b lo hi : Int} (h : (inB lo hi a && inB lo hi b) = false) : rangeE a b lo hi = 7 := by
 unfold rangeE
 simp only [inB, Bool.and_eq_false_iff, decide_eq_false_iff_not] at h
 rw [if_pos (by omega)]
theorem range_fits {a b lo hi : Int} (h : (inB lo hi a && inB lo hi b) = true) : rangeE a b lo hi = if b < a then 2 else 0 := by
 unfold rangeE
 simp only [inB, Bool.and_eq_true, decide_eq_true_eq] at h
 rw [if_neg (by omega)]
theorem Da {s : Sale} {l : List Ent} {k : Nat} (hk : k < l.length) (h1 : inB 0 (s.lots.length - 1) l[k].lot = true) (hA : ¬ (0 < k ∧ l[k].lot ≤ ((l[k - 1]?).map (·.lot)).getD 0)) (hB : ¬ (l[k].sold = false ∧ ¬ (l[k].lo = 0 ∧ l[k].hi = 0))) : entErr s l k = rangeE l[k].lo l[k].hi 0 100000 := by
 rw [entErr_at hk, if_neg (by rw [h1]; decide), if_neg (fun h => h.elim hA hB)]
theorem first_cat {s : Sale} {l : List Ent} : (catE s l = 0 ∧ firstE l.length l.length (entErr s l) = none) ∨ (catE s l ≠ 0 ∧ ∃ i, firstE l.length l.length (entErr s l) = some (i, catE s l)) := by
 unfold catE firstE
 rw [if_neg (Nat.lt_irrefl _)]
 cases hf : firstBad l.length (entErr s l) with
 | none => exact .inl ⟨rfl, rfl⟩
 | some i =>
   unfold firstBad at hf
   have := List.find?_some hf
   simp at this
   exact .inr ⟨this, i, rfl⟩
set_option maxRecDepth 100000 in
theorem catalogue1_ok {F : Heap} {vs vb vl vn vd : Value} {s : Sale} (hr : SaleR F vs vb vl vn vd s) {ve : Value} {l : List Ent} (he : Sl F ve 4 Ent.enc l) {c2 c3 : Nat} (hc2 : F c2 = some (bx 27 [vs, .int .i64 s.premium, .int .i64 s.fee, .int .i64 s.days, vb, vl, vn, vd])) (hc3 : F c3 = some (bx 47 [ve])) {k : Nat} (hk : k < l.length) : Ok Try.prog 104 [.int .i64 (k : Int), .agg (l[k].enc).toArray, .pointer (some ⟨c2, 0, none⟩), .pointer (some ⟨c3, 0, none⟩)].toArray F fun u _ => u = .int .i64 (entErr s l k) := by
 refine Ok.intro Try.func104 rfl Try.ntmps104 rfl fun w0 => ?_
 have hL1 := hr.lots.plain.lt
 have hL2 := he.plain.lt
 by_cases h1 : inB 0 (s.lots.length - 1) l[k].lot = true
 ·
  refine Af <| Ai fun ds => Bl rfl (Cc (Ak rfl) rfl fun b1 hb1 nb1 => ?_)
  refine Aa rfl (Ae Ab) ?_
  refine Ah <| Ad <| Af <| A4 <| Af <| Ai fun ds => Aa rfl (Aj Cp (Ap rfl <| Ak rfl)) ?_
  refine Aa rfl (Aq C0 (Ac) (CellF.own hc2 rfl).cell) ?_
  refine Aa rfl (Bf C1 (Ac) hr.lots.plain) ?_
  refine Aa rfl (Dh (Ac) Ab rfl (by omega) (by omega)) ?_
  refine Aa rfl (Aj fd_60_0 (Ay rfl <| Al rfl <| Ac)) ?_
  refine Aa rfl (Aq Bd (Ac) (Cell.own 0 rfl rfl)) ?_
  refine Bl rfl (Bz Bs C3 rfl (.cons (Ac) .nil) rfl rfl (by decide) (by simp [Value.oneCell']) fun b2 hb2 nb2 => ?_)
  refine Bp (i := 0) rfl hb2 .here fun F3 hF4 hz5 => ?_
  replace he := he.mono hF4
  replace hc3 := hF4 _ _ hc3
  have hsl6 := Ci hz5
  refine Bv rfl (A9 C6 Az (.cons Ab (.cons (Ap rfl <| Al rfl <| Ac) (.cons (Ac) .nil))) (B2 _ _ hsl6) (fun _ _ h => h)) ?_
  refine Aa rfl (Ae (Ac)) ?_
  refine Ah <| Ad <| Am (Ac) (by simp [h1]) ?_
  by_cases hk0 : 0 < k
  ·
   have hk1 : k - 1 < l.length := by omega
   have hprev : ((l[k - 1]?).map (·.lot)).getD 0 = l[k - 1].lot := by rw [List.getElem?_eq_getElem hk1]; rfl
   refine Af <| Ch (.inl rfl) (fun _ _ h => h) (by kernel_rfl) (by kernel_rfl) fun ds => ?_
   refine A0 rfl (Ag (Ba rfl <| Ap rfl <| Al rfl <| Ak rfl)) ?_
   refine A0 rfl (Cl (Ac) Ab) ?_
   refine A0 rfl (Ag (Ac)) ?_
   refine A3 rfl rfl (Ac) (decide_eq_true (by omega)) ?_
   refine A0 rfl (Aj fd_60_0 (Ba rfl <| Ay rfl <| Al rfl <| Ac)) ?_
   refine A3 rfl rfl (Al rfl <| Ac) (decide_eq_true (by omega)) ?_
   refine A0 rfl (Aq Bd (Ac) (Cell.own 0 rfl rfl)) ?_
   refine A3 rfl rfl (Ap rfl <| Ac) (decide_eq_true (by omega)) ?_
   refine A0 rfl (Aq one_47 (Bb rfl <| Ak rfl) (CellF.own hc3 rfl).cell) ?_
   refine A3 rfl rfl (Ap rfl <| Al rfl <| Ac) (decide_eq_true (by omega)) ?_
   refine A0 rfl (Ag (Bb rfl <| Al rfl <| Ak rfl)) ?_
   refine A3 rfl rfl (Ay rfl <| Ac) (decide_eq_true (by omega)) ?_
   refine A0 rfl (Dh (Ac) Ab rfl (by omega) (by omega)) ?_
   refine A3 rfl rfl (Ay rfl <| Al rfl <| Ac) (decide_eq_true (by omega)) ?_
   refine A0 rfl (Be (k := k - 1) sl_47 (Ap rfl <| Ac) he.plain (Ac) (by omega) hk1) ?_
   refine A3 rfl rfl (Ay rfl <| Ap rfl <| Ac) (decide_eq_true (by omega)) ?_
   refine A0 rfl (Bq fd_60_0 (Ac)) ?_
   refine A3 rfl rfl (Ay rfl <| Ap rfl <| Al rfl <| Ac) (decide_eq_true (by omega)) ?_
   refine A0 rfl (Aq Bd (Ac) (he.cell hk1 rfl)) ?_
   refine A3 rfl rfl (Ba rfl <| Ac) (decide_eq_true (by omega)) ?_
   refine A0 rfl (q_leq (Ay rfl <| Ap rfl <| Ac) (Ac)) ?_
   refine A0 rfl (A6 (Ba rfl <| Al rfl <| Ac) (decide_eq_true (by omega)) (Ac)) ?_
   refine A0 rfl (Ag (Ac)) ?_
   by_cases h2 : l[k].lot ≤ l[k - 1].lot
   ·
    refine A2 rfl rfl (Ac) (.inl (congrArg Value.bool (decide_eq_true h2))) rfl ?_
    refine A2 rfl rfl (Al rfl <| Ac) (.inl (congrArg Value.bool (decide_eq_true h2))) rfl ?_
    refine A2 rfl rfl (Ap rfl <| Ac) (.inl (congrArg Value.bool (decide_eq_true h2))) rfl ?_
    refine A2 rfl rfl (Ap rfl <| Al rfl <| Ac) (.inl (congrArg Value.bool (decide_eq_true h2))) rfl ?_
    refine A2 rfl rfl (Ac) (.inr rfl) rfl ?_
    refine A2 rfl rfl (Al rfl <| Ac) (.inr rfl) rfl ?_
    refine A2 rfl rfl (Ap rfl <| Ac) (.inr rfl) rfl ?_
    refine A2 rfl rfl (Ap rfl <| Al rfl <| Ac) (.inr rfl) rfl ?_
    refine A2 rfl rfl (Ba rfl <| Ac) (.inl (congrArg Value.bool (decide_eq_true h2))) rfl ?_
    refine A0 rfl (A6 (Ba rfl <| Al rfl <| Ac) (decide_eq_true h2) Ab) ?_
    refine A0 rfl (Ae (Ac)) ?_
    refine Cj ?_
    refine Ad <| Ar (Ac) rfl ?_
    refine Af <| Ai fun ds => Aa rfl (Ae Ab) ?_
    refine Ah <| Ad <| A5 <| Bc (A7 ?_)
    refine Aw rfl (.tmp (Ac) .nil) ?_
    show _ = _
    rw [entErr_at hk, if_neg (by rw [h1]; decide), if_pos (.inl ⟨hk0, by rw [hprev]; exact h2⟩)]; rfl
   ·
    have hA : ¬ (0 < k ∧ l[k].lot ≤ ((l[k - 1]?).map (·.lot)).getD 0) := fun h => h2 (by rw [← hprev]; exact h.2)
    refine A3 rfl rfl (Ac) (decide_eq_false h2) ?_
    refine A0 rfl (Aj fd_60_1 (Bb rfl <| Ba rfl <| Ac)) ?_
    refine A3 rfl rfl (Al rfl <| Ac) (decide_eq_false h2) ?_
    refine A0 rfl (Aq one_4 (Ac) (Cell.own 0 rfl rfl)) ?_
    refine A3 rfl rfl (Ap rfl <| Ac) (decide_eq_false h2) ?_
    refine A0 rfl (Cu (Ac)) ?_
    refine A3 rfl rfl (Ap rfl <| Al rfl <| Ac) (decide_eq_false h2) ?_
    refine A0 rfl (Ag (Ac)) ?_
    rcases Bool.eq_false_or_eq_true l[k].sold with h3 | h3
    ·
     have hB : ¬ (l[k].sold = false ∧ ¬ (l[k].lo = 0 ∧ l[k].hi = 0)) := fun h => by rw [h3] at h; exact absurd h.1 (by decide)
     refine A2 rfl rfl (Ac) (.inl (congrArg Value.bool (by first | (rw [h3]; done) | (rw [h3]; rfl)))) rfl ?_
     refine A2 rfl rfl (Al rfl <| Ac) (.inl (congrArg Value.bool (by first | (rw [h3]; done) | (rw [h3]; rfl)))) rfl ?_
     refine A2 rfl rfl (Ap rfl <| Ac) (.inl (congrArg Value.bool (by first | (rw [h3]; done) | (rw [h3]; rfl)))) rfl ?_
     refine A2 rfl rfl (Ap rfl <| Al rfl <| Ac) (.inl (congrArg Value.bool (by first | (rw [h3]; done) | (rw [h3]; rfl)))) rfl ?_
     refine A3 rfl rfl (Ba rfl <| Ac) (decide_eq_false h2) ?_
     refine A0 rfl (A8 (Ay rfl <| Ac) (by first | (rw [h3]; done) | (rw [h3]; rfl)) Ab) ?_
     refine A0 rfl (A8 (Ba rfl <| Al rfl <| Ac) (decide_eq_false h2) (Ac)) ?_
     refine A0 rfl (Ae (Ac)) ?_
     refine Cj ?_
     refine Ad <| Am (Ac) rfl ?_
     by_cases h5 : (inB 0 100000 l[k].lo && inB 0 100000 l[k].hi) = true
     ·
      have h6 := range_fits h5
      refine Af <| Ai fun ds => Aa rfl (Aj Cf (Bt rfl <| Ap rfl <| Al rfl <| Ac)) ?_
      refine Aa rfl (Aj Dt (Ac)) ?_
      refine Aa rfl (Aq Bd (Ac) (Cell.own 0 rfl rfl)) ?_
      refine Aa rfl (Aj Cf (Bt rfl <| Ay rfl <| Ap rfl <| Ac)) ?_
      refine Aa rfl (Aj Ds (Ac)) ?_
      refine Aa rfl (Aq Bd (Ac) (Cell.own 0 rfl rfl)) ?_
      refine Bl rfl (Bz Bs C3 rfl (.cons (Ap rfl <| Al rfl <| Ac) (.cons (Ac) .nil)) rfl rfl (by decide) (by simp [Value.oneCell']) fun b7 hb7 nb7 => ?_)
      refine Bp (i := 0) rfl hb7 .here fun F8 hF9 hz10 => ?_
      have hsl11 := Dl hz10
      refine Bv rfl (A9 C6 Az (.cons Ab (.cons Ab (.cons (Ac) .nil))) (B2 _ _ hsl11) (fun _ _ h => h)) ?_
      refine Aa rfl (Ae (Ac)) ?_
      refine Ah <| Ad <| Am (Ac) (by first | (rw [Cg, h5]; done) | (rw [Cg, h5]; rfl)) ?_
      by_cases h7 : l[k].hi < l[k].lo
      ·
       refine Af <| Ai fun ds => Aa rfl (Aj Cf (Bt rfl <| Ba rfl <| Ay rfl <| Ac)) ?_
       refine Aa rfl (Aj Dt (Ac)) ?_
       refine Aa rfl (Aq Bd (Ac) (Cell.own 0 rfl rfl)) ?_
       refine Aa rfl (Aj Cf (Bt rfl <| Ba rfl <| Ay rfl <| Ap rfl <| Al rfl <| Ac)) ?_
       refine Aa rfl (Aj Ds (Ac)) ?_
       refine Aa rfl (Aq Bd (Ac) (Cell.own 0 rfl rfl)) ?_
       refine Aa rfl (Cl (Ap rfl <| Al rfl <| Ac) (Ac)) ?_
       refine Aa rfl (Ae (Ac)) ?_
       refine Ah <| Ad <| Ar (Ac) (decide_eq_true h7) ?_
       refine Af <| Ai fun ds => Aa rfl (Ae Ab) ?_
       refine Ah <| Ad <| A5 <| Bc (A7 ?_)
       refine Aw rfl (.tmp (Ac) .nil) ?_
       show _ = _
       rw [Da hk h1 hA hB, h6, if_pos h7]; rfl
      ·
       refine Af <| Ai fun ds => Aa rfl (Aj Cf (Bt rfl <| Ba rfl <| Ay rfl <| Ac)) ?_
       refine Aa rfl (Aj Dt (Ac)) ?_
       refine Aa rfl (Aq Bd (Ac) (Cell.own 0 rfl rfl)) ?_
       refine Aa rfl (Aj Cf (Bt rfl <| Ba rfl <| Ay rfl <| Ap rfl <| Al rfl <| Ac)) ?_
       refine Aa rfl (Aj Ds (Ac)) ?_
       refine Aa rfl (Aq Bd (Ac) (Cell.own 0 rfl rfl)) ?_
       refine Aa rfl (Cl (Ap rfl <| Al rfl <| Ac) (Ac)) ?_
       refine Aa rfl (Ae (Ac)) ?_
       refine Ah <| Ad <| Am (Ac) (decide_eq_false h7) ?_
       refine Ax <| Bh <| Ad <| Af <| Ai fun ds => Aa rfl (Ae Ab) ?_
       refine Ah <| Ad <| A5 <| Aw rfl (.tmp (Ac) .nil) ?_
       show _ = _
       rw [Da hk h1 hA hB, h6, if_neg h7]; rfl
     ·
      replace h5 : (inB 0 100000 l[k].lo && inB 0 100000 l[k].hi) = false := by simpa using h5
      have h6 := range_two h5
      refine Af <| Ai fun ds => Aa rfl (Aj Cf (Bt rfl <| Ap rfl <| Al rfl <| Ac)) ?_
      refine Aa rfl (Aj Dt (Ac)) ?_
      refine Aa rfl (Aq Bd (Ac) (Cell.own 0 rfl rfl)) ?_
      refine Aa rfl (Aj Cf (Bt rfl <| Ay rfl <| Ap rfl <| Ac)) ?_
      refine Aa rfl (Aj Ds (Ac)) ?_
      refine Aa rfl (Aq Bd (Ac) (Cell.own 0 rfl rfl)) ?_
      refine Bl rfl (Bz Bs C3 rfl (.cons (Ap rfl <| Al rfl <| Ac) (.cons (Ac) .nil)) rfl rfl (by decide) (by simp [Value.oneCell']) fun b12 hb12 nb12 => ?_)
      refine Bp (i := 0) rfl hb12 .here fun F13 hF14 hz15 => ?_
      have hsl16 := Dl hz15
      refine Bv rfl (A9 C6 Az (.cons Ab (.cons Ab (.cons (Ac) .nil))) (B2 _ _ hsl16) (fun _ _ h => h)) ?_
      refine Aa rfl (Ae (Ac)) ?_
      refine Ah <| Ad <| Ar (Ac) (by first | (rw [Cg, h5]; done) | (rw [Cg, h5]; rfl)) ?_
      refine Af <| Ai fun ds => Aa rfl (Ae Ab) ?_
      refine Ah <| Ad <| A5 <| Bc (A7 ?_)
      refine Aw rfl (.tmp (Ac) .nil) ?_
      show _ = _
      rw [Da hk h1 hA hB, h6]; rfl
    ·
     refine A3 rfl rfl (Ac) (by first | (rw [h3]; done) | (rw [h3]; rfl)) ?_
     refine A0 rfl (Aj Cf (Bb rfl <| Ba rfl <| Ay rfl <| Ac)) ?_
     refine A3 rfl rfl (Al rfl <| Ac) (by first | (rw [h3]; done) | (rw [h3]; rfl)) ?_
     refine A0 rfl (Bg (vs := [.int .i64 l[k].lo, .int .i64 l[k].hi]) agg_58 (Ac) rfl rfl (own_part 0 rfl rfl)) ?_
     refine A3 rfl rfl (Ap rfl <| Ac) (by first | (rw [h3]; done) | (rw [h3]; rfl)) ?_
     refine A0 rfl (Db bt_58 .nil .nil) ?_
     refine A3 rfl rfl (Ap rfl <| Al rfl <| Ac) (by first | (rw [h3]; done) | (rw [h3]; rfl)) ?_
     refine A0 rfl (q_neqZ2 Try.underlying58 stoodSp guardSp (by decide) (by decide) rfl rfl Try.underlying3 Try.underlying3 oneSp oneSp (Al rfl <| Ac) (Ac)) ?_
     refine A3 rfl rfl (Ba rfl <| Ac) (decide_eq_false h2) ?_
     refine A0 rfl (A6 (Ay rfl <| Ac) (by first | (rw [h3]; done) | (rw [h3]; rfl)) (Ac)) ?_
     refine A0 rfl (A8 (Ba rfl <| Al rfl <| Ac) (decide_eq_false h2) (Ac)) ?_
     refine A0 rfl (Ae (Ac)) ?_
     refine Cj ?_
     refine Ad ?_
     by_cases h4 : l[k].lo = 0 ∧ l[k].hi = 0
     ·
      have hB : ¬ (l[k].sold = false ∧ ¬ (l[k].lo = 0 ∧ l[k].hi = 0)) := fun h => h.2 h4
      refine Am (Ac) (by rw [span_zero]; exact decide_eq_false (fun h => h h4)) ?_
      by_cases h5 : (inB 0 100000 l[k].lo && inB 0 100000 l[k].hi) = true
      ·
       have h6 := range_fits h5
       refine Af <| Ai fun ds => Aa rfl (Aj Cf (Bt rfl <| Ap rfl <| Al rfl <| Ac)) ?_
       refine Aa rfl (Aj Dt (Ac)) ?_
       refine Aa rfl (Aq Bd (Ac) (Cell.own 0 rfl rfl)) ?_
       refine Aa rfl (Aj Cf (Bt rfl <| Ay rfl <| Ap rfl <| Ac)) ?_
       refine Aa rfl (Aj Ds (Ac)) ?_
       refine Aa rfl (Aq Bd (Ac) (Cell.own 0 rfl rfl)) ?_
       refine Bl rfl (Bz Bs C3 rfl (.cons (Ap rfl <| Al rfl <| Ac) (.cons (Ac) .nil)) rfl rfl (by decide) (by simp [Value.oneCell']) fun b17 hb17 nb17 => ?_)
       refine Bp (i := 0) rfl hb17 .here fun F18 hF19 hz20 => ?_
       have hsl21 := Dl hz20
       refine Bv rfl (A9 C6 Az (.cons Ab (.cons Ab (.cons (Ac) .nil))) (B2 _ _ hsl21) (fun _ _ h => h)) ?_
       refine Aa rfl (Ae (Ac)) ?_
       refine Ah <| Ad <| Am (Ac) (by first | (rw [Cg, h5]; done) | (rw [Cg, h5]; rfl)) ?_
       by_cases h7 : l[k].hi < l[k].lo
       ·
        refine Af <| Ai fun ds => Aa rfl (Aj Cf (Bt rfl <| Ba rfl <| Ay rfl <| Ac)) ?_
        refine Aa rfl (Aj Dt (Ac)) ?_
        refine Aa rfl (Aq Bd (Ac) (Cell.own 0 rfl rfl)) ?_
        refine Aa rfl (Aj Cf (Bt rfl <| Ba rfl <| Ay rfl <| Ap rfl <| Al rfl <| Ac)) ?_
        refine Aa rfl (Aj Ds (Ac)) ?_
        refine Aa rfl (Aq Bd (Ac) (Cell.own 0 rfl rfl)) ?_
        refine Aa rfl (Cl (Ap rfl <| Al rfl <| Ac) (Ac)) ?_
        refine Aa rfl (Ae (Ac)) ?_
        refine Ah <| Ad <| Ar (Ac) (decide_eq_true h7) ?_
        refine Af <| Ai fun ds => Aa rfl (Ae Ab) ?_
        refine Ah <| Ad <| A5 <| Bc (A7 ?_)
        refine Aw rfl (.tmp (Ac) .nil) ?_
        show _ = _
        rw [Da hk h1 hA hB, h6, if_pos h7]; rfl
       ·
        refine Af <| Ai fun ds => Aa rfl (Aj Cf (Bt rfl <| Ba rfl <| Ay rfl <| Ac)) ?_
        refine Aa rfl (Aj Dt (Ac)) ?_
        refine Aa rfl (Aq Bd (Ac) (Cell.own 0 rfl rfl)) ?_
        refine Aa rfl (Aj Cf (Bt rfl <| Ba rfl <| Ay rfl <| Ap rfl <| Al rfl <| Ac)) ?_
        refine Aa rfl (Aj Ds (Ac)) ?_
        refine Aa rfl (Aq Bd (Ac) (Cell.own 0 rfl rfl)) ?_
        refine Aa rfl (Cl (Ap rfl <| Al rfl <| Ac) (Ac)) ?_
        refine Aa rfl (Ae (Ac)) ?_
        refine Ah <| Ad <| Am (Ac) (decide_eq_false h7) ?_
        refine Ax <| Bh <| Ad <| Af <| Ai fun ds => Aa rfl (Ae Ab) ?_
        refine Ah <| Ad <| A5 <| Aw rfl (.tmp (Ac) .nil) ?_
        show _ = _
        rw [Da hk h1 hA hB, h6, if_neg h7]; rfl
      ·
       replace h5 : (inB 0 100000 l[k].lo && inB 0 100000 l[k].hi) = false := by simpa using h5
       have h6 := range_two h5
       refine Af <| Ai fun ds => Aa rfl (Aj Cf (Bt rfl <| Ap rfl <| Al rfl <| Ac)) ?_
       refine Aa rfl (Aj Dt (Ac)) ?_
       refine Aa rfl (Aq Bd (Ac) (Cell.own 0 rfl rfl)) ?_
       refine Aa rfl (Aj Cf (Bt rfl <| Ay rfl <| Ap rfl <| Ac)) ?_
       refine Aa rfl (Aj Ds (Ac)) ?_
       refine Aa rfl (Aq Bd (Ac) (Cell.own 0 rfl rfl)) ?_
       refine Bl rfl (Bz Bs C3 rfl (.cons (Ap rfl <| Al rfl <| Ac) (.cons (Ac) .nil)) rfl rfl (by decide) (by simp [Value.oneCell']) fun b22 hb22 nb22 => ?_)
       refine Bp (i := 0) rfl hb22 .here fun F23 hF24 hz25 => ?_
       have hsl26 := Dl hz25
       refine Bv rfl (A9 C6 Az (.cons Ab (.cons Ab (.cons (Ac) .nil))) (B2 _ _ hsl26) (fun _ _ h => h)) ?_
       refine Aa rfl (Ae (Ac)) ?_
       refine Ah <| Ad <| Ar (Ac) (by first | (rw [Cg, h5]; done) | (rw [Cg, h5]; rfl)) ?_
       refine Af <| Ai fun ds => Aa rfl (Ae Ab) ?_
       refine Ah <| Ad <| A5 <| Bc (A7 ?_)
       refine Aw rfl (.tmp (Ac) .nil) ?_
       show _ = _
       rw [Da hk h1 hA hB, h6]; rfl
     ·
      refine Ar (Ac) (by rw [span_zero]; exact decide_eq_true h4) ?_
      refine Af <| Ai fun ds => Aa rfl (Ae Ab) ?_
      refine Ah <| Ad <| A5 <| Bc (A7 ?_)
      refine Aw rfl (.tmp (Ac) .nil) ?_
      show _ = _
      rw [entErr_at hk, if_neg (by rw [h1]; decide), if_pos (.inr ⟨h3, h4⟩)]; rfl
  ·
   have hA : ¬ (0 < k ∧ l[k].lot ≤ ((l[k - 1]?).map (·.lot)).getD 0) := fun h => hk0 h.1
   refine Af <| Ch (.inl rfl) (fun _ _ h => h) (by kernel_rfl) (by kernel_rfl) fun ds => ?_
   refine A0 rfl (Ag (Ba rfl <| Ap rfl <| Al rfl <| Ak rfl)) ?_
   refine A0 rfl (Cl (Ac) Ab) ?_
   refine A0 rfl (Ag (Ac)) ?_
   refine A2 rfl rfl (Ac) (.inl (congrArg Value.bool (decide_eq_false (by omega)))) rfl ?_
   refine A2 rfl rfl (Al rfl <| Ac) (.inl (congrArg Value.bool (decide_eq_false (by omega)))) rfl ?_
   refine A2 rfl rfl (Ap rfl <| Ac) (.inl (congrArg Value.bool (decide_eq_false (by omega)))) rfl ?_
   refine A2 rfl rfl (Ap rfl <| Al rfl <| Ac) (.inl (congrArg Value.bool (decide_eq_false (by omega)))) rfl ?_
   refine A2 rfl rfl (Ay rfl <| Ac) (.inl (congrArg Value.bool (decide_eq_false (by omega)))) rfl ?_
   refine A2 rfl rfl (Ay rfl <| Al rfl <| Ac) (.inl (congrArg Value.bool (decide_eq_false (by omega)))) rfl ?_
   refine A2 rfl rfl (Ay rfl <| Ap rfl <| Ac) (.inl (congrArg Value.bool (decide_eq_false (by omega)))) rfl ?_
   refine A2 rfl rfl (Ay rfl <| Ap rfl <| Al rfl <| Ac) (.inl (congrArg Value.bool (decide_eq_false (by omega)))) rfl ?_
   refine A2 rfl rfl (Ba rfl <| Ac) (.inl (congrArg Value.bool (decide_eq_false (by omega)))) rfl ?_
   refine A0 rfl (A8 (Ba rfl <| Al rfl <| Ac) (decide_eq_false (by omega)) Ab) ?_
   refine A0 rfl (Ag (Ac)) ?_
   refine A3 rfl rfl (Ac) rfl ?_
   refine A0 rfl (Aj fd_60_1 (Bb rfl <| Ba rfl <| Ac)) ?_
   refine A3 rfl rfl (Al rfl <| Ac) rfl ?_
   refine A0 rfl (Aq one_4 (Ac) (Cell.own 0 rfl rfl)) ?_
   refine A3 rfl rfl (Ap rfl <| Ac) rfl ?_
   refine A0 rfl (Cu (Ac)) ?_
   refine A3 rfl rfl (Ap rfl <| Al rfl <| Ac) rfl ?_
   refine A0 rfl (Ag (Ac)) ?_
   rcases Bool.eq_false_or_eq_true l[k].sold with h3 | h3
   ·
    have hB : ¬ (l[k].sold = false ∧ ¬ (l[k].lo = 0 ∧ l[k].hi = 0)) := fun h => by rw [h3] at h; exact absurd h.1 (by decide)
    refine A2 rfl rfl (Ac) (.inl (congrArg Value.bool (by first | (rw [h3]; done) | (rw [h3]; rfl)))) rfl ?_
    refine A2 rfl rfl (Al rfl <| Ac) (.inl (congrArg Value.bool (by first | (rw [h3]; done) | (rw [h3]; rfl)))) rfl ?_
    refine A2 rfl rfl (Ap rfl <| Ac) (.inl (congrArg Value.bool (by first | (rw [h3]; done) | (rw [h3]; rfl)))) rfl ?_
    refine A2 rfl rfl (Ap rfl <| Al rfl <| Ac) (.inl (congrArg Value.bool (by first | (rw [h3]; done) | (rw [h3]; rfl)))) rfl ?_
    refine A3 rfl rfl (Ba rfl <| Ac) rfl ?_
    refine A0 rfl (A8 (Ay rfl <| Ac) (by first | (rw [h3]; done) | (rw [h3]; rfl)) Ab) ?_
    refine A0 rfl (A8 (Ba rfl <| Al rfl <| Ac) rfl (Ac)) ?_
    refine A0 rfl (Ae (Ac)) ?_
    refine Cj ?_
    refine Ad <| Am (Ac) rfl ?_
    by_cases h5 : (inB 0 100000 l[k].lo && inB 0 100000 l[k].hi) = true
    ·
     have h6 := range_fits h5
     refine Af <| Ai fun ds => Aa rfl (Aj Cf (Bt rfl <| Ap rfl <| Al rfl <| Ac)) ?_
     refine Aa rfl (Aj Dt (Ac)) ?_
     refine Aa rfl (Aq Bd (Ac) (Cell.own 0 rfl rfl)) ?_
     refine Aa rfl (Aj Cf (Bt rfl <| Ay rfl <| Ap rfl <| Ac)) ?_
     refine Aa rfl (Aj Ds (Ac)) ?_
     refine Aa rfl (Aq Bd (Ac) (Cell.own 0 rfl rfl)) ?_
     refine Bl rfl (Bz Bs C3 rfl (.cons (Ap rfl <| Al rfl <| Ac) (.cons (Ac) .nil)) rfl rfl (by decide) (by simp [Value.oneCell']) fun b27 hb27 nb27 => ?_)
     refine Bp (i := 0) rfl hb27 .here fun F28 hF29 hz30 => ?_
     have hsl31 := Dl hz30
     refine Bv rfl (A9 C6 Az (.cons Ab (.cons Ab (.cons (Ac) .nil))) (B2 _ _ hsl31) (fun _ _ h => h)) ?_
     refine Aa rfl (Ae (Ac)) ?_
     refine Ah <| Ad <| Am (Ac) (by first | (rw [Cg, h5]; done) | (rw [Cg, h5]; rfl)) ?_
     by_cases h7 : l[k].hi < l[k].lo
     ·
      refine Af <| Ai fun ds => Aa rfl (Aj Cf (Bt rfl <| Ba rfl <| Ay rfl <| Ac)) ?_
      refine Aa rfl (Aj Dt (Ac)) ?_
      refine Aa rfl (Aq Bd (Ac) (Cell.own 0 rfl rfl)) ?_
      refine Aa rfl (Aj Cf (Bt rfl <| Ba rfl <| Ay rfl <| Ap rfl <| Al rfl <| Ac)) ?_
      refine Aa rfl (Aj Ds (Ac)) ?_
      refine Aa rfl (Aq Bd (Ac) (Cell.own 0 rfl rfl)) ?_
      refine Aa rfl (Cl (Ap rfl <| Al rfl <| Ac) (Ac)) ?_
      refine Aa rfl (Ae (Ac)) ?_
      refine Ah <| Ad <| Ar (Ac) (decide_eq_true h7) ?_
      refine Af <| Ai fun ds => Aa rfl (Ae Ab) ?_
      refine Ah <| Ad <| A5 <| Bc (A7 ?_)
      refine Aw rfl (.tmp (Ac) .nil) ?_
      show _ = _
      rw [Da hk h1 hA hB, h6, if_pos h7]; rfl
     ·
      refine Af <| Ai fun ds => Aa rfl (Aj Cf (Bt rfl <| Ba rfl <| Ay rfl <| Ac)) ?_
      refine Aa rfl (Aj Dt (Ac)) ?_
      refine Aa rfl (Aq Bd (Ac) (Cell.own 0 rfl rfl)) ?_
      refine Aa rfl (Aj Cf (Bt rfl <| Ba rfl <| Ay rfl <| Ap rfl <| Al rfl <| Ac)) ?_
      refine Aa rfl (Aj Ds (Ac)) ?_
      refine Aa rfl (Aq Bd (Ac) (Cell.own 0 rfl rfl)) ?_
      refine Aa rfl (Cl (Ap rfl <| Al rfl <| Ac) (Ac)) ?_
      refine Aa rfl (Ae (Ac)) ?_
      refine Ah <| Ad <| Am (Ac) (decide_eq_false h7) ?_
      refine Ax <| Bh <| Ad <| Af <| Ai fun ds => Aa rfl (Ae Ab) ?_
      refine Ah <| Ad <| A5 <| Aw rfl (.tmp (Ac) .nil) ?_
      show _ = _
      rw [Da hk h1 hA hB, h6, if_neg h7]; rfl
    ·
     replace h5 : (inB 0 100000 l[k].lo && inB 0 100000 l[k].hi) = false := by simpa using h5
     have h6 := range_two h5
     refine Af <| Ai fun ds => Aa rfl (Aj Cf (Bt rfl <| Ap rfl <| Al rfl <| Ac)) ?_
     refine Aa rfl (Aj Dt (Ac)) ?_
     refine Aa rfl (Aq Bd (Ac) (Cell.own 0 rfl rfl)) ?_
     refine Aa rfl (Aj Cf (Bt rfl <| Ay rfl <| Ap rfl <| Ac)) ?_
     refine Aa rfl (Aj Ds (Ac)) ?_
     refine Aa rfl (Aq Bd (Ac) (Cell.own 0 rfl rfl)) ?_
     refine Bl rfl (Bz Bs C3 rfl (.cons (Ap rfl <| Al rfl <| Ac) (.cons (Ac) .nil)) rfl rfl (by decide) (by simp [Value.oneCell']) fun b32 hb32 nb32 => ?_)
     refine Bp (i := 0) rfl hb32 .here fun F33 hF34 hz35 => ?_
     have hsl36 := Dl hz35
     refine Bv rfl (A9 C6 Az (.cons Ab (.cons Ab (.cons (Ac) .nil))) (B2 _ _ hsl36) (fun _ _ h => h)) ?_
     refine Aa rfl (Ae (Ac)) ?_
     refine Ah <| Ad <| Ar (Ac) (by first | (rw [Cg, h5]; done) | (rw [Cg, h5]; rfl)) ?_
     refine Af <| Ai fun ds => Aa rfl (Ae Ab) ?_
     refine Ah <| Ad <| A5 <| Bc (A7 ?_)
     refine Aw rfl (.tmp (Ac) .nil) ?_
     show _ = _
     rw [Da hk h1 hA hB, h6]; rfl
   ·
    refine A3 rfl rfl (Ac) (by first | (rw [h3]; done) | (rw [h3]; rfl)) ?_
    refine A0 rfl (Aj Cf (Bb rfl <| Ba rfl <| Ay rfl <| Ac)) ?_
    refine A3 rfl rfl (Al rfl <| Ac) (by first | (rw [h3]; done) | (rw [h3]; rfl)) ?_
    refine A0 rfl (Bg (vs := [.int .i64 l[k].lo, .int .i64 l[k].hi]) agg_58 (Ac) rfl rfl (own_part 0 rfl rfl)) ?_
    refine A3 rfl rfl (Ap rfl <| Ac) (by first | (rw [h3]; done) | (rw [h3]; rfl)) ?_
    refine A0 rfl (Db bt_58 .nil .nil) ?_
    refine A3 rfl rfl (Ap rfl <| Al rfl <| Ac) (by first | (rw [h3]; done) | (rw [h3]; rfl)) ?_
    refine A0 rfl (q_neqZ2 Try.underlying58 stoodSp guardSp (by decide) (by decide) rfl rfl Try.underlying3 Try.underlying3 oneSp oneSp (Al rfl <| Ac) (Ac)) ?_
    refine A3 rfl rfl (Ba rfl <| Ac) rfl ?_
    refine A0 rfl (A6 (Ay rfl <| Ac) (by first | (rw [h3]; done) | (rw [h3]; rfl)) (Ac)) ?_
    refine A0 rfl (A8 (Ba rfl <| Al rfl <| Ac) rfl (Ac)) ?_
    refine A0 rfl (Ae (Ac)) ?_
    refine Cj ?_
    refine Ad ?_
    by_cases h4 : l[k].lo = 0 ∧ l[k].hi = 0
    ·
     have hB : ¬ (l[k].sold = false ∧ ¬ (l[k].lo = 0 ∧ l[k].hi = 0)) := fun h => h.2 h4
     refine Am (Ac) (by rw [span_zero]; exact decide_eq_false (fun h => h h4)) ?_
     by_cases h5 : (inB 0 100000 l[k].lo && inB 0 100000 l[k].hi) = true
     ·
      have h6 := range_fits h5
      refine Af <| Ai fun ds => Aa rfl (Aj Cf (Bt rfl <| Ap rfl <| Al rfl <| Ac)) ?_
      refine Aa rfl (Aj Dt (Ac)) ?_
      refine Aa rfl (Aq Bd (Ac) (Cell.own 0 rfl rfl)) ?_
      refine Aa rfl (Aj Cf (Bt rfl <| Ay rfl <| Ap rfl <| Ac)) ?_
      refine Aa rfl (Aj Ds (Ac)) ?_
      refine Aa rfl (Aq Bd (Ac) (Cell.own 0 rfl rfl)) ?_
      refine Bl rfl (Bz Bs C3 rfl (.cons (Ap rfl <| Al rfl <| Ac) (.cons (Ac) .nil)) rfl rfl (by decide) (by simp [Value.oneCell']) fun b37 hb37 nb37 => ?_)
      refine Bp (i := 0) rfl hb37 .here fun F38 hF39 hz40 => ?_
      have hsl41 := Dl hz40
      refine Bv rfl (A9 C6 Az (.cons Ab (.cons Ab (.cons (Ac) .nil))) (B2 _ _ hsl41) (fun _ _ h => h)) ?_
      refine Aa rfl (Ae (Ac)) ?_
      refine Ah <| Ad <| Am (Ac) (by first | (rw [Cg, h5]; done) | (rw [Cg, h5]; rfl)) ?_
      by_cases h7 : l[k].hi < l[k].lo
      ·
       refine Af <| Ai fun ds => Aa rfl (Aj Cf (Bt rfl <| Ba rfl <| Ay rfl <| Ac)) ?_
       refine Aa rfl (Aj Dt (Ac)) ?_
       refine Aa rfl (Aq Bd (Ac) (Cell.own 0 rfl rfl)) ?_
       refine Aa rfl (Aj Cf (Bt rfl <| Ba rfl <| Ay rfl <| Ap rfl <| Al rfl <| Ac)) ?_
       refine Aa rfl (Aj Ds (Ac)) ?_
       refine Aa rfl (Aq Bd (Ac) (Cell.own 0 rfl rfl)) ?_
       refine Aa rfl (Cl (Ap rfl <| Al rfl <| Ac) (Ac)) ?_
       refine Aa rfl (Ae (Ac)) ?_
       refine Ah <| Ad <| Ar (Ac) (decide_eq_true h7) ?_
       refine Af <| Ai fun ds => Aa rfl (Ae Ab) ?_
       refine Ah <| Ad <| A5 <| Bc (A7 ?_)
       refine Aw rfl (.tmp (Ac) .nil) ?_
       show _ = _
       rw [Da hk h1 hA hB, h6, if_pos h7]; rfl
      ·
       refine Af <| Ai fun ds => Aa rfl (Aj Cf (Bt rfl <| Ba rfl <| Ay rfl <| Ac)) ?_
       refine Aa rfl (Aj Dt (Ac)) ?_
       refine Aa rfl (Aq Bd (Ac) (Cell.own 0 rfl rfl)) ?_
       refine Aa rfl (Aj Cf (Bt rfl <| Ba rfl <| Ay rfl <| Ap rfl <| Al rfl <| Ac)) ?_
       refine Aa rfl (Aj Ds (Ac)) ?_
       refine Aa rfl (Aq Bd (Ac) (Cell.own 0 rfl rfl)) ?_
       refine Aa rfl (Cl (Ap rfl <| Al rfl <| Ac) (Ac)) ?_
       refine Aa rfl (Ae (Ac)) ?_
       refine Ah <| Ad <| Am (Ac) (decide_eq_false h7) ?_
       refine Ax <| Bh <| Ad <| Af <| Ai fun ds => Aa rfl (Ae Ab) ?_
       refine Ah <| Ad <| A5 <| Aw rfl (.tmp (Ac) .nil) ?_
       show _ = _
       rw [Da hk h1 hA hB, h6, if_neg h7]; rfl
     ·
      replace h5 : (inB 0 100000 l[k].lo && inB 0 100000 l[k].hi) = false := by simpa using h5
      have h6 := range_two h5
      refine Af <| Ai fun ds => Aa rfl (Aj Cf (Bt rfl <| Ap rfl <| Al rfl <| Ac)) ?_
      refine Aa rfl (Aj Dt (Ac)) ?_
      refine Aa rfl (Aq Bd (Ac) (Cell.own 0 rfl rfl)) ?_
      refine Aa rfl (Aj Cf (Bt rfl <| Ay rfl <| Ap rfl <| Ac)) ?_
      refine Aa rfl (Aj Ds (Ac)) ?_
      refine Aa rfl (Aq Bd (Ac) (Cell.own 0 rfl rfl)) ?_
      refine Bl rfl (Bz Bs C3 rfl (.cons (Ap rfl <| Al rfl <| Ac) (.cons (Ac) .nil)) rfl rfl (by decide) (by simp [Value.oneCell']) fun b42 hb42 nb42 => ?_)
      refine Bp (i := 0) rfl hb42 .here fun F43 hF44 hz45 => ?_
      have hsl46 := Dl hz45
      refine Bv rfl (A9 C6 Az (.cons Ab (.cons Ab (.cons (Ac) .nil))) (B2 _ _ hsl46) (fun _ _ h => h)) ?_
      refine Aa rfl (Ae (Ac)) ?_
      refine Ah <| Ad <| Ar (Ac) (by first | (rw [Cg, h5]; done) | (rw [Cg, h5]; rfl)) ?_
      refine Af <| Ai fun ds => Aa rfl (Ae Ab) ?_
      refine Ah <| Ad <| A5 <| Bc (A7 ?_)
      refine Aw rfl (.tmp (Ac) .nil) ?_
      show _ = _
      rw [Da hk h1 hA hB, h6]; rfl
    ·
     refine Ar (Ac) (by rw [span_zero]; exact decide_eq_true h4) ?_
     refine Af <| Ai fun ds => Aa rfl (Ae Ab) ?_
     refine Ah <| Ad <| A5 <| Bc (A7 ?_)
     refine Aw rfl (.tmp (Ac) .nil) ?_
     show _ = _
     rw [entErr_at hk, if_neg (by rw [h1]; decide), if_pos (.inr ⟨h3, h4⟩)]; rfl
 ·
  replace h1 : inB 0 (s.lots.length - 1) l[k].lot = false := by simpa using h1
  refine Af <| Ai fun ds => Bl rfl (Cc (Ak rfl) rfl fun b47 hb47 nb47 => ?_)
  refine Aa rfl (Ae Ab) ?_
  refine Ah <| Ad <| Af <| A4 <| Af <| Ai fun ds => Aa rfl (Aj Cp (Ap rfl <| Ak rfl)) ?_
  refine Aa rfl (Aq C0 (Ac) (CellF.own hc2 rfl).cell) ?_
  refine Aa rfl (Bf C1 (Ac) hr.lots.plain) ?_
  refine Aa rfl (Dh (Ac) Ab rfl (by omega) (by omega)) ?_
  refine Aa rfl (Aj fd_60_0 (Ay rfl <| Al rfl <| Ac)) ?_
  refine Aa rfl (Aq Bd (Ac) (Cell.own 0 rfl rfl)) ?_
  refine Bl rfl (Bz Bs C3 rfl (.cons (Ac) .nil) rfl rfl (by decide) (by simp [Value.oneCell']) fun b48 hb48 nb48 => ?_)
  refine Bp (i := 0) rfl hb48 .here fun F49 hF50 hz51 => ?_
  have hsl52 := Ci hz51
  refine Bv rfl (A9 C6 Az (.cons Ab (.cons (Ap rfl <| Al rfl <| Ac) (.cons (Ac) .nil))) (B2 _ _ hsl52) (fun _ _ h => h)) ?_
  refine Aa rfl (Ae (Ac)) ?_
  refine Ah <| Ad <| Ar (Ac) (by simp [h1]) ?_
  refine Af <| Ai fun ds => Aa rfl (Ae Ab) ?_
  refine Ah <| Ad <| A5 <| Bc (A7 ?_)
  refine Aw rfl (.tmp (Ac) .nil) ?_
  show _ = _
  rw [entErr_at hk, if_pos h1]; rfl
set_option maxRecDepth 100000 in
theorem catalogue_ok {F : Heap} {vs vb vl vn vd : Value} {s : Sale} (hr : SaleR F vs vb vl vn vd s) {ve : Value} {l : List Ent} (he : Sl F ve 4 Ent.enc l) (hok : askedE s l = 0) : OkN Try.prog 77 [.agg #[vs, .int .i64 s.premium, .int .i64 s.fee, .int .i64 s.days, vb, vl, vn, vd], ve].toArray F fun u F' Hn => LookR F' u Hn vs vb vl vn vd s := by
 refine OkN.intro Try.func77 rfl Try.ntmps77 rfl fun w0 => ?_
 obtain ⟨h0, h1⟩ := askedE_ok hok
 have hfc := first_cat.resolve_right (fun h => h.1 h1)
 have hL2 := he.plain.lt
 refine Af <| Ai fun ds => Bl rfl (Cc (Ak rfl) rfl fun b1 hb1 nb1 => ?_)
 refine Bl rfl (Cc (Al rfl <| Ak rfl) (Df he.plain.one) fun b2 hb2 nb2 => ?_)
 refine Aa rfl (Ae Ab) ?_
 refine Aa rfl (Ae Ab) ?_
 refine Ah <| Ad <| Af <| Ai fun ds => Aa rfl (Bg Cd (Ap rfl <| Al rfl <| Ac) rfl rfl (Bm 1 rfl)) ?_
 refine Bl rfl (x_callN bd_66 Az (.cons (Ac) .nil) (look_ok hr (Co h0) h0) fun v3 F4 R7 hr5 hF6 => ?_)
 replace hr := hr.mono hF6
 replace he := he.mono hF6
 obtain ⟨ba, kb, rfl, hX, rfl⟩ := hr5
 refine Aa rfl (Ag (Ac)) ?_
 refine Aa rfl (A1 (Ac) rfl) ?_
 refine Aa rfl (A1 (Al rfl <| Ac) rfl) ?_
 refine Aa rfl (Ae (Al rfl <| Ac)) ?_
 refine Aa rfl (Ae (Al rfl <| Ac)) ?_
 refine Ah <| Ad <| Af <| Af <| Ai fun ds => Aa rfl (Ag (Ac)) ?_
 refine Aa rfl (B5 (Ac) Ab) ?_
 refine Ah <| Ad <| Am (Ac) (by decide) ?_
 refine Ax <| Ad <| Af <| Cq (i := 1) rfl hb1 (.next <| .here) fun F8 hF9 hz2 => ?_
 replace hr := hr.mono hF9
 replace he := he.mono hF9
 replace hX := hX.mono hF9
 refine Cq (i := 0) rfl hb2 (.here) fun F10 hF11 hz3 => ?_
 replace hr := hr.mono hF11
 replace he := he.mono hF11
 replace hX := hX.mono hF11
 replace hz2 := hF11 _ _ hz2
 refine Ai fun ds => Aa rfl (Aq one_47 (Ba rfl <| Ap rfl <| Al rfl <| Ac) (CellF.own hz3 rfl).cell) ?_
 refine Aa rfl (Aq one_47 (Ba rfl <| Ay rfl <| Ac) (CellF.own hz3 rfl).cell) ?_
 refine Aa rfl (Bf sl_47 (Ac) he.plain) ?_
 refine Aa rfl (Cw (.cons (Ba rfl <| Ay rfl <| Ap rfl <| Al rfl <| Ac) (.cons (Ba rfl <| Ay rfl <| Ap rfl <| Ac) .nil))) ?_
 refine Bv rfl (A9 bd_103 Az (.cons (Ap rfl <| Al rfl <| Ac) (.cons (Al rfl <| Ac) (.cons (Ac) .nil))) (firstEnt_ok he (most := l.length) (entErr s l) bd_104 fun k hk _ => catalogue1_ok hr he hz2 hz3 hk) (fun _ _ h => h.trans (show optV _ = .tuple #[.int .i64 0, .int .i64 0] by rw [hfc.2]; rfl))) ?_
 refine Aa rfl (Ag (Ac)) ?_
 refine Aa rfl (A1 (Ac) rfl) ?_
 refine Aa rfl (A1 (Al rfl <| Ac) rfl) ?_
 refine Aa rfl (Ae (Ac)) ?_
 refine Ah <| Ad <| Af <| Ai fun ds => Aa rfl (Ag (Ba rfl <| Ay rfl <| Ac)) ?_
 refine Aa rfl (Ag (Al rfl <| Ac)) ?_
 refine Aa rfl (Ae (Al rfl <| Ac)) ?_
 refine Aa rfl (Ae (Al rfl <| Ac)) ?_
 refine Ah <| Ad <| A5 <| post_retN rfl (.tmp (Al rfl <| Ac) (.tmp (Ac) .nil)) (.refl _) ?_
 exact ⟨_, _, rfl, hX, rfl⟩
set_option maxRecDepth 100000 in
theorem catalogue_bad {F : Heap} {vs vb vl vn vd : Value} {s : Sale} (hr : SaleR F vs vb vl vn vd s) {ve : Value} {l : List Ent} (he : Sl F ve 4 Ent.enc l) (hbad : askedE s l ≠ 0) : Ok Try.prog 77 [.agg #[vs, .int .i64 s.premium, .int .i64 s.fee, .int .i64 s.days, vb, vl, vn, vd], ve].toArray F fun u _ => ∃ v, v.oneCell' = true ∧ u = .tuple #[v, .int .i64 (askedE s l)] := by
 refine Ok.intro Try.func77 rfl Try.ntmps77 rfl fun w0 => ?_
 have hL2 := he.plain.lt
 by_cases h0 : (checkS s).2.2 = 0
 ·
  have h1 : catE s l ≠ 0 := by rw [← askedE_cat h0]; exact hbad
  obtain ⟨i, hfi⟩ := (first_cat.resolve_left (fun h => h1 h.1)).2
  refine Af <| Ai fun ds => Bl rfl (Cc (Ak rfl) rfl fun b1 hb1 nb1 => ?_)
  refine Bl rfl (Cc (Al rfl <| Ak rfl) (Df he.plain.one) fun b2 hb2 nb2 => ?_)
  refine Aa rfl (Ae Ab) ?_
  refine Aa rfl (Ae Ab) ?_
  refine Ah <| Ad <| Af <| Ai fun ds => Aa rfl (Bg Cd (Ap rfl <| Al rfl <| Ac) rfl rfl (Bm 1 rfl)) ?_
  refine Bl rfl (x_callN bd_66 Az (.cons (Ac) .nil) (look_ok hr (Co h0) h0) fun v3 F4 R7 hr5 hF6 => ?_)
  replace hr := hr.mono hF6
  replace he := he.mono hF6
  obtain ⟨ba, kb, rfl, hX, rfl⟩ := hr5
  refine Aa rfl (Ag (Ac)) ?_
  refine Aa rfl (A1 (Ac) rfl) ?_
  refine Aa rfl (A1 (Al rfl <| Ac) rfl) ?_
  refine Aa rfl (Ae (Al rfl <| Ac)) ?_
  refine Aa rfl (Ae (Al rfl <| Ac)) ?_
  refine Ah <| Ad <| Af <| Af <| Ai fun ds => Aa rfl (Ag (Ac)) ?_
  refine Aa rfl (B5 (Ac) Ab) ?_
  refine Ah <| Ad <| Am (Ac) (by decide) ?_
  refine Ax <| Ad <| Af <| Cq (i := 1) rfl hb1 (.next <| .here) fun F8 hF9 hz2 => ?_
  replace hr := hr.mono hF9
  replace he := he.mono hF9
  refine Cq (i := 0) rfl hb2 (.here) fun F10 hF11 hz3 => ?_
  replace hr := hr.mono hF11
  replace he := he.mono hF11
  replace hz2 := hF11 _ _ hz2
  refine Ai fun ds => Aa rfl (Aq one_47 (Ba rfl <| Ap rfl <| Al rfl <| Ac) (CellF.own hz3 rfl).cell) ?_
  refine Aa rfl (Aq one_47 (Ba rfl <| Ay rfl <| Ac) (CellF.own hz3 rfl).cell) ?_
  refine Aa rfl (Bf sl_47 (Ac) he.plain) ?_
  refine Aa rfl (Cw (.cons (Ba rfl <| Ay rfl <| Ap rfl <| Al rfl <| Ac) (.cons (Ba rfl <| Ay rfl <| Ap rfl <| Ac) .nil))) ?_
  refine Bv rfl (A9 bd_103 Az (.cons (Ap rfl <| Al rfl <| Ac) (.cons (Al rfl <| Ac) (.cons (Ac) .nil))) (firstEnt_ok he (most := l.length) (entErr s l) bd_104 fun k hk _ => catalogue1_ok hr he hz2 hz3 hk) (fun _ _ h => h.trans (show optV _ = .tuple #[.int .i64 i, .int .i64 (catE s l)] by rw [hfi]; rfl))) ?_
  refine Aa rfl (Ag (Ac)) ?_
  refine Aa rfl (A1 (Ac) rfl) ?_
  refine Aa rfl (A1 (Al rfl <| Ac) rfl) ?_
  refine Aa rfl (Ae (Ac)) ?_
  refine Ah <| Ad <| Af <| Ai fun ds => Aa rfl (Ag (Ba rfl <| Ay rfl <| Ac)) ?_
  refine Aa rfl (Ag (Al rfl <| Ac)) ?_
  refine Aa rfl (Ae (Al rfl <| Ac)) ?_
  refine Aa rfl (Ae (Al rfl <| Ac)) ?_
  refine Ah <| Ad <| A5 <| Aw rfl (.tmp (Al rfl <| Ac) (.tmp (Ac) .nil)) ?_
  exact ⟨_, rfl, by rw [askedE_cat h0]; rfl⟩
 ·
  refine Af <| Ai fun ds => Bl rfl (Cc (Ak rfl) rfl fun b12 hb12 nb12 => ?_)
  refine Bl rfl (Cc (Al rfl <| Ak rfl) (Df he.plain.one) fun b13 hb13 nb13 => ?_)
  refine Aa rfl (Ae Ab) ?_
  refine Aa rfl (Ae Ab) ?_
  refine Ah <| Ad <| Af <| Ai fun ds => Aa rfl (Bg Cd (Ap rfl <| Al rfl <| Ac) rfl rfl (Bm 1 rfl)) ?_
  refine Bv rfl (A9 bd_66 Az (.cons (Ac) .nil) (look_bad hr h0) (fun _ _ h => h)) ?_
  refine Aa rfl (Ag (Ac)) ?_
  refine Aa rfl (A1 (Ac) rfl) ?_
  refine Aa rfl (A1 (Al rfl <| Ac) rfl) ?_
  refine Aa rfl (Ae (Al rfl <| Ac)) ?_
  refine Aa rfl (Ae (Al rfl <| Ac)) ?_
  refine Ah <| Ad <| Af <| Af <| Ai fun ds => Aa rfl (Ag (Ac)) ?_
  refine Aa rfl (B5 (Ac) Ab) ?_
  refine Ah <| Ad <| Ar (Ac) (decide_eq_true h0) ?_
  refine Af <| Ai fun ds => Aa rfl (Ag (Ap rfl <| Ac)) ?_
  refine Aa rfl (Ae Ab) ?_
  refine Aa rfl (Ae (Al rfl <| Ac)) ?_
  refine Ah <| Ad <| A5 <| A7 ?_
  refine Aw rfl (.tmp (Al rfl <| Ac) (.tmp (Ac) .nil)) ?_
  exact ⟨.pointer none, rfl, by rw [askedE_bad h0]; rfl⟩
end Go.Proofs.Ytaikojfonleccaa
namespace Go.Proofs.Ytaikojfonleccaa
open Go.RowKit
theorem zr_28 : ZeroT Try.prog 28 (.slice none 0 0) := C4 (by kernel_rfl)
theorem bd_107 : Body Try.prog 107 := Br (by kernel_rfl)
theorem bd_110 : Body Try.prog 110 := Br (by kernel_rfl)
theorem bd_111 : Body Try.prog 111 := Br (by kernel_rfl)
theorem bd_120 : Body Try.prog 120 := Br (by kernel_rfl)
theorem bd_121 : Body Try.prog 121 := Br (by kernel_rfl)
theorem el_28 : ElemT Try.prog 28 1 24 (.slice none 0 0) := elemT_of (by kernel_rfl) rfl (by decide)
theorem one_28 : OneT Try.prog 28 := Dj (by kernel_rfl)
theorem Ey : SliceT Try.prog 48 28 1 := Ek (by kernel_rfl)
theorem mem_any {l : List Nat} {z : Nat} : decide (z ∈ l) = l.any (fun x => decide ((z : Int) = (x : Nat))) := by
 rw [Bool.eq_iff_iff, decide_eq_true_iff, List.any_eq_true]
 constructor
 · exact fun h => ⟨z, h, decide_eq_true rfl⟩
 · rintro ⟨x, hx, he⟩
   have := of_decide_eq_true he
   have : z = x := by omega
   subst this
   exact hx
set_option maxRecDepth 100000 in
theorem index_nat {F : Heap} {v : Value} {l : List Nat} (hl : Nats F v l) (z : Nat) : Ok Try.prog 107 [v, .int .i64 (z : Int)].toArray F fun r _ => r = .int .i64 (findI (fun x => decide ((z : Int) = (x : Nat))) l) := by
 refine Ok.intro Try.func107 rfl Try.ntmps107 rfl fun w0 => ?_
 have hlen := hl.plain.lt
 refine Af <| Ai fun ds => Aa rfl (Ae Ab) ?_
 refine Ah <| Ad <| Af <| Af <| Ai fun ds => Aa rfl (Ag (Al rfl <| Ak rfl)) ?_
 refine Aa rfl (Bf Bs (Ac) hl.plain) ?_
 refine Aa rfl (Ag Ab) ?_
 refine Ah <| Ad <| A4 <| B4 [4, 5, 8, 9, 10, 11, 12, 13, 14, 15, 16, 17, 18] (fun m e σ => ∃ k : Nat, m + k = l.length ∧ e 8 = .int .i64 k ∧ σ = ⟨F, []⟩ ∧ ∀ j (hj : j < l.length), j < k → (fun x => decide ((z : Int) = (x : Nat))) l[j] = false) (l.length) ?_ ?_
 · exact ⟨0, by omega, (Ac), rfl, fun j hj h => absurd h (by omega)⟩
 ·
  rintro m e _ ⟨k, hm, hs8, rfl, hno⟩
  by_cases hlt : k < l.length
  ·
   refine Af <| Ai fun ds => Aa rfl (B0 (Au rfl hs8) (Ao rfl <| Al rfl <| Ac)) ?_
   refine Ah <| Ad <| Af <| Ar (Ac) (by first | rfl | exact decide_eq_true (by omega)) ?_
   by_cases he : (z : Int) = l[k]
   ·
    refine Ax <| Ad <| Af <| A4 <| Af <| Ai fun ds => Aa rfl (Ag (Al rfl <| Au rfl hs8)) ?_
    refine Aa rfl (Ae (Ac)) ?_
    refine Ah <| Ad <| Af <| Ai fun ds => Aa rfl (Ag (Ap rfl <| Al rfl <| Ao rfl <| Ay rfl <| Ak rfl)) ?_
    refine Aa rfl (Ag (Ay rfl <| Ao rfl <| Ay rfl <| Ak rfl)) ?_
    refine Aa rfl (Ag (Ap rfl <| Ac)) ?_
    refine Aa rfl (Be  Bs (Al rfl <| Ac) hl.plain (Ac) rfl hlt) ?_
    refine Aa rfl (Aq Bd (Ac) (hl.cell1 hlt rfl)) ?_
    refine Aa rfl (B9 (Ay rfl <| Ac) (Ac)) ?_
    refine Ah <| Ad <| Ar (Ac) (decide_eq_true he) ?_
    refine Af <| Ai fun ds => Aa rfl (Ag (Ay rfl <| Ap rfl <| Ac)) ?_
    refine Aa rfl (Ae (Ac)) ?_
    refine Ah <| Ad <| A5 <| Bc (A7 (A7 (Bc (A7 ?_))))
    refine Aw rfl (.tmp (Ac) .nil) ?_
    show _ = _
    rw [Ex (p := (fun x => decide ((z : Int) = (x : Nat)))) hlt (decide_eq_true he) hno]; rfl
   ·
    refine Ax <| Ad <| Af <| A4 <| Af <| Ai fun ds => Aa rfl (Ag (Al rfl <| Au rfl hs8)) ?_
    refine Aa rfl (Ae (Ac)) ?_
    refine Ah <| Ad <| Af <| Ai fun ds => Aa rfl (Ag (Ap rfl <| Al rfl <| Ao rfl <| Ay rfl <| Ak rfl)) ?_
    refine Aa rfl (Ag (Ay rfl <| Ao rfl <| Ay rfl <| Ak rfl)) ?_
    refine Aa rfl (Ag (Ap rfl <| Ac)) ?_
    refine Aa rfl (Be  Bs (Al rfl <| Ac) hl.plain (Ac) rfl hlt) ?_
    refine Aa rfl (Aq Bd (Ac) (hl.cell1 hlt rfl)) ?_
    refine Aa rfl (B9 (Ay rfl <| Ac) (Ac)) ?_
    refine Ah <| Ad <| Am (Ac) (decide_eq_false he) ?_
    refine Ax <| Bh <| Ad <| Ai fun ds => Aa rfl (B3 (Ba rfl <| Al rfl <| Au rfl hs8) Ab rfl (by omega) (by omega)) ?_
    refine Aa rfl (Ag (Ac)) ?_
    refine Ah <| Ad ⟨_, m - 1, Off.eq (Ei rfl <| Et rfl <| Eu rfl <| Bj), by omega, ?_⟩
    refine ⟨k + 1, by omega, (Ac), rfl, fun j hj hjk => ?_⟩
    rcases Nat.lt_succ_iff_lt_or_eq.1 hjk with hjk | rfl
    · exact hno j hj hjk
    · exact decide_eq_false he
  ·
   refine Af <| Ai fun ds => Aa rfl (B0 (Au rfl hs8) (Ao rfl <| Al rfl <| Ac)) ?_
   refine Ah <| Ad <| Af <| Am (Ac) (by first | rfl | exact decide_eq_false (by omega)) ?_
   refine Bx ?_
   refine Bk <| Bk <| Bn <| Ad <| Af <| Ai fun ds => Aa rfl (Ae Ab) ?_
   refine Ah <| Ad <| A5 <| Aw rfl (.tmp (Ac) .nil) ?_
   show _ = _
   rw [findI_none (p := (fun x => decide ((z : Int) = (x : Nat)))) (fun j hj => hno j hj (by omega))]; rfl
set_option maxRecDepth 100000 in
theorem contains_nat {F : Heap} {v : Value} {l : List Nat} (hl : Nats F v l) (z : Nat) : Ok Try.prog 82 [v, .int .i64 (z : Int)].toArray F fun r _ => r = .bool (decide (z ∈ l)) := by
 refine Ok.intro Try.func82 rfl Try.ntmps82 rfl fun w0 => ?_
 refine Af <| Ai fun ds => Aa rfl (Ae Ab) ?_
 refine Ah <| Ad <| Af <| Ai fun ds => Aa rfl (Ag (Al rfl <| Ak rfl)) ?_
 refine Aa rfl (Ag (Ap rfl <| Ak rfl)) ?_
 refine Bv rfl (A9 bd_107 Az (.cons (Al rfl <| Ac) (.cons (Ac) .nil)) (index_nat hl z) (fun _ _ h => h)) ?_
 refine Aa rfl (Dp (Ac) Ab) ?_
 refine Aa rfl (Ae (Ac)) ?_
 refine Ah <| Ad <| A5 <| Aw rfl (.tmp (Ac) .nil) ?_
 show _ = _
 rw [mem_any, ← findI_any]; rfl
set_option maxRecDepth 100000 in
theorem isNaN_ok {F : Heap} (z : Int) : Ok Try.prog 121 [.int .i64 z].toArray F fun r _ => r = .bool false := by
 refine Ok.intro Try.func121 rfl Try.ntmps121 rfl fun w0 => ?_
 refine Af <| Ai fun ds => Aa rfl (Ae Ab) ?_
 refine Ah <| Ad <| Af <| Ai fun ds => Aa rfl (Ag (Al rfl <| Ak rfl)) ?_
 refine Aa rfl (Ag (Ap rfl <| Ak rfl)) ?_
 refine Aa rfl (B5 (Al rfl <| Ac) (Ac)) ?_
 refine Aa rfl (Ae (Ac)) ?_
 refine Ah <| Ad <| A5 <| Aw rfl (.tmp (Ac) .nil) ?_
 show _ = _
 simp [outOf]
set_option maxRecDepth 100000 in
theorem cmp_ok {F : Heap} (a b : Int) : Ok Try.prog 111 [.int .i64 a, .int .i64 b].toArray F fun r _ => r = .int .i64 (cmpZ a b) := by
 refine Ok.intro Try.func111 rfl Try.ntmps111 rfl fun w0 => ?_
 refine Af <| Ai fun ds => Aa rfl (Ae Ab) ?_
 refine Ah <| Ad <| Af <| Ai fun ds => Aa rfl (Ag (Al rfl <| Ak rfl)) ?_
 refine Bv rfl (A9 bd_121 Az (.cons (Ac) .nil) (isNaN_ok _) (fun _ _ h => h)) ?_
 refine Aa rfl (Ae (Ac)) ?_
 refine Ah <| Ad <| Af <| Ai fun ds => Aa rfl (Ag (Ay rfl <| Ak rfl)) ?_
 refine Bv rfl (A9 bd_121 Az (.cons (Ac) .nil) (isNaN_ok _) (fun _ _ h => h)) ?_
 refine Aa rfl (Ae (Ac)) ?_
 refine Ah <| Ad <| Af <| Af <| Ai fun ds => Aa rfl (Ag (Ap rfl <| Al rfl <| Ac)) ?_
 refine Ah <| Ad <| Am (Ac) rfl ?_
 refine Ax <| Ad <| Af <| Af <| Ai fun ds => Aa rfl (Ag (Al rfl <| Ac)) ?_
 refine Ah <| Ad <| Am (Ac) rfl ?_
 by_cases h1 : a < b
 ·
  refine Ax <| Ad <| Af <| Af <| Ai fun ds => Aa rfl (Ag (Ba rfl <| Al rfl <| Ak rfl)) ?_
  refine Aa rfl (Ag (Ba rfl <| Ap rfl <| Ak rfl)) ?_
  refine Aa rfl (B0 (Al rfl <| Ac) (Ac)) ?_
  refine Ah <| Ad <| Ar (Ac) (by first | rfl | exact decide_eq_true (by omega)) ?_
  refine Af <| Ai fun ds => Aa rfl (Ae Ab) ?_
  refine Ah <| Ad <| A5 <| A7 ?_
  refine Aw rfl (.tmp (Ac) .nil) ?_
  show _ = _
  unfold cmpZ; rw [if_pos h1]; rfl
 ·
  refine Ax <| Ad <| Af <| Af <| Ai fun ds => Aa rfl (Ag (Ba rfl <| Al rfl <| Ak rfl)) ?_
  refine Aa rfl (Ag (Ba rfl <| Ap rfl <| Ak rfl)) ?_
  refine Aa rfl (B0 (Al rfl <| Ac) (Ac)) ?_
  refine Ah <| Ad <| Am (Ac) (by first | rfl | exact decide_eq_false (by omega)) ?_
  by_cases h2 : b < a
  ·
   refine Ax <| Ad <| Af <| Af <| Ai fun ds => Aa rfl (Ag (Ba rfl <| Ay rfl <| Ak rfl)) ?_
   refine Aa rfl (Ag (Ba rfl <| Ay rfl <| Al rfl <| Ak rfl)) ?_
   refine Aa rfl (Cl (Al rfl <| Ac) (Ac)) ?_
   refine Ah <| Ad <| Ar (Ac) (by first | rfl | exact decide_eq_true (by omega)) ?_
   refine Af <| Ai fun ds => Aa rfl (Ae Ab) ?_
   refine Ah <| Ad <| A5 <| A7 ?_
   refine Aw rfl (.tmp (Ac) .nil) ?_
   show _ = _
   unfold cmpZ; rw [if_neg h1, if_pos h2]; rfl
  ·
   refine Ax <| Ad <| Af <| Af <| Ai fun ds => Aa rfl (Ag (Ba rfl <| Ay rfl <| Ak rfl)) ?_
   refine Aa rfl (Ag (Ba rfl <| Ay rfl <| Al rfl <| Ak rfl)) ?_
   refine Aa rfl (Cl (Al rfl <| Ac) (Ac)) ?_
   refine Ah <| Ad <| Am (Ac) (by first | rfl | exact decide_eq_false (by omega)) ?_
   refine Ax <| Ad <| Af <| Ai fun ds => Aa rfl (Ae Ab) ?_
   refine Ah <| Ad <| A5 <| Aw rfl (.tmp (Ac) .nil) ?_
   show _ = _
   unfold cmpZ; rw [if_neg h1, if_neg h2]; rfl
set_option maxRecDepth 100000 in
theorem compare_ok {F : Heap} {v u : Value} {xs ys : List Nat} (hx : Nats F v xs) (hy : Nats F u ys) : Ok Try.prog 86 [v, u].toArray F fun r _ => r = .int .i64 (cmpL xs ys) := by
 refine Ok.intro Try.func86 rfl Try.ntmps86 rfl fun w0 => ?_
 have hlen := hx.plain.lt
 have hlen2 := hy.plain.lt
 refine Af <| Ai fun ds => Aa rfl (Ae Ab) ?_
 refine Ah <| Ad <| Af <| Af <| Ai fun ds => Aa rfl (Ag (Al rfl <| Ak rfl)) ?_
 refine Aa rfl (Bf Bs (Ac) hx.plain) ?_
 refine Aa rfl (Ag Ab) ?_
 refine Ah <| Ad <| A4 <| B4 [4, 5, 6, 7, 8, 11, 12, 13, 14, 15, 16, 17, 18, 19, 20, 21, 22, 23, 24, 25, 26, 27, 28, 29, 30] (fun m e σ => ∃ k : Nat, m + k = xs.length ∧ k ≤ ys.length ∧ e 11 = .int .i64 k ∧ σ = ⟨F, []⟩ ∧ xs.take k = ys.take k) (xs.length) ?_ ?_
 · exact ⟨0, by omega, by omega, (Ac), rfl, rfl⟩
 ·
  rintro m e _ ⟨k, hm, hk, hs11, rfl, htk⟩
  by_cases hlt : k < xs.length
  ·
   refine Af <| Ai fun ds => Aa rfl (B0 (Au rfl hs11) (Ao rfl <| Al rfl <| Ac)) ?_
   refine Ah <| Ad <| Af <| Ar (Ac) (by first | rfl | exact decide_eq_true (by omega)) ?_
   by_cases hlt2 : k < ys.length
   ·
    refine Ax <| Ad <| Af <| A4 <| Af <| Ai fun ds => Aa rfl (Ag (Al rfl <| Au rfl hs11)) ?_
    refine Aa rfl (Be  Bs (Ap rfl <| Ao rfl <| Ap rfl <| Ac) hx.plain (Ap rfl <| Au rfl hs11) rfl hlt) ?_
    refine Aa rfl (Aq Bd (Ac) (hx.cell1 hlt rfl)) ?_
    refine Aa rfl (Ae (Ap rfl <| Ac)) ?_
    refine Aa rfl (Ae (Al rfl <| Ac)) ?_
    refine Ah <| Ad <| Af <| Af <| Ai fun ds => Aa rfl (Ag (Al rfl <| Ac)) ?_
    refine Aa rfl (Ag (Ay rfl <| Ap rfl <| Al rfl <| Ao rfl <| Ay rfl <| Ak rfl)) ?_
    refine Aa rfl (Bf Bs (Ac) hy.plain) ?_
    refine Aa rfl (Dp (Ap rfl <| Ac) (Ac)) ?_
    refine Ah <| Ad <| Am (Ac) (by first | rfl | exact decide_eq_false (by omega)) ?_
    by_cases hc : cmpZ xs[k] ys[k] = 0
    ·
     refine Ax <| Ad <| Af <| Ai fun ds => Aa rfl (Ag (Ba rfl <| Ap rfl <| Ao rfl <| Ay rfl <| Ak rfl)) ?_
     refine Aa rfl (Ag (Ay rfl <| Ap rfl <| Ac)) ?_
     refine Aa rfl (Be  Bs (Al rfl <| Ac) hy.plain (Ac) rfl hlt2) ?_
     refine Aa rfl (Aq Bd (Ac) (hy.cell1 hlt2 rfl)) ?_
     refine Aa rfl (Ae (Ac)) ?_
     refine Ah <| Ad <| Af <| Ai fun ds => Aa rfl (Ag (Ba rfl <| Al rfl <| Ac)) ?_
     refine Aa rfl (Ag (Al rfl <| Ac)) ?_
     refine Bv rfl (A9 bd_111 Az (.cons (Al rfl <| Ac) (.cons (Ac) .nil)) (cmp_ok _ _) (fun _ _ h => h)) ?_
     refine Aa rfl (Ae (Ac)) ?_
     refine Ah <| Ad <| Af <| Ai fun ds => Aa rfl (Ag (Ac)) ?_
     refine Aa rfl (B5 (Ac) Ab) ?_
     refine Ah <| Ad <| Am (Ac) (decide_eq_false (by simpa using hc)) ?_
     refine Ax <| Bh <| Ad <| Ai fun ds => Aa rfl (B3 (Bb rfl <| Ay rfl <| Al rfl <| Au rfl hs11) Ab rfl (by omega) (by omega)) ?_
     refine Aa rfl (Ag (Ac)) ?_
     refine Ah <| Ad ⟨_, m - 1, Off.eq (C5 rfl <| ou4 rfl <| Et rfl <| Eu rfl <| Bj), by omega, ?_⟩
     exact ⟨k + 1, by omega, by omega, (Ac), rfl, take_succ_eq hlt hlt2 htk (by have := cmpZ_zero hc; omega)⟩
    ·
     refine Ax <| Ad <| Af <| Ai fun ds => Aa rfl (Ag (Ba rfl <| Ap rfl <| Ao rfl <| Ay rfl <| Ak rfl)) ?_
     refine Aa rfl (Ag (Ay rfl <| Ap rfl <| Ac)) ?_
     refine Aa rfl (Be  Bs (Al rfl <| Ac) hy.plain (Ac) rfl hlt2) ?_
     refine Aa rfl (Aq Bd (Ac) (hy.cell1 hlt2 rfl)) ?_
     refine Aa rfl (Ae (Ac)) ?_
     refine Ah <| Ad <| Af <| Ai fun ds => Aa rfl (Ag (Ba rfl <| Al rfl <| Ac)) ?_
     refine Aa rfl (Ag (Al rfl <| Ac)) ?_
     refine Bv rfl (A9 bd_111 Az (.cons (Al rfl <| Ac) (.cons (Ac) .nil)) (cmp_ok _ _) (fun _ _ h => h)) ?_
     refine Aa rfl (Ae (Ac)) ?_
     refine Ah <| Ad <| Af <| Ai fun ds => Aa rfl (Ag (Ac)) ?_
     refine Aa rfl (B5 (Ac) Ab) ?_
     refine Ah <| Ad <| Ar (Ac) (decide_eq_true hc) ?_
     refine Af <| Ai fun ds => Aa rfl (Ag (Ap rfl <| Ac)) ?_
     refine Aa rfl (Ae (Ac)) ?_
     refine Ah <| Ad <| A5 <| Bc (A7 (A7 (Bc (A7 ?_))))
     refine Aw rfl (.tmp (Ac) .nil) ?_
     show _ = _
     rw [cmpL_at hlt hlt2 htk hc]; rfl
   ·
    refine Ax <| Ad <| Af <| A4 <| Af <| Ai fun ds => Aa rfl (Ag (Al rfl <| Au rfl hs11)) ?_
    refine Aa rfl (Be  Bs (Ap rfl <| Ao rfl <| Ap rfl <| Ac) hx.plain (Ap rfl <| Au rfl hs11) rfl hlt) ?_
    refine Aa rfl (Aq Bd (Ac) (hx.cell1 hlt rfl)) ?_
    refine Aa rfl (Ae (Ap rfl <| Ac)) ?_
    refine Aa rfl (Ae (Al rfl <| Ac)) ?_
    refine Ah <| Ad <| Af <| Af <| Ai fun ds => Aa rfl (Ag (Al rfl <| Ac)) ?_
    refine Aa rfl (Ag (Ay rfl <| Ap rfl <| Al rfl <| Ao rfl <| Ay rfl <| Ak rfl)) ?_
    refine Aa rfl (Bf Bs (Ac) hy.plain) ?_
    refine Aa rfl (Dp (Ap rfl <| Ac) (Ac)) ?_
    refine Ah <| Ad <| Ar (Ac) (by first | rfl | exact decide_eq_true (by omega)) ?_
    refine Af <| Ai fun ds => Aa rfl (Ae Ab) ?_
    refine Ah <| Ad <| A5 <| A7 (Bc (A7 (A7 (Bc (A7 ?_)))))
    refine Aw rfl (.tmp (Ac) .nil) ?_
    show _ = _
    rw [cmpL_end1 hlt (by omega) htk]; rfl
  ·
   refine Af <| Ai fun ds => Aa rfl (B0 (Au rfl hs11) (Ao rfl <| Al rfl <| Ac)) ?_
   refine Ah <| Ad <| Af <| Am (Ac) (by first | rfl | exact decide_eq_false (by omega)) ?_
   obtain rfl : k = xs.length := by omega
   by_cases h2 : xs.length < ys.length
   ·
    refine Bx ?_
    refine Bk <| Bk <| Bn <| Ad <| Af <| Af <| Ai fun ds => Aa rfl (Ag (Al rfl <| Ao rfl <| Ay rfl <| Ak rfl)) ?_
    refine Aa rfl (Bf Bs (Ac) hx.plain) ?_
    refine Aa rfl (Ag (Ap rfl <| Al rfl <| Ao rfl <| Ay rfl <| Ak rfl)) ?_
    refine Aa rfl (Bf Bs (Ac) hy.plain) ?_
    refine Aa rfl (B0 (Ap rfl <| Ac) (Ac)) ?_
    refine Ah <| Ad <| Ar (Ac) (by first | rfl | exact decide_eq_true (by omega)) ?_
    refine Af <| Ai fun ds => Aa rfl (Ae Ab) ?_
    refine Ah <| Ad <| A5 <| A7 ?_
    refine Aw rfl (.tmp (Ac) .nil) ?_
    show _ = _
    rw [cmpL_end0 hk htk, if_pos h2]; rfl
   ·
    refine Bx ?_
    refine Bk <| Bk <| Bn <| Ad <| Af <| Af <| Ai fun ds => Aa rfl (Ag (Al rfl <| Ao rfl <| Ay rfl <| Ak rfl)) ?_
    refine Aa rfl (Bf Bs (Ac) hx.plain) ?_
    refine Aa rfl (Ag (Ap rfl <| Al rfl <| Ao rfl <| Ay rfl <| Ak rfl)) ?_
    refine Aa rfl (Bf Bs (Ac) hy.plain) ?_
    refine Aa rfl (B0 (Ap rfl <| Ac) (Ac)) ?_
    refine Ah <| Ad <| Am (Ac) (by first | rfl | exact decide_eq_false (by omega)) ?_
    refine Ax <| Ad <| Af <| Ai fun ds => Aa rfl (Ae Ab) ?_
    refine Ah <| Ad <| A5 <| Aw rfl (.tmp (Ac) .nil) ?_
    show _ = _
    rw [cmpL_end0 hk htk, if_neg h2]; rfl
def lenTab : ByteArray := ⟨#[0, 1, 2, 2, 3, 3, 3, 3, 4, 4, 4, 4, 4, 4, 4, 4, 5, 5, 5, 5, 5, 5, 5, 5, 5, 5, 5, 5, 5, 5, 5, 5, 6, 6, 6, 6, 6, 6, 6, 6, 6, 6, 6, 6, 6, 6, 6, 6, 6, 6, 6, 6, 6, 6, 6, 6, 6, 6, 6, 6, 6, 6, 6, 6, 7, 7, 7, 7, 7, 7, 7, 7, 7, 7, 7, 7, 7, 7, 7, 7, 7, 7, 7, 7, 7, 7, 7, 7, 7, 7, 7, 7, 7, 7, 7, 7, 7, 7, 7, 7, 7, 7, 7, 7, 7, 7, 7, 7, 7, 7, 7, 7, 7, 7, 7, 7, 7, 7, 7, 7, 7, 7, 7, 7, 7, 7, 7, 7, 8, 8, 8, 8, 8, 8, 8, 8, 8, 8, 8, 8, 8, 8, 8, 8, 8, 8, 8, 8, 8, 8, 8, 8, 8, 8, 8, 8, 8, 8, 8, 8, 8, 8, 8, 8, 8, 8, 8, 8, 8, 8, 8, 8, 8, 8, 8, 8, 8, 8, 8, 8, 8, 8, 8, 8, 8, 8, 8, 8, 8, 8, 8, 8, 8, 8, 8, 8, 8, 8, 8, 8, 8, 8, 8, 8, 8, 8, 8, 8, 8, 8, 8, 8, 8, 8, 8, 8, 8, 8, 8, 8, 8, 8, 8, 8, 8, 8, 8, 8, 8, 8, 8, 8, 8, 8, 8, 8, 8, 8, 8, 8, 8, 8, 8, 8, 8, 8, 8, 8, 8, 8, 8, 8, 8, 8, 8, 8]⟩
theorem lenTab_all : (List.range 256).all (fun n => decide (n < 2 ^ (lenTab.data.getD n 0).toNat) && decide ((lenTab.data.getD n 0).toNat ≤ 8)) = true := by kernel_rfl
theorem lenTab_at {n : Nat} (hn : n < 256) : ∃ h : n < lenTab.size, n < 2 ^ (lenTab[n]'h).toNat ∧ (lenTab[n]'h).toNat ≤ 8 := by
 have hs : lenTab.size = 256 := by kernel_rfl
 refine ⟨by omega, ?_⟩
 have := List.all_eq_true.1 lenTab_all n (by simpa using hn)
 simp only [Bool.and_eq_true, decide_eq_true_eq] at this
 have e : lenTab.data.getD n 0 = lenTab[n]'(by omega) := by
   have : n < lenTab.data.size := by have : lenTab.data.size = 256 := hs; omega
   simp only [Array.getD, this, dif_pos]; rfl
 rw [e] at this
 exact this
set_option maxRecDepth 100000 in
theorem len64_ok {F : Heap} {n : Nat} (hn : n < 256) : Ok Try.prog 120 [.int .u64 (n : Int)].toArray F fun r _ => ∃ q : Nat, r = .int .i64 q ∧ n < 2 ^ q ∧ q ≤ 8 := by
 refine Ok.intro Try.func120 rfl Try.ntmps120 rfl fun w0 => ?_
 obtain ⟨hs, hq1, hq2⟩ := lenTab_at hn
 refine Af <| Ai fun ds => Aa rfl (Ae Ab) ?_
 refine Ah <| Ad <| Af <| Af <| Ai fun ds => Aa rfl (Ag (Al rfl <| Ak rfl)) ?_
 refine Aa rfl (Dp (Ac) Ab) ?_
 refine Ah <| Ad <| Am (Ac) (by first | rfl | exact decide_eq_false (by omega)) ?_
 refine Ax <| Ad <| Af <| Af <| Ai fun ds => Aa rfl (Ag (Ap rfl <| Al rfl <| Ak rfl)) ?_
 refine Aa rfl (Dp (Ac) Ab) ?_
 refine Ah <| Ad <| Am (Ac) (by first | rfl | exact decide_eq_false (by omega)) ?_
 refine Ax <| Ad <| Af <| Af <| Ai fun ds => Aa rfl (Ag (Ay rfl <| Al rfl <| Ak rfl)) ?_
 refine Aa rfl (Dp (Ac) Ab) ?_
 refine Ah <| Ad <| Am (Ac) (by first | rfl | exact decide_eq_false (by omega)) ?_
 refine Ax <| Ad <| Af <| Ai fun ds => Aa rfl (Ag (Ay rfl <| Ap rfl <| Ac)) ?_
 refine Aa rfl (Ag (Ba rfl <| Ak rfl)) ?_
 refine Aa rfl (q_convert ⟨_, Try.underlying175⟩ Try.underlying5 (Ac) (IntWalk.u8_in _ ⟨by omega, by omega⟩)) ?_
 refine Aa rfl (q_indexS (s := lenTab) Try.underlying9 Ab (Ac) rfl hs) ?_
 refine Aa rfl (q_convB ⟨_, Try.underlying5⟩ Try.underlying3 (Ac)) ?_
 refine Aa rfl (q_addB (Ay rfl <| Ac) (Ac) (by decide) (by decide)) ?_
 refine Aa rfl (Ae (Ac)) ?_
 refine Ah <| Ad <| A5 <| Aw rfl (.tmp (Ac) .nil) ?_
 exact ⟨_, congrArg (Value.int .i64) (Int.zero_add _), hq1, hq2⟩
set_option maxRecDepth 100000 in
theorem len_ok {F : Heap} {n : Nat} (hn : n < 256) : Ok Try.prog 110 [.int .u64 (n : Int)].toArray F fun r _ => ∃ q : Nat, r = .int .i64 q ∧ n < 2 ^ q ∧ q ≤ 8 := by
 refine Ok.intro Try.func110 rfl Try.ntmps110 rfl fun w0 => ?_
 refine Af <| Ai fun ds => Aa rfl (Ae Ab) ?_
 refine Ah <| Ad <| Af <| Am Ab rfl ?_
 refine Ax <| Ad <| Af <| Ai fun ds => Aa rfl (Ag (Al rfl <| Ak rfl)) ?_
 refine Bl rfl (Cz bd_120 Az (.cons (Ac) .nil) (len64_ok hn) fun v1 F2 hr3 hF4 => ?_)
 obtain ⟨q, rfl, hq1, hq2⟩ := hr3
 refine Aa rfl (Ae (Ac)) ?_
 refine Ah <| Ad <| A5 <| Aw rfl (.tmp (Ac) .nil) ?_
 exact ⟨q, rfl, hq1, hq2⟩
set_option maxRecDepth 100000 in
theorem list_ok {F : Heap} {n : Nat} (hn : n < 256) : Ok Try.prog 85 [.int .i64 (n : Int)].toArray F fun u F' => Nats F' u (bitsL n) := by
 refine Ok.intro Try.func85 rfl Try.ntmps85 rfl fun w0 => ?_
 refine Af <| Ai fun ds => Aa rfl (Ae Ab) ?_
 refine Ah <| Ad <| Af <| Af <| Ai fun ds => Aa rfl (Ag (Al rfl <| Ak rfl)) ?_
 refine Aa rfl (q_convert ⟨_, Try.underlying3⟩ Try.underlying167 (Ac) (IntWalk.u64_in _ ⟨by omega, by omega⟩)) ?_
 refine Bl rfl (Cz bd_110 Az (.cons (Ac) .nil) (len_ok hn) fun v1 F2 hr3 hF4 => ?_)
 obtain ⟨q, rfl, hq1, hq2⟩ := hr3
 refine Aa rfl (Ag Ab) ?_
 refine Ah <| Ad <| A4 <| B4 [2, 3, 7, 8, 9, 10, 11, 12, 13, 14, 15, 16, 17, 18, 19] (fun m e σ => ∃ k : Nat, m + k = q ∧ e 7 = .int .i64 k ∧ ∃ v R, e 2 = v ∧ Own 3 1 v (bitsTo n k).length ((bitsTo n k).flatMap natE) R ∧ σ = ⟨F2, R⟩) (q) ?_ ?_
 · exact ⟨0, by omega, (Ac), _, _, (Ay rfl <| Ac), Own.nil, rfl⟩
 ·
  rintro m e _ ⟨k, hm, hs7, v2, R2, hs2, ho, rfl⟩; have hbl := bitsTo_length (set := n) (k := k)
  by_cases hlt : k < q
  ·
   refine Af <| Ai fun ds => Aa rfl (B0 (Au rfl hs7) (Ao rfl <| Al rfl <| Ac)) ?_
   refine Ah <| Ad <| Af <| Ar (Ac) (by first | rfl | exact decide_eq_true (by omega)) ?_
   by_cases hb : n.testBit k = true
   ·
    refine Ax <| Ad <| Af <| A4 <| Af <| Ai fun ds => Aa rfl (Ag (Al rfl <| Au rfl hs7)) ?_
    refine Aa rfl (Ae (Ac)) ?_
    refine Ah <| Ad <| Af <| Ai fun ds => Aa rfl (Ag (Ap rfl <| Al rfl <| Ao rfl <| Ay rfl <| Al rfl <| Ak rfl)) ?_
    refine Aa rfl (Ag (Al rfl <| Ac)) ?_
    refine Aa rfl (q_shr (Al rfl <| Ac) (Ac) rfl (by show k < 64; omega) shr_nat) ?_
    refine Aa rfl (q_and (Ac) Ab (m := n / 2 ^ k) (k := 1) rfl rfl (by have := Nat.div_le_self n (2 ^ k); omega) (by omega) rfl) ?_
    refine Aa rfl (B9 (Ac) Ab) ?_
    refine Ah <| Ad <| Ar (Ac) (by rw [Dw]; exact hb) ?_
    refine Ai fun ds => Aa rfl (Ag (Ba rfl <| Au rfl hs2)) ?_
    refine Aa rfl (Ag (Ay rfl <| Ap rfl <| Ac)) ?_
    refine Bl rfl (Bz Bs C3 rfl (.cons (Ac) .nil) rfl rfl (by decide) (by simp [Value.oneCell']) fun b6 hb6 nb6 => ?_)
    refine Bl rfl (Dg Bs el_3 (Ap rfl <| Ac) ho (Ac) (Ea (s := 1) 0 rfl rfl (by simp [Value.oneCell'])) (by omega) (by omega) (.s <| .z) .last fun v7 R8 ho9 => ?_)
    have ho2 := ho9.snoc (x := k) rfl rfl
    refine Aa rfl (Ae (Ac)) ?_
    refine Ah <| Bh <| Ad <| Ct (fun _ _ h => h.drop (.cons _ <| .refl _)) ?_
    refine Ai fun ds => Aa rfl (B3 (Ba rfl <| Ay rfl <| Al rfl <| Au rfl hs7) Ab rfl (by omega) (by omega)) ?_
    refine Aa rfl (Ag (Ac)) ?_
    refine Ah <| Ad ⟨_, m - 1, Off.eq (Ei rfl <| ou4 rfl <| Et rfl <| Eu rfl <| Bj), by omega, ?_⟩
    refine ⟨k + 1, by omega, (Ac), _, _, (Ap rfl <| Ac), by rw [bitsTo_succ, if_pos hb]; exact ho2, rfl⟩
   ·
    refine Ax <| Ad <| Af <| A4 <| Af <| Ai fun ds => Aa rfl (Ag (Al rfl <| Au rfl hs7)) ?_
    refine Aa rfl (Ae (Ac)) ?_
    refine Ah <| Ad <| Af <| Ai fun ds => Aa rfl (Ag (Ap rfl <| Al rfl <| Ao rfl <| Ay rfl <| Al rfl <| Ak rfl)) ?_
    refine Aa rfl (Ag (Al rfl <| Ac)) ?_
    refine Aa rfl (q_shr (Al rfl <| Ac) (Ac) rfl (by show k < 64; omega) shr_nat) ?_
    refine Aa rfl (q_and (Ac) Ab (m := n / 2 ^ k) (k := 1) rfl rfl (by have := Nat.div_le_self n (2 ^ k); omega) (by omega) rfl) ?_
    refine Aa rfl (B9 (Ac) Ab) ?_
    refine Ah <| Ad <| Am (Ac) (by rw [Dw]; simpa using hb) ?_
    refine Ax <| Bh <| Ad <| Ai fun ds => Aa rfl (B3 (Ba rfl <| Au rfl hs7) Ab rfl (by omega) (by omega)) ?_
    refine Aa rfl (Ag (Ac)) ?_
    refine Ah <| Ad ⟨_, m - 1, Off.eq (Ei rfl <| Et rfl <| Bj), by omega, ?_⟩
    exact ⟨k + 1, by omega, (Ac), _, _, (Ba rfl <| Ap rfl <| Au rfl hs2), by rw [bitsTo_succ, if_neg hb]; exact ho, rfl⟩
  ·
   refine Af <| Ai fun ds => Aa rfl (B0 (Au rfl hs7) (Ao rfl <| Al rfl <| Ac)) ?_
   refine Ah <| Ad <| Af <| Am (Ac) (by first | rfl | exact decide_eq_false (by omega)) ?_
   obtain rfl : k = q := by omega
   refine WC_freezeR (σ := ⟨_, _⟩) (by rfl) ho (.z) .last fun F10 hF11 hz12 => ?_
   have hn2 := ho.sl (fun _ => rfl) hz12 (by have := bitsTo_length (set := n) (k := k); omega)
   refine Bx ?_
   refine Bk <| Bk <| Bn <| Ad <| Af <| Ai fun ds => Aa rfl (Ag (Al rfl <| Au rfl hs2)) ?_
   refine Aa rfl (Ae (Ac)) ?_
   refine Ah <| Ad <| A5 <| Aw rfl (.tmp (Ac) .nil) ?_
   show Nats _ _ _
   rw [← bitsTo_all hq2 hq1]; exact hn2
end Go.Proofs.Ytaikojfonleccaa
namespace Go.Proofs.Ytaikojfonleccaa
open Go.RowKit
theorem zr_123 : ZeroT Try.prog 123 (.nilFunc) := C4 (by kernel_rfl)
theorem zr_48 : ZeroT Try.prog 48 (.slice none 0 0) := C4 (by kernel_rfl)
theorem bd_108 : Body Try.prog 108 := Br (by kernel_rfl)
theorem bd_83 : Body Try.prog 83 := Br (by kernel_rfl)
theorem bd_84 : Body Try.prog 84 := Br (by kernel_rfl)
theorem one_123 : OneT Try.prog 123 := Dj (by kernel_rfl)
theorem one_48 : OneT Try.prog 48 := Dj (by kernel_rfl)
theorem sz_123 : SizeT Try.prog 123 1 := C8 (by kernel_rfl)
theorem sz_48 : SizeT Try.prog 48 1 := C8 (by kernel_rfl)
set_option maxRecDepth 100000 in
theorem fit_ok {F : Heap} {b kb : Nat} {vs vb vl vn vd : Value} {s : Sale} (hX : AucX 156 F b vs vb vl vn vd kb s) (hv : ValidS s) {ve : Value} {l : List Ent} (he : Sl F ve 4 Ent.enc l) (hcat : catE s l = 0) {es : List (Value × Value)} (hK : KnownC Try.prog 3 F es s) : OkM Try.prog 78 [.pointer (some ⟨b, 0, none⟩), ve].toArray F [(kb, mapO es)] fun u F' H' => ∃ es', H' = [(kb, mapO es')] ∧ KnownC Try.prog 3 F' es' s ∧ Lsts F' u (fitS s l []) := by
 refine OkM.intro Try.func78 rfl Try.ntmps78 rfl fun w0 => ?_
 have hnb := hv.nb
 have hF0 : F.le F := Heap.le_refl _
 have hL2 := hX.sale.lots.plain.lt
 have hel := he.plain.lt
 refine Af <| Ai fun ds => Bl rfl (Cc (Ak rfl) (Df he.plain.one) fun b1 hb1 nb1 => ?_)
 refine Bl rfl (B6 zr_48 rfl fun b2 hb2 nb2 => ?_)
 refine Ah <| Ad <| WC_scope ?_
 refine Af <| Ai fun ds => Aa rfl (Ag (Ap rfl <| Ak rfl)) ?_
 refine Aa rfl (q_makeFunc2 (.cons (Ac) .nil) .nil) ?_
 refine Bl rfl (B6 zr_123 rfl fun b3 hb3 nb3 => ?_)
 refine Ck (C2 sz_123 (Ac) (Al rfl <| Ac) (i := 0) rfl (.here) rfl (.here) ?_)
 refine Ah <| Ad <| Af <| WC_label ?_
 refine Ad <| Af <| Af <| Cq (i := 2) rfl hb1 (.next <| .next <| .here) fun F4 hF5 hz3 => ?_
 replace hX := hX.mono hF5
 replace hK := hK.mono hF5
 replace he := he.mono hF5
 refine Cq (i := 0) rfl hb3 (.here) fun F6 hF7 hz5 => ?_
 replace hX := hX.mono hF7
 replace hK := hK.mono hF7
 replace he := he.mono hF7
 replace hz3 := hF7 _ _ hz3
 refine Ai fun ds => Aa rfl (Ag (Ay rfl <| Al rfl <| Ak rfl)) ?_
 refine Bl rfl (Cz bd_83 Az (.cons (Ac) .nil) (rings_ok hX hv) fun v8 F9 hr10 hF11 => ?_)
 replace hX := hX.mono hF11
 replace hK := hK.mono hF11
 replace he := he.mono hF11
 replace hz3 := hF11 _ _ hz3
 replace hz5 := hF11 _ _ hz5
 obtain ⟨dz, rfl, hzd⟩ := hr10
 refine Ah <| Ad <| A4 <| WC_rangeG rfl (Ac) (bd_108) (rings1_iter hX hv hzd) (Heap.le_refl _) (fun pre G H => ∃ es2 v4 R4 ps, KnownC Try.prog 3 G es2 s ∧ Own 28 1 v4 ps.length (ps.flatMap slE) R4 ∧ AllN G ps ∧ ps.map (·.2) = (pre.filter (rightS s l [])) ∧ H = (b2, bx 48 [v4]) :: (kb, mapO es2) :: R4) (fun _ _ _ => False) (fun _ _ _ _ hF h => by obtain ⟨a1, a2, a3, a4, a5, a6, a7, a8, a9⟩ := h; exact ⟨a1, a2, a3, a4, a5.mono hF, a6, a7.mono hF, a8, a9⟩) (fun _ _ _ _ _ h => h) ⟨es, _, [], [], hK, own_nil, (fun p hp => nomatch hp), rfl, rfl⟩ (fun L D fn tm pre x rest G H1 vs hxs hle hJ hA => ?_) (fun _ _ _ _ h => h.elim) (fun F2 H1 hF2 hJ => ?_)
 ·
  replace hX := hX.mono hle
  replace he := he.mono hle
  replace hz3 := hle _ _ hz3
  replace hz5 := hle _ _ hz5
  obtain ⟨es2, v4, R4, ps, hK2, ho, hpa, hps, rfl⟩ := hJ
  obtain ⟨v9, set, rfl, hv9, hset, hsof⟩ := hA
  have hxm : x ∈ everyR s.bidders.length := by rw [hxs]; simp
  have hxl := (everyR_mem hxm).2.2
  have hpl : ps.length ≤ 134217728 := by have h9 := congrArg List.length hps; rw [List.length_map] at h9; have h8 := List.length_filter_le (rightS s l []) pre; have h7 := everyTo_bound (n := s.bidders.length) (k := s.bidders.length + 1) (by omega) (by omega); rw [everyTo_end, hxs, List.length_append] at h7; omega
  refine ⟨rfl, rfl, fun w1 => ?_⟩
  refine WC_eq (e' := (upd (upd _ 16 v9) 17 (.int .i64 (set : Int)))) rfl rfl ?_
  refine Af <| Cb (.inr (by kernel_rfl)) (fun _ _ h => h) fun ds => ?_
  refine Aa rfl (Ae (Al rfl <| Ac)) ?_
  refine Ah <| Ad <| Cb (.inr (by kernel_rfl)) (fun _ _ h => h) fun ds => ?_
  refine Aa rfl (Ae (Al rfl <| Ac)) ?_
  refine Ah <| Ad ⟨_, rfl, ?_⟩
  refine A4 <| Af <| Cb (.inr (by kernel_rfl)) (fun _ _ h => h) fun ds => ?_
  refine Aa rfl (Aq one_123 (Ay rfl <| Ap rfl <| Ac) (CellF.own hz5 rfl).cell) ?_
  refine Aa rfl (Ag (Al rfl <| Ac)) ?_
  refine WL_orderB (.one (.next <| .next <| .next <| .here) <| .one (.here) <| .one (.here) <| .one (.here) <| .lastb (.last)) ?_
  refine Bl rfl (x_callMF bd_70 (Al rfl <| Ac) (.cons (Ac) .nil) rfl (sell_ok hX hv hK2 (set := set) hset) fun v16 F17 H20 hr18 hF19 => ?_)
  replace he := he.mono hF19
  replace hle := hle.mono hF19
  replace hv9 := hv9.mono hF19
  replace hpa := hpa.mono hF19
  replace hz3 := hF19 _ _ hz3
  obtain ⟨es3, rfl, hK3, hal⟩ := hr18
  rw [sellL_eq hv (fun b _ => hsof b)] at hal
  refine Aa rfl (Ae (Ac)) ?_
  refine Ah <| Ad <| Af <| Af <| WC_name (i := 1) rfl (fun _ => .next <| .here) fun oL hoL => ?_
  refine Cb (.inr (by kernel_rfl)) (fun _ _ h => h) fun ds => ?_
  refine Aa rfl (Aq one_47 (Ba rfl <| Ay rfl <| Ap rfl <| Ac) (CellF.own hz3 rfl).cell) ?_
  refine Aa rfl (Bf sl_47 (Ac) he.plain) ?_
  refine Aa rfl (Ag Ab) ?_
  refine Ah <| Ad <| A4 <| B4 [10, 23, 24, 25, 26, 27, 28, 29, 30, 31, 32, 33, 34, 35] (fun m e σ => ∃ k : Nat, m + k = l.length ∧ e 23 = .int .i64 (k : Int) ∧ σ = ⟨F17, (kb, mapO es3) :: (L, oL) :: (D, openO) :: (b2, bx 48 [v4]) :: R4⟩ ∧ ∀ j (hj : j < l.length), j < k → rightE l[j] (entRes s l[j] x) = true) (l.length) ?_ ?_
  · exact ⟨0, by omega, (Ac), rfl, fun j hj h => absurd h (by omega)⟩
  ·
   rintro m e _ ⟨k, hm, hs23, rfl, hno⟩
   by_cases hlt : k < l.length
   ·
    obtain ⟨n, hn, hnl⟩ := ent_lot hcat hlt
    have hn2 : n < (allS s (castL x)).length := by rw [D3]; exact hnl
    have hres : (allS s (castL x))[n] = entRes s l[k] x := by rw [En]; unfold entRes; rw [hn]; rfl
    refine Af <| Cb (.inr (by kernel_rfl)) (fun _ _ h => h) fun ds => ?_
    refine Aa rfl (B0 (Au rfl hs23) (Ao rfl <| Al rfl <| Ac)) ?_
    refine Ah <| Ad <| Af <| Ar (Ac) (by first | rfl | exact decide_eq_true (by omega)) ?_
    by_cases hrt : rightE l[k] (entRes s l[k] x) = true
    ·
     refine Ax <| Ad <| Af <| A4 <| Af <| Cb (.inr (by kernel_rfl)) (fun _ _ h => h) fun ds => ?_
     refine Aa rfl (Be  sl_47 (Al rfl <| Ao rfl <| Ap rfl <| Ac) he.plain (Al rfl <| Au rfl hs23) rfl hlt) ?_
     refine Aa rfl (Bg agg_60 (Ac) rfl rfl (he.whole hlt)) ?_
     refine Bl rfl (B6 zr_60 rfl fun b23 hb23 nb23 => ?_)
     refine Ck (B8 sz_60 (Ac) (Al rfl <| Ac) (i := 0) rfl rfl rfl rfl Ent.enc_one (.here) ?_)
     refine Ah <| Ad <| Af <| Ch (.inr (by kernel_rfl)) (fun _ _ h => h) (by kernel_rfl) (by kernel_rfl) fun ds => ?_
     refine A0 rfl (Bg agg_60 (Ac) rfl rfl (Bm 0 rfl)) ?_
     refine A0 rfl (Ag (Ay rfl <| Al rfl <| Ao rfl <| Ap rfl <| Al rfl <| Ac)) ?_
     refine A0 rfl (Aj fd_60_0 (Ap rfl <| Ac)) ?_
     refine A0 rfl (Aq Bd (Ac) (Cell.own 0 rfl rfl)) ?_
     refine A0 rfl (Be (k := n) Cm (Ap rfl <| Ac) hal.plain (Ac) hn hn2) ?_
     refine A0 rfl (Bg D8 (Ac) rfl rfl (hal.whole hn2)) ?_
     refine WQ_c rfl (A9 bd_84 Az (.cons (Ay rfl <| Al rfl <| Ac) (.cons (Ac) .nil)) (right_ok _ _) (fun _ _ h => h)) ?_
     refine A0 rfl (Cu (Ac)) ?_
     refine Cj ?_
     refine Ad <| Am (Ac) (by rw [hres, hrt]; rfl) ?_
     refine Ax <| Bh <| Ad <| Ct (fun _ _ h => h.drop (.cons _ <| .cons_cons _ <| .cons_cons _ <| .cons_cons _ <| .cons_cons _ <| .refl _)) ?_
     refine Cb (.inr (by kernel_rfl)) (fun _ _ h => h) fun ds => ?_
     refine Aa rfl (B3 (Ba rfl <| Ay rfl <| Au rfl hs23) Ab rfl (by omega) (by omega)) ?_
     refine Aa rfl (Ag (Ac)) ?_
     refine Ah <| Ad ⟨_, m - 1, Off.eq (Ei rfl <| ou4 rfl <| Et rfl <| Bj), by omega, ?_⟩
     refine ⟨k + 1, by omega, (Ac), rfl, fun j hj hjk => ?_⟩
     rcases Nat.lt_succ_iff_lt_or_eq.1 hjk with hjk | rfl
     · exact hno j hj hjk
     · exact hrt
    ·
     replace hrt : rightE l[k] (entRes s l[k] x) = false := by simpa using hrt
     refine Ax <| Ad <| Af <| A4 <| Af <| Cb (.inr (by kernel_rfl)) (fun _ _ h => h) fun ds => ?_
     refine Aa rfl (Be  sl_47 (Al rfl <| Ao rfl <| Ap rfl <| Ac) he.plain (Al rfl <| Au rfl hs23) rfl hlt) ?_
     refine Aa rfl (Bg agg_60 (Ac) rfl rfl (he.whole hlt)) ?_
     refine Bl rfl (B6 zr_60 rfl fun b24 hb24 nb24 => ?_)
     refine Ck (B8 sz_60 (Ac) (Al rfl <| Ac) (i := 0) rfl rfl rfl rfl Ent.enc_one (.here) ?_)
     refine Ah <| Ad <| Af <| Ch (.inr (by kernel_rfl)) (fun _ _ h => h) (by kernel_rfl) (by kernel_rfl) fun ds => ?_
     refine A0 rfl (Bg agg_60 (Ac) rfl rfl (Bm 0 rfl)) ?_
     refine A0 rfl (Ag (Ay rfl <| Al rfl <| Ao rfl <| Ap rfl <| Al rfl <| Ac)) ?_
     refine A0 rfl (Aj fd_60_0 (Ap rfl <| Ac)) ?_
     refine A0 rfl (Aq Bd (Ac) (Cell.own 0 rfl rfl)) ?_
     refine A0 rfl (Be (k := n) Cm (Ap rfl <| Ac) hal.plain (Ac) hn hn2) ?_
     refine A0 rfl (Bg D8 (Ac) rfl rfl (hal.whole hn2)) ?_
     refine WQ_c rfl (A9 bd_84 Az (.cons (Ay rfl <| Al rfl <| Ac) (.cons (Ac) .nil)) (right_ok _ _) (fun _ _ h => h)) ?_
     refine A0 rfl (Cu (Ac)) ?_
     refine Cj ?_
     refine Ad <| Ar (Ac) (by rw [hres, hrt]; rfl) ?_
     subst hoL
     refine Bx ?_
     refine exit_past rfl (Bk (Bk (exit_past rfl (Bk (Bn ?_)))))
     refine round_nG (.one (.next <| .next <| .here) <| .one (.next <| .next <| .here) <| .one (.next <| .next <| .here) <| .one (.next <| .here) <| .lastb (.next <| .last)) ?_
     refine .inl ⟨rfl, _, rfl, hle, ?_⟩
     have hr0 : rightS s l [] x = false := rightS_false hlt List.not_mem_nil hrt
     have e1 : ((pre ++ [x]).filter (rightS s l [])) = pre.filter (rightS s l []) := by rw [List.filter_append]; simp [hr0]
     exact ⟨_, _, _, _, hK3, ho, hpa, by rw [e1]; exact hps, rfl⟩
   ·
    refine Af <| Cb (.inr (by kernel_rfl)) (fun _ _ h => h) fun ds => ?_
    refine Aa rfl (B0 (Au rfl hs23) (Ao rfl <| Al rfl <| Ac)) ?_
    refine Ah <| Ad <| Af <| Am (Ac) (by first | rfl | exact decide_eq_false (by omega)) ?_
    have hr1 : rightS s l [] x = true := rightS_true fun j hj => .inr (hno j hj (by omega))
    refine Bx ?_
    refine Bk <| Bk <| Bn <| Ad <| Af <| Cb (.inr (by kernel_rfl)) (fun _ _ h => h) fun ds => ?_
    refine Aa rfl (Ag (Al rfl <| Ao rfl <| Ba rfl <| Ac)) ?_
    refine Aa rfl (Bf Bs (Ac) hv9.plain) ?_
    refine Bl rfl (x_make (k := x.length) Bs el_3 rfl rfl (Ac) (Ac) rfl (by omega) (by omega) fun b25 hb25 nb25 => ?_)
    refine Aa rfl (Ae (Ac)) ?_
    refine Ah <| Ad <| Af <| Cb (.inr (by kernel_rfl)) (fun _ _ h => h) fun ds => ?_
    refine Aa rfl (Ag (Ac)) ?_
    refine Aa rfl (Ag (Ay rfl <| Ap rfl <| Ao rfl <| Ba rfl <| Ac)) ?_
    refine Bl rfl (x_copy (s := 1) rfl Bs (Al rfl <| Ac) (Ac) (i := 0) rfl (by simp) (hv9.src (fun _ => rfl) natE_one) (.here) ?_)
    refine Ah <| Ad <| Cq (i := 0) rfl hb25 (.here) fun F26 hF27 hz38 => ?_
    replace hle := hle.mono hF27
    replace hpa := hpa.mono hF27
    replace hK3 := hK3.mono hF27
    have hn38 := nats_box (l := x) hz38 rfl (by omega)
    subst hoL
    refine Cb (.inr (by kernel_rfl)) (fun _ _ h => h) fun ds => ?_
    refine Aa rfl (Aq one_48 (Ba rfl <| Ao rfl <| Bb rfl <| Ac) (Cell.own 3 rfl rfl)) ?_
    refine Aa rfl (Ag (Ay rfl <| Ac)) ?_
    refine Bl rfl (Bz Ey zr_28 rfl (.cons (Ac) .nil) rfl rfl (by decide) (by simp [Value.oneCell']) fun b28 hb28 nb28 => ?_)
    refine Bl rfl (Dg Ey el_28 (Ap rfl <| Ac) ho (Ac) (Ea (s := 1) 0 rfl rfl (by simp [Value.oneCell'])) (by omega) (by omega) (.s <| .s <| .s <| .s <| .s <| .z) .last fun v29 R30 ho31 => ?_)
    have ho2 := ho31.snoc (x := ((_, x) : Value × List Nat)) rfl rfl
    refine Ck (C2 sz_48 (Ba rfl <| Ay rfl <| Ao rfl <| Bb rfl <| Ac) (Ac) (i := 4) rfl (.here) (Own.one ho2) (.next <| .next <| .next <| .next <| .here) ?_)
    refine Ah <| Bh ?_
    refine round_nG (.one (.next <| .next <| .here) <| .one (.next <| .next <| .here) <| .one (.next <| .next <| .here) <| .one (.next <| .here) <| .lastb (.next <| .last)) ?_
    refine .inl ⟨rfl, _, rfl, hle, ?_⟩
    have e1 : ((pre ++ [x]).filter (rightS s l [])) = pre.filter (rightS s l []) ++ [x] := by rw [List.filter_append]; simp [hr1]
    refine ⟨_, _, _, ps ++ [(_, x)], hK3, ho2, fun p hp => ?_, by rw [e1, List.map_append, hps]; rfl, rfl⟩
    rcases List.mem_append.1 hp with hp | hp
    · exact hpa p hp
    · simp at hp; subst hp; exact hn38
 obtain ⟨es2, v4, R4, ps, hK2, ho, hpa, hps, rfl⟩ := hJ
 refine Bh <| Ad <| WC_freezeRM (σ := ⟨_, _⟩) (by intro m hm; exact .tail _ hm) ho (.s <| .s <| .z) .last fun F32 hF33 hz34 => ?_
 replace hK2 := hK2.mono hF33
 replace hpa := hpa.mono hF33
 have hsp := ho.sl (fun _ => rfl) hz34 (by have h9 := congrArg List.length hps; rw [List.length_map] at h9; have h8 := List.length_filter_le (rightS s l []) (everyR s.bidders.length); have h7 := everyTo_bound (n := s.bidders.length) (k := s.bidders.length + 1) (by omega) (by omega); rw [everyTo_end] at h7; omega)
 refine Af <| Ai fun ds => Aa rfl (Aq one_48 (Ay rfl <| Al rfl <| Ac) (Cell.own 0 rfl rfl)) ?_
 refine Ck (C2 sz_48 (Ay rfl <| Ap rfl <| Ac) (Ac) (i := 0) rfl (.here) hsp.plain.one (.here) ?_)
 refine Ah <| Ad <| A5 <| scope_r ?_
 refine post_retM rfl (.one one_48 (Ay rfl <| Ap rfl <| Ac) (Cell.own 0 rfl rfl) .nil) (.cons (.next <| .here) <| .nil) rfl ?_
 exact ⟨es2, rfl, hK2, ⟨ps, hsp, hpa, hps⟩⟩
end Go.Proofs.Ytaikojfonleccaa
namespace Go.Proofs.Ytaikojfonleccaa
theorem cmpL_refl : ∀ a : List Nat, cmpL a a = 0
 | [] => rfl
 | a :: as1 => by rw [cmpL_same]; exact cmpL_refl as1
theorem cmpL_neg : ∀ a b : List Nat, cmpL b a = - cmpL a b
 | [], [] => rfl
 | [], _ :: _ => rfl
 | _ :: _, [] => rfl
 | x :: xs, y :: ys => by
   unfold cmpL
   by_cases h1 : x < y
   · rw [if_neg (by omega), if_pos h1, if_pos h1]; rfl
   · by_cases h2 : y < x
     · rw [if_pos h2, if_neg h1, if_pos h2]
     · rw [if_neg h2, if_neg h1, if_neg h1, if_neg h2]; exact cmpL_neg xs ys
theorem cmpL_trans : ∀ {a b c : List Nat}, cmpL a b ≤ 0 → cmpL b c ≤ 0 → cmpL a c ≤ 0
 | [], _, c, _, _ => by cases c <;> simp [cmpL]
 | _ :: _, [], _, h, _ => by simp [cmpL] at h
 | _ :: _, _ :: _, [], _, h => by simp [cmpL] at h
 | x :: xs, y :: ys, z :: zs, h1, h2 => by
   unfold cmpL at h1 h2 ⊢
   by_cases a1 : x < y
   · by_cases a2 : y < z
     · rw [if_pos (by omega)]; omega
     · rw [if_neg a2] at h2
       by_cases a3 : z < y
       · rw [if_pos a3] at h2; omega
       · rw [if_pos (by omega)]; omega
   · rw [if_neg a1] at h1
     by_cases a2 : y < x
     · rw [if_pos a2] at h1; omega
     · rw [if_neg a2] at h1
       obtain rfl : x = y := by omega
       by_cases a3 : x < z
       · rw [if_pos a3]; omega
       · rw [if_neg a3] at h2 ⊢
         by_cases a4 : z < x
         · rw [if_pos a4] at h2; omega
         · rw [if_neg a4] at h2 ⊢
           exact cmpL_trans h1 h2
theorem cmpL_total {a b : List Nat} (h : ¬ cmpL a b < 0) : cmpL b a ≤ 0 := by rw [cmpL_neg]; omega
def Asc (l : List Nat) : Prop := l.Pairwise (· < ·)
/-- All that go on from 'b' with requests from 'k', of which the first one is before 'm'. -/
def Deep (r : Room) (b : List Nat) (k m : Nat) (y : List Nat) : Prop := ∃ e, y = b ++ e ∧ Asc e ∧ (∀ i ∈ e, k ≤ i ∧ i < r.reqs.length) ∧ (e = [] ∨ canB r y = true) ∧ ∀ i ∈ e.head?, i < m
end Go.Proofs.Ytaikojfonleccaa
namespace Go.Proofs.Ytaikojfonleccaa
def Before (p p' : List Nat) : Prop := p.length < p'.length ∨ (p.length = p'.length ∧ cmpL p p' ≤ 0)
end Go.Proofs.Ytaikojfonleccaa
namespace Go.Proofs.Ytaikojfonleccaa
open Go
def ent (l : List Ent) (i : Nat) : Ent := l[i]?.getD ⟨0, false, 0, 0⟩
theorem ent_at {l : List Ent} {i : Nat} (h : i < l.length) : l[i] = ent l i := by simp [ent, h]
def badB (s : Sale) (l : List Ent) (ring : List Nat) (i : Nat) : Bool := !(rightE (ent l i) (entRes s (ent l i) ring))
def badL (s : Sale) (l : List Ent) (ring : List Nat) : List Nat := selTo (badB s l ring) l.length
def badMask (s : Sale) (l : List Ent) (ring : List Nat) : Nat → Nat
 | 0 => 0
 | k + 1 => if badB s l ring k = true then badMask s l ring k ||| 2 ^ k else badMask s l ring k
theorem badMask_bit {s : Sale} {l : List Ent} {ring : List Nat} : ∀ (k t : Nat), (badMask s l ring k).testBit t = (decide (t < k) && badB s l ring t)
 | 0, t => by simp [badMask]
 | k + 1, t => by
   unfold badMask
   by_cases h : badB s l ring k = true
   · rw [if_pos h, Nat.testBit_or, Nat.testBit_two_pow, badMask_bit k t]
     by_cases hk : k = t
     · subst hk; simp [h]
     · have : decide (t < k + 1) = decide (t < k) := by congr 1; rw [eq_iff_iff]; omega
       simp [hk, this]
   · rw [if_neg h, badMask_bit k t]
     by_cases hk : k = t
     · subst hk; simp [h]
     · have : decide (t < k + 1) = decide (t < k) := by congr 1; rw [eq_iff_iff]; omega
       rw [this]
theorem badMask_lt {s : Sale} {l : List Ent} {ring : List Nat} : ∀ {k : Nat}, k ≤ 6 → badMask s l ring k < 64
 | 0, _ => by simp [badMask]
 | k + 1, h => by
   unfold badMask
   have ih := badMask_lt (s := s) (l := l) (ring := ring) (k := k) (by omega)
   split
   · exact mask_lt ih (by omega)
   · exact ih
theorem bits_bad {s : Sale} {l : List Ent} {ring : List Nat} (hl : l.length ≤ 6) : bitsL (badMask s l ring l.length) = badL s l ring := by
 unfold bitsL badL selTo
 rw [List.range_eq_range', show 8 = l.length + (8 - l.length) by omega, ← List.range'_append_1, List.filter_append, ← List.range_eq_range']
 have h1 : (List.range' (0 + l.length) (8 - l.length)).filter (fun i => (badMask s l ring l.length).testBit i) = [] := by
   rw [List.filter_eq_nil_iff]
   intro i hi
   have := (List.mem_range'_1.1 hi).1
   rw [badMask_bit]; simp; omega
 rw [h1, List.append_nil]
 apply List.filter_congr
 intro i hi
 have hi : i < l.length := by simpa using hi
 rw [badMask_bit]; simp [hi]
/-- By rings: the fewest that are wrong with one. -/
def wrongStep (s : Sale) (l : List Ent) (w : Option (List Nat)) (x : List Nat) : Option (List Nat) := match w with
 | none => some (badL s l x)
 | some m => if (badL s l x).length < m.length ∨ (badL s l x).length = m.length ∧ cmpL (badL s l x) m < 0 then some (badL s l x) else some m
def wrongTo (s : Sale) (l : List Ent) (xs : List (List Nat)) : Option (List Nat) := xs.foldl (wrongStep s l) none
theorem Ej {s : Sale} {l : List Ent} {xs : List (List Nat)} {x : List Nat} : wrongTo s l (xs ++ [x]) = wrongStep s l (wrongTo s l xs) x := by unfold wrongTo; rw [List.foldl_append]; rfl
theorem wrongStep_new {s : Sale} {l : List Ent} {x m : List Nat} (h : (badL s l x).length < m.length ∨ (badL s l x).length = m.length ∧ cmpL (badL s l x) m < 0) : wrongStep s l (some m) x = some (badL s l x) := if_pos h
theorem wrongStep_old {s : Sale} {l : List Ent} {x m : List Nat} (h : ¬ ((badL s l x).length < m.length ∨ (badL s l x).length = m.length ∧ cmpL (badL s l x) m < 0)) : wrongStep s l (some m) x = some m := if_neg h
def wrongP (s : Sale) (l : List Ent) : List Nat := (wrongTo s l (everyR s.bidders.length)).getD []
theorem wrongTo_spec {s : Sale} {l : List Ent} : ∀ (n : Nat) (xs : List (List Nat)), xs.length = n → (xs = [] ∧ wrongTo s l xs = none) ∨ ∃ x ∈ xs, wrongTo s l xs = some (badL s l x) ∧ ∀ y ∈ xs, Before (badL s l x) (badL s l y)
 | 0, xs, h => by
   have : xs = [] := List.eq_nil_of_length_eq_zero h
   subst this; exact .inl ⟨rfl, rfl⟩
 | n + 1, xs, h => by
   right
   obtain ⟨ys, z, rfl⟩ : ∃ ys z, xs = ys ++ [z] := ⟨xs.dropLast, xs.getLast (by intro e; subst e; simp at h), (List.dropLast_concat_getLast _).symm⟩
   have hn : ys.length = n := by simpa using h
   rw [Ej]
   have hself : Before (badL s l z) (badL s l z) := .inr ⟨rfl, by rw [cmpL_refl]; omega⟩
   rcases wrongTo_spec n ys hn with ⟨rfl, h1⟩ | ⟨x, hx, h1, h2⟩
   · rw [h1]
     exact ⟨z, by simp, rfl, fun y hy => by simp at hy; subst hy; exact hself⟩
   · rw [h1]
     by_cases hc : (badL s l z).length < (badL s l x).length ∨ (badL s l z).length = (badL s l x).length ∧ cmpL (badL s l z) (badL s l x) < 0
     · rw [wrongStep_new hc]
       refine ⟨z, by simp, rfl, fun y hy => ?_⟩
       rcases List.mem_append.1 hy with hy | hy
       · have := h2 y hy
         unfold Before at this ⊢
         rcases this with h3 | ⟨h3, h4⟩
         · left; omega
         · rcases hc with hc | ⟨hc1, hc2⟩
           · left; omega
           · right; exact ⟨by omega, cmpL_trans (by omega) h4⟩
       · simp at hy; subst hy; exact hself
     · rw [wrongStep_old hc]
       refine ⟨x, by simp [hx], rfl, fun y hy => ?_⟩
       rcases List.mem_append.1 hy with hy | hy
       · exact h2 y hy
       · simp at hy; subst hy
         unfold Before
         by_cases h3 : (badL s l x).length = (badL s l y).length
         · right; exact ⟨h3, cmpL_total fun h4 => hc (.inr ⟨h3.symm, h4⟩)⟩
         · left; omega
def wrongE (s : Sale) (l : List Ent) : List Nat × Int := if askedE s l ≠ 0 then ([], askedE s l) else (wrongP s l, 0)
theorem wrongE_bad {s : Sale} {l : List Ent} {e : Int} (h : askedE s l = e) (he : e ≠ 0) : wrongE s l = ([], e) := by subst h; exact if_pos he
theorem wrongE_ok {s : Sale} {l : List Ent} (h : askedE s l = 0) : wrongE s l = (wrongP s l, 0) := if_neg (fun k => k h)
def NatsR (F : Heap) (u : Value) (p : List Nat × Int) : Prop := ∃ v, u = .tuple #[v, .int .i64 p.2] ∧ Nats F v p.1
theorem NatsR.mono {F F' : Heap} {u : Value} {p : List Nat × Int} (h : NatsR F u p) (hF : F.le F') : NatsR F' u p := by obtain ⟨v, h1, h2⟩ := h; exact ⟨v, h1, h2.mono hF⟩
end Go.Proofs.Ytaikojfonleccaa
namespace Go.Proofs.Ytaikojfonleccaa
open Go.RowKit
theorem bd_28 : Body Try.prog 28 := Br (by kernel_rfl)
theorem bd_77 : Body Try.prog 77 := Br (by kernel_rfl)
theorem bd_78 : Body Try.prog 78 := Br (by kernel_rfl)
theorem bd_82 : Body Try.prog 82 := Br (by kernel_rfl)
theorem ringsE_asked {s : Sale} {l : List Ent} (h : (ringsE s l).2 = 0) : askedE s l = 0 := by
 by_cases h0 : askedE s l = 0
 · exact h0
 · rw [ringsE_bad rfl h0] at h; exact h
set_option maxRecDepth 100000 in
theorem rings_top_ok {F : Heap} {vs vb vl vn vd : Value} {s : Sale} (hr : SaleR F vs vb vl vn vd s) {ve : Value} {l : List Ent} (he : Sl F ve 4 Ent.enc l) : Ok Try.prog 28 [.agg #[vs, .int .i64 s.premium, .int .i64 s.fee, .int .i64 s.days, vb, vl, vn, vd], ve].toArray F fun u F' => LstsR F' u (ringsE s l) := by
 refine Ok.intro Try.func28 rfl Try.ntmps28 rfl fun w0 => ?_
 by_cases hok : askedE s l = 0
 ·
  have hv := Co (askedE_ok hok).1
  have hcat := (askedE_ok hok).2
  refine Af <| Ai fun ds => Bl rfl (Cc (Ak rfl) rfl fun b1 hb1 nb1 => ?_)
  refine Aa rfl (Ae Ab) ?_
  refine Aa rfl (Ae Ab) ?_
  refine Ah <| Ad <| Af <| Ai fun ds => Aa rfl (Bg Cd (Ap rfl <| Ac) rfl rfl (Bm 0 rfl)) ?_
  refine Aa rfl (Ag (Ay rfl <| Ak rfl)) ?_
  refine Bl rfl (x_callN bd_77 Az (.cons (Al rfl <| Ac) (.cons (Ac) .nil)) (catalogue_ok hr he hok) fun v2 F3 R6 hr4 hF5 => ?_)
  replace he := he.mono hF5
  obtain ⟨ba, kb, rfl, hX, rfl⟩ := hr4
  refine Aa rfl (Ag (Ac)) ?_
  refine Aa rfl (A1 (Ac) rfl) ?_
  refine Aa rfl (A1 (Al rfl <| Ac) rfl) ?_
  refine Aa rfl (Ae (Al rfl <| Ac)) ?_
  refine Aa rfl (Ae (Al rfl <| Ac)) ?_
  refine Ah <| Ad <| Af <| Af <| Ai fun ds => Aa rfl (Ag (Ac)) ?_
  refine Aa rfl (B5 (Ac) Ab) ?_
  refine Ah <| Ad <| Am (Ac) (by decide) ?_
  by_cases hf : fitS s l [] = []
  ·
   refine Ax <| Ad <| Af <| Ai fun ds => Aa rfl (Ag (Ap rfl <| Al rfl <| Ac)) ?_
   refine Aa rfl (Ag (Ba rfl <| Ay rfl <| Ap rfl <| Ak rfl)) ?_
   refine WL_order (.cons (.next <| .here) <| .cons (.here) <| .nil) ?_
   refine Bl rfl (x_callM bd_78 Az (.cons (Al rfl <| Ac) (.cons (Ac) .nil)) rfl (fit_ok hX hv he hcat KnownC.nil) fun v11 F12 H15 hr13 hF14 => ?_)
   obtain ⟨es2, rfl, hK2, ps, hsp, hpa, hps⟩ := hr13
   refine Aa rfl (Ae (Ac)) ?_
   refine Ah <| Ad <| Af <| Af <| Ai fun ds => Aa rfl (Ag (Ac)) ?_
   refine Aa rfl (Bf Ey (Ac) hsp.plain) ?_
   refine Aa rfl (B9 (Ac) Ab) ?_
   refine Ah <| Ad <| Ar (Ac) (decide_eq_true (by have h9 := congrArg List.length hps; rw [List.length_map, hf] at h9; simp at h9; rw [h9]; rfl)) ?_
   refine Af <| Ai fun ds => Aa rfl (Ae Ab) ?_
   refine Aa rfl (Ae Ab) ?_
   refine Ah <| Ad <| A5 <| A7 ?_
   refine Aw rfl (.tmp (Al rfl <| Ac) (.tmp (Ac) .nil)) ?_
   rw [ringsE_none hok hf]
   exact ⟨_, rfl, [], Sl.nil, (fun p hp => nomatch hp), rfl⟩
  ·
   refine Ax <| Ad <| Af <| Ai fun ds => Aa rfl (Ag (Ap rfl <| Al rfl <| Ac)) ?_
   refine Aa rfl (Ag (Ba rfl <| Ay rfl <| Ap rfl <| Ak rfl)) ?_
   refine WL_order (.cons (.next <| .here) <| .cons (.here) <| .nil) ?_
   refine Bl rfl (x_callM bd_78 Az (.cons (Al rfl <| Ac) (.cons (Ac) .nil)) rfl (fit_ok hX hv he hcat KnownC.nil) fun v20 F21 H24 hr22 hF23 => ?_)
   obtain ⟨es2, rfl, hK2, ps, hsp, hpa, hps⟩ := hr22
   refine Aa rfl (Ae (Ac)) ?_
   refine Ah <| Ad <| Af <| Af <| Ai fun ds => Aa rfl (Ag (Ac)) ?_
   refine Aa rfl (Bf Ey (Ac) hsp.plain) ?_
   refine Aa rfl (B9 (Ac) Ab) ?_
   refine Ah <| Ad <| Am (Ac) (decide_eq_false (fun h => hf (by rw [← hps]; have h8 : ps = [] := List.eq_nil_of_length_eq_zero (by omega); rw [h8]; rfl))) ?_
   refine Ax <| Ad <| Af <| Ai fun ds => Aa rfl (Ag (Ap rfl <| Al rfl <| Ac)) ?_
   refine Aa rfl (Ae (Ac)) ?_
   refine Aa rfl (Ae Ab) ?_
   refine Ah <| Ad <| A5 <| Aw rfl (.tmp (Al rfl <| Ac) (.tmp (Ac) .nil)) ?_
   rw [ringsE_ok hok hf]
   exact ⟨_, rfl, ps, hsp, hpa, hps⟩
 ·
  refine Af <| Ai fun ds => Bl rfl (Cc (Ak rfl) rfl fun b25 hb25 nb25 => ?_)
  refine Aa rfl (Ae Ab) ?_
  refine Aa rfl (Ae Ab) ?_
  refine Ah <| Ad <| Af <| Ai fun ds => Aa rfl (Bg Cd (Ap rfl <| Ac) rfl rfl (Bm 0 rfl)) ?_
  refine Aa rfl (Ag (Ay rfl <| Ak rfl)) ?_
  refine Bl rfl (Cz bd_77 Az (.cons (Al rfl <| Ac) (.cons (Ac) .nil)) (catalogue_bad hr he hok) fun v26 F27 hr28 hF29 => ?_)
  obtain ⟨va, hva1, rfl⟩ := hr28
  refine Aa rfl (Ag (Ac)) ?_
  refine Aa rfl (A1 (Ac) rfl) ?_
  refine Aa rfl (A1 (Al rfl <| Ac) rfl) ?_
  refine Aa rfl (Ae (Al rfl <| Ac)) ?_
  refine Aa rfl (Ae (Al rfl <| Ac)) ?_
  refine Ah <| Ad <| Af <| Af <| Ai fun ds => Aa rfl (Ag (Ac)) ?_
  refine Aa rfl (B5 (Ac) Ab) ?_
  refine Ah <| Ad <| Ar (Ac) (decide_eq_true hok) ?_
  refine Af <| Ai fun ds => Aa rfl (Ag (Ap rfl <| Ac)) ?_
  refine Aa rfl (Ae Ab) ?_
  refine Aa rfl (Ae (Al rfl <| Ac)) ?_
  refine Ah <| Ad <| A5 <| A7 ?_
  refine Aw rfl (.tmp (Al rfl <| Ac) (.tmp (Ac) .nil)) ?_
  rw [ringsE_bad rfl hok]
  exact ⟨_, rfl, [], Sl.nil, (fun p hp => nomatch hp), rfl⟩
set_option maxRecDepth 100000 in
theorem members_ok {F : Heap} {vs vb vl vn vd : Value} {s : Sale} (hr : SaleR F vs vb vl vn vd s) {ve : Value} {l : List Ent} (he : Sl F ve 4 Ent.enc l) : Ok Try.prog 31 [.agg #[vs, .int .i64 s.premium, .int .i64 s.fee, .int .i64 s.days, vb, vl, vn, vd], ve].toArray F fun u F' => MemR F' u (membersE s l) := by
 refine Ok.intro Try.func31 rfl Try.ntmps31 rfl fun w0 => ?_
 have hL2 := hr.bidders.plain.lt
 by_cases h0 : (ringsE s l).2 = 0
 ·
  refine Af <| Ai fun ds => Bl rfl (Cc (Ak rfl) rfl fun b1 hb1 nb1 => ?_)
  refine Aa rfl (Ae Ab) ?_
  refine Aa rfl (Ae Ab) ?_
  refine Aa rfl (Ae Ab) ?_
  refine Ah <| Ad <| Af <| Ai fun ds => Aa rfl (Bg Cd (Ap rfl <| Al rfl <| Ac) rfl rfl (Bm 0 rfl)) ?_
  refine Aa rfl (Ag (Ay rfl <| Al rfl <| Ak rfl)) ?_
  refine Bl rfl (Cz bd_28 Az (.cons (Al rfl <| Ac) (.cons (Ac) .nil)) (rings_top_ok hr he) fun v2 F3 hr4 hF5 => ?_)
  replace hr := hr.mono hF5
  obtain ⟨vq, rfl, qs, hqs, hqa, hqm⟩ := hr4
  replace hqa : AllN _ qs := hqa
  refine Aa rfl (Ag (Ac)) ?_
  refine Aa rfl (A1 (Ac) rfl) ?_
  refine Aa rfl (A1 (Al rfl <| Ac) rfl) ?_
  refine Aa rfl (Ae (Al rfl <| Ac)) ?_
  refine Aa rfl (Ae (Al rfl <| Ac)) ?_
  refine Ah <| Ad <| Af <| Af <| Ai fun ds => Aa rfl (Ag (Ac)) ?_
  refine Aa rfl (B5 (Ac) Ab) ?_
  refine Ah <| Ad <| Am (Ac) (decide_eq_false (fun h => h h0)) ?_
  have hqpl := hqs.plain.lt
  have hnb := (Co (askedE_ok (ringsE_asked h0)).1).nb
  refine Ax <| Ad <| Af <| Af <| Ai fun ds => Aa rfl (Aj C7 (Ba rfl <| Ay rfl <| Al rfl <| Ac)) ?_
  refine Aa rfl (Aq Cx (Ac) (Cell.own 0 rfl rfl)) ?_
  refine Aa rfl (Bf Cr (Ac) hr.bidders.plain) ?_
  refine Aa rfl (Ag Ab) ?_
  refine Ah <| Ad <| A4 <| B4 [4, 5, 8, 9, 11, 24, 25, 26, 27, 28, 29, 30, 31, 32, 33, 34, 35, 36, 37, 38, 39, 40, 41, 42, 43, 44, 45, 46, 47, 48, 49, 50, 51, 52, 53] (fun m e σ => ∃ b : Nat, m + b = s.bidders.length ∧ e 24 = .int .i64 (b : Int) ∧ ∃ v4 v5 R4 R5, e 4 = v4 ∧ e 5 = v5 ∧ Own 3 1 v4 (selTo (mustB (ringsE s l).1) b).length ((selTo (mustB (ringsE s l).1) b).flatMap natE) R4 ∧ Own 3 1 v5 (selTo (mayB (ringsE s l).1) b).length ((selTo (mayB (ringsE s l).1) b).flatMap natE) R5 ∧ σ = ⟨F3, (b1, bx 27 [vs, .int .i64 s.premium, .int .i64 s.fee, .int .i64 s.days, vb, vl, vn, vd]) :: (R4 ++ R5)⟩) (s.bidders.length) ?_ ?_
  · exact ⟨0, by omega, (Ac), _, _, [], [], (Bb rfl <| Ac), (Ba rfl <| Ay rfl <| Ap rfl <| Al rfl <| Ac), Own.nil, Own.nil, rfl⟩
  ·
   rintro m e _ ⟨b, hm9, hs24, v4, v5, R4, R5, hs4, hs5, ho4, ho5, rfl⟩; have hl4 := selTo_length (p := mustB (ringsE s l).1) (k := b); have hl5 := selTo_length (p := mayB (ringsE s l).1) (k := b)
   by_cases hlt : b < s.bidders.length
   ·
    refine Af <| Ai fun ds => Aa rfl (B0 (Au rfl hs24) (Ao rfl <| Al rfl <| Ac)) ?_
    refine Ah <| Ad <| Af <| Ar (Ac) (by first | rfl | exact decide_eq_true (by omega)) ?_
    refine Ax <| Ad <| Af <| A4 <| Af <| Ai fun ds => Aa rfl (Ag (Al rfl <| Au rfl hs24)) ?_
    refine Aa rfl (Ae (Ac)) ?_
    refine Ah <| Ad <| Af <| Ai fun ds => Aa rfl (Ae Ab) ?_
    refine Ah <| Ad <| Af <| Af <| Ai fun ds => Aa rfl (Ag (Ay rfl <| Ao rfl <| Ay rfl <| Ap rfl <| Al rfl <| Ac)) ?_
    refine Aa rfl (Bf Ey (Ac) hqs.plain) ?_
    refine Aa rfl (Ag Ab) ?_
    refine Ah <| Ad <| A4 <| B4 [9, 11, 29, 30, 31, 32, 33, 34, 35, 36, 37, 38] (fun m e σ => ∃ k : Nat, m + k = qs.length ∧ e 29 = .int .i64 (k : Int) ∧ e 9 = .int .i64 (manyTo (ringsE s l).1 b k) ∧ σ = ⟨F3, (b1, bx 27 [vs, .int .i64 s.premium, .int .i64 s.fee, .int .i64 s.days, vb, vl, vn, vd]) :: (R4 ++ R5)⟩) (qs.length) ?_ ?_
    · exact ⟨0, by omega, (Ac), (Ap rfl <| Al rfl <| Ac), rfl⟩
    ·
     rintro m2 e2 _ ⟨k, hm2, ht29, ht9, rfl⟩
     by_cases hlk : k < qs.length
     ·
      have hql := hqa _ (List.getElem_mem hlk)
      have hka : k < (ringsE s l).1.length := by rw [← hqm]; simpa using hlk
      have hqk : (ringsE s l).1[k] = qs[k].2 := by simp [← hqm]
      have hmb := manyTo_bound (all := (ringsE s l).1) (b := b) (k := k)
      have hqL0 : (ringsE s l).1.length = qs.length := by rw [← hqm, List.length_map]
      refine Af <| Ai fun ds => Aa rfl (B0 (Au rfl ht29) (Ao rfl <| Al rfl <| Ac)) ?_
      refine Ah <| Ad <| Af <| Ar (Ac) (by first | rfl | exact decide_eq_true (by omega)) ?_
      by_cases hm : b ∈ qs[k].2
      ·
       refine Ax <| Ad <| Af <| A4 <| Af <| Ai fun ds => Aa rfl (Be  Ey (Al rfl <| Ao rfl <| Ap rfl <| Ac) hqs.plain (Al rfl <| Au rfl ht29) rfl hlk) ?_
       refine Aa rfl (Aq one_28 (Ac) (hqs.cell1 hlk rfl)) ?_
       refine Aa rfl (Ae (Ac)) ?_
       refine Ah <| Ad <| Af <| Ai fun ds => Aa rfl (Ag (Ac)) ?_
       refine Aa rfl (Ag (Ay rfl <| Al rfl <| Ao rfl <| Ay rfl <| Ac)) ?_
       refine Bv rfl (A9 bd_82 Az (.cons (Al rfl <| Ac) (.cons (Ac) .nil)) (contains_nat hql b) (fun _ _ h => h)) ?_
       refine Ah <| Ad <| Ar (Ac) (decide_eq_true hm) ?_
       refine Ai fun ds => Aa rfl (Ag (Ay rfl <| Ap rfl <| Al rfl <| Au rfl ht9)) ?_
       refine Aa rfl (B3 (Ac) Ab rfl (by omega) (by omega)) ?_
       refine Aa rfl (Ae (Ac)) ?_
       refine Ah <| Bh <| Ad <| Ai fun ds => Aa rfl (B3 (Ba rfl <| Ap rfl <| Au rfl ht29) Ab rfl (by omega) (by omega)) ?_
       refine Aa rfl (Ag (Ac)) ?_
       refine Ah <| Ad ⟨_, m2 - 1, Off.eq (Ei rfl <| ou4 rfl <| Bj), by omega, ?_⟩
       exact ⟨k + 1, by omega, (Ac), by rw [manyTo_succ hka, if_pos (by rw [hqk]; exact hm)]; exact (Ap rfl <| Ac), rfl⟩
      ·
       refine Ax <| Ad <| Af <| A4 <| Af <| Ai fun ds => Aa rfl (Be  Ey (Al rfl <| Ao rfl <| Ap rfl <| Ac) hqs.plain (Al rfl <| Au rfl ht29) rfl hlk) ?_
       refine Aa rfl (Aq one_28 (Ac) (hqs.cell1 hlk rfl)) ?_
       refine Aa rfl (Ae (Ac)) ?_
       refine Ah <| Ad <| Af <| Ai fun ds => Aa rfl (Ag (Ac)) ?_
       refine Aa rfl (Ag (Ay rfl <| Al rfl <| Ao rfl <| Ay rfl <| Ac)) ?_
       refine Bv rfl (A9 bd_82 Az (.cons (Al rfl <| Ac) (.cons (Ac) .nil)) (contains_nat hql b) (fun _ _ h => h)) ?_
       refine Ah <| Ad <| Am (Ac) (decide_eq_false hm) ?_
       refine Ax <| Bh <| Ad <| Ai fun ds => Aa rfl (B3 (Ay rfl <| Ap rfl <| Al rfl <| Au rfl ht29) Ab rfl (by omega) (by omega)) ?_
       refine Aa rfl (Ag (Ac)) ?_
       refine Ah <| Ad ⟨_, m2 - 1, Off.eq (Ei rfl <| Eu rfl <| Bj), by omega, ?_⟩
       exact ⟨k + 1, by omega, (Ac), by rw [manyTo_succ hka, if_neg (by rw [hqk]; exact hm)]; exact (Ba rfl <| Al rfl <| Au rfl ht9), rfl⟩
     ·
      refine Af <| Ai fun ds => Aa rfl (B0 (Au rfl ht29) (Ao rfl <| Al rfl <| Ac)) ?_
      refine Ah <| Ad <| Af <| Am (Ac) (by first | rfl | exact decide_eq_false (by omega)) ?_
      obtain rfl : k = qs.length := by omega
      have hqn : manyTo (ringsE s l).1 b qs.length = manyOf (ringsE s l).1 b := by unfold manyOf; rw [← hqm, List.length_map]
      have hqL : (qs.length : Int) = ((ringsE s l).1.length : Int) := by rw [← hqm, List.length_map]
      by_cases hmu : mustB (ringsE s l).1 b = true
      ·
       refine Bx ?_
       refine Bk <| Bk <| Bn <| Ad <| Af <| Af <| Ai fun ds => Aa rfl (Ag (Al rfl <| Au rfl ht9)) ?_
       refine Aa rfl (Ag (Ap rfl <| Ao rfl <| Ay rfl <| Ap rfl <| Al rfl <| Ao rfl <| Ay rfl <| Ap rfl <| Al rfl <| Ac)) ?_
       refine Aa rfl (Bf Ey (Ac) hqs.plain) ?_
       refine Aa rfl (B9 (Ap rfl <| Ac) (Ac)) ?_
       refine Ah <| Ad <| Ar (Ac) (by rw [hqn, hqL]; exact hmu) ?_
       by_cases hma : mayB (ringsE s l).1 b = true
       ·
        refine Ai fun ds => Aa rfl (Ag (Ay rfl <| Al rfl <| Ao rfl <| Ay rfl <| Ap rfl <| Al rfl <| Au rfl hs4)) ?_
        refine Aa rfl (Ag (Ay rfl <| Ap rfl <| Ao rfl <| Ay rfl <| Ac)) ?_
        refine Bl rfl (Bz Bs C3 rfl (.cons (Ac) .nil) rfl rfl (by decide) (by simp [Value.oneCell']) fun b8 hb8 nb8 => ?_)
        refine Bl rfl (Dg Bs el_3 (Ap rfl <| Ac) ho4 (Ac) (Ea (s := 1) 0 rfl rfl (by simp [Value.oneCell'])) (by omega) (by omega) (.s <| .s <| .z) .more fun v9 R10 ho11 => ?_)
        have ho4b := ho11.snoc (x := b) rfl rfl
        refine Aa rfl (Ae (Ac)) ?_
        refine Ah <| Ad <| Af <| Ai fun ds => Aa rfl (Ag (Ba rfl <| Ap rfl <| Au rfl ht9)) ?_
        refine Aa rfl (Cl (Ac) Ab) ?_
        refine Ah <| Ad <| Ar (Ac) (by rw [hqn]; exact hma) ?_
        refine Ai fun ds => Aa rfl (Ag (Ba rfl <| Ay rfl <| Ao rfl <| Ay rfl <| Ap rfl <| Al rfl <| Au rfl hs5)) ?_
        refine Aa rfl (Ag (Ba rfl <| Ay rfl <| Al rfl <| Ao rfl <| Ay rfl <| Ac)) ?_
        refine Bl rfl (Bz Bs C3 rfl (.cons (Ac) .nil) rfl rfl (by decide) (by simp [Value.oneCell']) fun b12 hb12 nb12 => ?_)
        refine Bl rfl (Dg Bs el_3 (Ap rfl <| Ac) ho5 (Ac) (Ea (s := 1) 0 rfl rfl (by simp [Value.oneCell'])) (by omega) (by omega) (.s <| .s <| .s <| .k <| .z) .last fun v13 R14 ho15 => ?_)
        have ho5b := ho15.snoc (x := b) rfl rfl
        refine Aa rfl (Ae (Ac)) ?_
        refine Ah <| Bh <| Ad <| Ct (fun _ _ h => h.drop (.cons _ <| .cons _ <| .cons_cons _ <| .refl _)) ?_
        refine Ai fun ds => Aa rfl (B3 (Bb rfl <| Al rfl <| Ao rfl <| Ay rfl <| Ap rfl <| Al rfl <| Au rfl hs24) Ab rfl (by omega) (by omega)) ?_
        refine Aa rfl (Ag (Ac)) ?_
        refine Ah <| Ad ⟨_, m - 1, Off.eq (C5 rfl <| Et rfl <| Eu rfl <| off_in rfl <| ou4 rfl <| Et rfl <| Eu rfl <| Bj), by omega, ?_⟩
        exact ⟨b + 1, by omega, (Ac), _, _, _, _, (Ba rfl <| Al rfl <| Ac), (Ap rfl <| Ac), by rw [Ed, if_pos hmu]; exact ho4b, by rw [Ed, if_pos hma]; exact ho5b, rfl⟩
       ·
        replace hma : mayB (ringsE s l).1 b = false := by simpa using hma
        refine Ai fun ds => Aa rfl (Ag (Ay rfl <| Al rfl <| Ao rfl <| Ay rfl <| Ap rfl <| Al rfl <| Au rfl hs4)) ?_
        refine Aa rfl (Ag (Ay rfl <| Ap rfl <| Ao rfl <| Ay rfl <| Ac)) ?_
        refine Bl rfl (Bz Bs C3 rfl (.cons (Ac) .nil) rfl rfl (by decide) (by simp [Value.oneCell']) fun b16 hb16 nb16 => ?_)
        refine Bl rfl (Dg Bs el_3 (Ap rfl <| Ac) ho4 (Ac) (Ea (s := 1) 0 rfl rfl (by simp [Value.oneCell'])) (by omega) (by omega) (.s <| .s <| .z) .more fun v17 R18 ho19 => ?_)
        have ho4b := ho19.snoc (x := b) rfl rfl
        refine Aa rfl (Ae (Ac)) ?_
        refine Ah <| Ad <| Af <| Ai fun ds => Aa rfl (Ag (Ba rfl <| Ap rfl <| Au rfl ht9)) ?_
        refine Aa rfl (Cl (Ac) Ab) ?_
        refine Ah <| Ad <| Am (Ac) (by rw [hqn]; exact hma) ?_
        refine Ax <| Bh <| Ad <| Ct (fun _ _ h => h.drop (.cons _ <| .cons_cons _ <| .refl _)) ?_
        refine Ai fun ds => Aa rfl (B3 (Ba rfl <| Ay rfl <| Ao rfl <| Ay rfl <| Ap rfl <| Al rfl <| Au rfl hs24) Ab rfl (by omega) (by omega)) ?_
        refine Aa rfl (Ag (Ac)) ?_
        refine Ah <| Ad ⟨_, m - 1, Off.eq (Ei rfl <| ou4 rfl <| Et rfl <| off_in rfl <| ou4 rfl <| Et rfl <| Eu rfl <| Bj), by omega, ?_⟩
        exact ⟨b + 1, by omega, (Ac), _, _, _, _, (Ay rfl <| Ac), (Ba rfl <| Ay rfl <| Ap rfl <| Ao rfl <| Ay rfl <| Ap rfl <| Al rfl <| Au rfl hs5), by rw [Ed, if_pos hmu]; exact ho4b, by rw [Ed, if_neg (by rw [hma]; decide)]; exact ho5, rfl⟩
      ·
       replace hmu : mustB (ringsE s l).1 b = false := by simpa using hmu
       refine Bx ?_
       refine Bk <| Bk <| Bn <| Ad <| Af <| Af <| Ai fun ds => Aa rfl (Ag (Al rfl <| Au rfl ht9)) ?_
       refine Aa rfl (Ag (Ap rfl <| Ao rfl <| Ay rfl <| Ap rfl <| Al rfl <| Ao rfl <| Ay rfl <| Ap rfl <| Al rfl <| Ac)) ?_
       refine Aa rfl (Bf Ey (Ac) hqs.plain) ?_
       refine Aa rfl (B9 (Ap rfl <| Ac) (Ac)) ?_
       refine Ah <| Ad <| Am (Ac) (by rw [hqn, hqL]; exact hmu) ?_
       by_cases hma : mayB (ringsE s l).1 b = true
       ·
        refine Ax <| Ad <| Af <| Ai fun ds => Aa rfl (Ag (Ay rfl <| Al rfl <| Au rfl ht9)) ?_
        refine Aa rfl (Cl (Ac) Ab) ?_
        refine Ah <| Ad <| Ar (Ac) (by rw [hqn]; exact hma) ?_
        refine Ai fun ds => Aa rfl (Ag (Ay rfl <| Ap rfl <| Al rfl <| Ao rfl <| Ay rfl <| Ap rfl <| Al rfl <| Au rfl hs5)) ?_
        refine Aa rfl (Ag (Ba rfl <| Ao rfl <| Ay rfl <| Ac)) ?_
        refine Bl rfl (Bz Bs C3 rfl (.cons (Ac) .nil) rfl rfl (by decide) (by simp [Value.oneCell']) fun b20 hb20 nb20 => ?_)
        refine Bl rfl (Dg Bs el_3 (Ap rfl <| Ac) ho5 (Ac) (Ea (s := 1) 0 rfl rfl (by simp [Value.oneCell'])) (by omega) (by omega) (.s <| .s <| .k <| .z) .last fun v21 R22 ho23 => ?_)
        have ho5b := ho23.snoc (x := b) rfl rfl
        refine Aa rfl (Ae (Ac)) ?_
        refine Ah <| Bh <| Ad <| Ct (fun _ _ h => h.drop (.cons _ <| .cons_cons _ <| .refl _)) ?_
        refine Ai fun ds => Aa rfl (B3 (Ba rfl <| Ay rfl <| Ao rfl <| Ay rfl <| Ap rfl <| Al rfl <| Au rfl hs24) Ab rfl (by omega) (by omega)) ?_
        refine Aa rfl (Ag (Ac)) ?_
        refine Ah <| Ad ⟨_, m - 1, Off.eq (Ei rfl <| ou4 rfl <| Et rfl <| off_in rfl <| ou4 rfl <| Et rfl <| Eu rfl <| Bj), by omega, ?_⟩
        exact ⟨b + 1, by omega, (Ac), _, _, _, _, (Ba rfl <| Ay rfl <| Ap rfl <| Ao rfl <| Ay rfl <| Ap rfl <| Al rfl <| Au rfl hs4), (Ap rfl <| Ac), by rw [Ed, if_neg (by rw [hmu]; decide)]; exact ho4, by rw [Ed, if_pos hma]; exact ho5b, rfl⟩
       ·
        replace hma : mayB (ringsE s l).1 b = false := by simpa using hma
        refine Ax <| Ad <| Af <| Ai fun ds => Aa rfl (Ag (Ay rfl <| Al rfl <| Au rfl ht9)) ?_
        refine Aa rfl (Cl (Ac) Ab) ?_
        refine Ah <| Ad <| Am (Ac) (by rw [hqn]; exact hma) ?_
        refine Ax <| Bh <| Ad <| Ai fun ds => Aa rfl (B3 (Ay rfl <| Ap rfl <| Al rfl <| Ao rfl <| Ay rfl <| Ap rfl <| Al rfl <| Au rfl hs24) Ab rfl (by omega) (by omega)) ?_
        refine Aa rfl (Ag (Ac)) ?_
        refine Ah <| Ad ⟨_, m - 1, Off.eq (Ei rfl <| Eu rfl <| off_in rfl <| ou4 rfl <| Et rfl <| Eu rfl <| Bj), by omega, ?_⟩
        exact ⟨b + 1, by omega, (Ac), _, _, _, _, (Ba rfl <| Al rfl <| Ao rfl <| Ay rfl <| Ap rfl <| Al rfl <| Au rfl hs4), (Ba rfl <| Al rfl <| Ao rfl <| Ay rfl <| Ap rfl <| Al rfl <| Au rfl hs5), by rw [Ed, if_neg (by rw [hmu]; decide)]; exact ho4, by rw [Ed, if_neg (by rw [hma]; decide)]; exact ho5, rfl⟩
   ·
    refine Af <| Ai fun ds => Aa rfl (B0 (Au rfl hs24) (Ao rfl <| Al rfl <| Ac)) ?_
    refine Ah <| Ad <| Af <| Am (Ac) (by first | rfl | exact decide_eq_false (by omega)) ?_
    obtain rfl : b = s.bidders.length := by omega
    refine WC_freezeR (σ := ⟨_, _⟩) (by rfl) ho4 (.s <| .z) .more fun F24 hF25 hz26 => ?_
    have hn4 := ho4.sl (fun _ => rfl) hz26 (by omega)
    refine WC_freezeR (σ := ⟨_, _⟩) (by rfl) ho5 (.s <| .z) .last fun F27 hF28 hz29 => ?_
    replace hn4 := hn4.mono hF28
    have hn5 := ho5.sl (fun _ => rfl) hz29 (by omega)
    refine Bx ?_
    refine Bk <| Bk <| Bn <| Ad <| Af <| Ai fun ds => Aa rfl (Ag (Al rfl <| Au rfl hs4)) ?_
    refine Aa rfl (Ag (Ap rfl <| Au rfl hs5)) ?_
    refine Aa rfl (Ae (Al rfl <| Ac)) ?_
    refine Aa rfl (Ae (Al rfl <| Ac)) ?_
    refine Aa rfl (Ae Ab) ?_
    refine Ah <| Ad <| A5 <| Aw rfl (.tmp (Ap rfl <| Ac) (.tmp (Al rfl <| Ac) (.tmp (Ac) .nil))) ?_
    rw [membersE_ok h0]
    exact ⟨_, _, rfl, hn4, hn5⟩
 ·
  refine Af <| Ai fun ds => Bl rfl (Cc (Ak rfl) rfl fun b30 hb30 nb30 => ?_)
  refine Aa rfl (Ae Ab) ?_
  refine Aa rfl (Ae Ab) ?_
  refine Aa rfl (Ae Ab) ?_
  refine Ah <| Ad <| Af <| Ai fun ds => Aa rfl (Bg Cd (Ap rfl <| Al rfl <| Ac) rfl rfl (Bm 0 rfl)) ?_
  refine Aa rfl (Ag (Ay rfl <| Al rfl <| Ak rfl)) ?_
  refine Bl rfl (Cz bd_28 Az (.cons (Al rfl <| Ac) (.cons (Ac) .nil)) (rings_top_ok hr he) fun v31 F32 hr33 hF34 => ?_)
  obtain ⟨vq, rfl, qs, hqs, hqa, hqm⟩ := hr33
  replace hqa : AllN _ qs := hqa
  refine Aa rfl (Ag (Ac)) ?_
  refine Aa rfl (A1 (Ac) rfl) ?_
  refine Aa rfl (A1 (Al rfl <| Ac) rfl) ?_
  refine Aa rfl (Ae (Al rfl <| Ac)) ?_
  refine Aa rfl (Ae (Al rfl <| Ac)) ?_
  refine Ah <| Ad <| Af <| Af <| Ai fun ds => Aa rfl (Ag (Ac)) ?_
  refine Aa rfl (B5 (Ac) Ab) ?_
  refine Ah <| Ad <| Ar (Ac) (decide_eq_true h0) ?_
  refine Af <| Ai fun ds => Aa rfl (Ag (Ap rfl <| Ac)) ?_
  refine Aa rfl (Ae Ab) ?_
  refine Aa rfl (Ae Ab) ?_
  refine Aa rfl (Ae (Ap rfl <| Ac)) ?_
  refine Ah <| Ad <| A5 <| A7 ?_
  refine Aw rfl (.tmp (Ap rfl <| Ac) (.tmp (Al rfl <| Ac) (.tmp (Ac) .nil))) ?_
  rw [membersE_bad h0]
  exact ⟨_, _, rfl, Sl.nil, Sl.nil⟩
end Go.Proofs.Ytaikojfonleccaa
namespace Go.Proofs.Ytaikojfonleccaa
open Go.RowKit
theorem zr_116 : ZeroT Try.prog 116 (.pointer none) := C4 (by kernel_rfl)
theorem zr_4 : ZeroT Try.prog 4 (.bool false) := C4 (by kernel_rfl)
theorem bd_85 : Body Try.prog 85 := Br (by kernel_rfl)
theorem bd_86 : Body Try.prog 86 := Br (by kernel_rfl)
theorem sz_116 : SizeT Try.prog 116 1 := C8 (by kernel_rfl)
theorem sz_28 : SizeT Try.prog 28 1 := C8 (by kernel_rfl)
theorem sz_4 : SizeT Try.prog 4 1 := C8 (by kernel_rfl)
def WrongC (G : Heap) (o : Option (List Nat)) (vw : Value) (fo : Bool) : Prop := o = none ∧ fo = false ∧ vw = .slice none 0 0 ∨ ∃ mm, o = some mm ∧ fo = true ∧ Nats G vw mm ∧ mm.length ≤ 8
theorem WrongC.mono {F F' : Heap} {o : Option (List Nat)} {vw : Value} {fo : Bool} (h : WrongC F o vw fo) (hF : F.le F') : WrongC F' o vw fo := by
 rcases h with h | ⟨mm, h1, h2, h3, h4⟩
 · exact .inl h
 · exact .inr ⟨mm, h1, h2, h3.mono hF, h4⟩
theorem WrongC.all {F : Heap} {s : Sale} {l : List Ent} {vw : Value} {fo : Bool} (h : WrongC F (wrongTo s l (everyR s.bidders.length)) vw fo) : Nats F vw (wrongP s l) := by
 rcases h with ⟨h1, -⟩ | ⟨mm, h1, -, h2, -⟩
 · rcases wrongTo_spec (s := s) (l := l) _ (everyR s.bidders.length) rfl with ⟨h, -⟩ | ⟨x, -, h, -⟩
   · exact absurd h (by simp [everyR])
   · rw [h] at h1; cases h1
 · unfold wrongP; rw [h1]; exact h2
set_option maxRecDepth 100000 in
theorem wrong_ok {F : Heap} {vs vb vl vn vd : Value} {s : Sale} (hr : SaleR F vs vb vl vn vd s) {ve : Value} {l : List Ent} (he : Sl F ve 4 Ent.enc l) : Ok Try.prog 33 [.agg #[vs, .int .i64 s.premium, .int .i64 s.fee, .int .i64 s.days, vb, vl, vn, vd], ve].toArray F fun u F' => NatsR F' u (wrongE s l) := by
 refine Ok.intro Try.func33 rfl Try.ntmps33 rfl fun w0 => ?_
 have hel := he.plain.lt
 by_cases hok : askedE s l = 0
 ·
  have hv := Co (askedE_ok hok).1
  have hcat := (askedE_ok hok).2
  have hnb := hv.nb
  have hl6 := ent_len hv hcat
  refine Af <| Ai fun ds => Bl rfl (Cc (Ak rfl) rfl fun b1 hb1 nb1 => ?_)
  refine Bl rfl (Cc (Al rfl <| Ak rfl) (Df he.plain.one) fun b2 hb2 nb2 => ?_)
  refine Bl rfl (B6 zr_28 rfl fun b3 hb3 nb3 => ?_)
  refine Aa rfl (Ae Ab) ?_
  refine Ah <| Ad <| Af <| Ai fun ds => Aa rfl (Bg Cd (Ap rfl <| Al rfl <| Ac) rfl rfl (Bm 2 rfl)) ?_
  refine Aa rfl (Aq one_47 (Ap rfl <| Al rfl <| Ac) (Cell.own 1 rfl rfl)) ?_
  refine Bl rfl (x_callN bd_77 Az (.cons (Al rfl <| Ac) (.cons (Ac) .nil)) (catalogue_ok hr he hok) fun v4 F5 R8 hr6 hF7 => ?_)
  replace he := he.mono hF7
  obtain ⟨ba, kb, rfl, hX, rfl⟩ := hr6
  refine Aa rfl (Ag (Ac)) ?_
  refine Aa rfl (A1 (Ac) rfl) ?_
  refine Aa rfl (A1 (Al rfl <| Ac) rfl) ?_
  refine Bl rfl (B6 zr_116 rfl fun b9 hb9 nb9 => ?_)
  refine Ck (C2 sz_116 (Ac) (Ap rfl <| Ac) (i := 0) rfl (.here) (by first | rfl | exact hva1) (.here) ?_)
  refine Aa rfl (Ae (Al rfl <| Ac)) ?_
  refine Ah <| Ad <| Af <| Af <| Ai fun ds => Aa rfl (Ag (Ac)) ?_
  refine Aa rfl (B5 (Ac) Ab) ?_
  refine Ah <| Ad <| Am (Ac) (by decide) ?_
  refine Ax <| Ad <| Af <| Ai fun ds => Bl rfl (B6 zr_4 rfl fun b10 hb10 nb10 => ?_)
  refine Ck (C2 sz_4 (Ac) Ab (i := 0) rfl (.here) rfl (.here) ?_)
  refine Ah <| Ad <| Af <| Af <| Cq (i := 3) rfl hb2 (.next <| .next <| .next <| .here) fun F11 hF12 hz3 => ?_
  replace he := he.mono hF12
  replace hX := hX.mono hF12
  refine Cq (i := 1) rfl hb9 (.next <| .here) fun F13 hF14 hz6 => ?_
  replace he := he.mono hF14
  replace hX := hX.mono hF14
  replace hz3 := hF14 _ _ hz3
  refine WC_pick (.cons (.here) <| .cons (.here) <| .cons (.next <| .here) <| .nil) ?_
  refine Ai fun ds => Aa rfl (Aq one_116 (Ay rfl <| Ac) (CellF.own hz6 rfl).cell) ?_
  refine Bl rfl (Cz bd_83 Az (.cons (Ac) .nil) (rings_ok hX hv) fun v15 F16 hr17 hF18 => ?_)
  replace he := he.mono hF18
  replace hX := hX.mono hF18
  replace hz3 := hF18 _ _ hz3
  replace hz6 := hF18 _ _ hz6
  obtain ⟨dz, rfl, hzd⟩ := hr17
  refine Ah <| Ad <| A4 <| WC_rangeG rfl (Ac) (bd_108) (rings1_iter hX hv hzd) (Heap.le_refl _) (fun pre G H => ∃ es2 vw fo, KnownC Try.prog 3 G es2 s ∧ WrongC G (wrongTo s l pre) vw fo ∧ H = (b10, bx 4 [.bool fo]) :: (b3, bx 28 [vw]) :: [(kb, mapO es2)]) (fun _ _ _ => False) (fun _ _ _ _ hF h => by obtain ⟨a1, a2, a3, a4, a5, a6⟩ := h; exact ⟨a1, a2, a3, a4.mono hF, a5.mono hF, a6⟩) (fun _ _ _ _ _ h => h) ⟨_, _, _, KnownC.nil, .inl ⟨rfl, rfl, rfl⟩, rfl⟩ (fun L D fn tm pre x rest G H1 vs hxs hle hJ hA => ?_) (fun _ _ _ _ h => h.elim) (fun F2 H1 hF2 hJ => ?_)
  ·
   replace he := he.mono hle
   replace hX := hX.mono hle
   replace hz3 := hle _ _ hz3
   replace hz6 := hle _ _ hz6
   obtain ⟨es2, vw, fo, hK2, hW, rfl⟩ := hJ
   obtain ⟨v9, set, rfl, hv9, hset, hsof⟩ := hA
   refine ⟨rfl, rfl, fun w1 => ?_⟩
   refine WC_eq (e' := (upd (upd _ 26 v9) 27 (.int .i64 (set : Int)))) rfl rfl ?_
   refine Cb (.inr (by kernel_rfl)) (fun _ _ h => h) fun ds => ?_
   refine Aa rfl (Ae (Ac)) ?_
   refine Ah <| Ad ⟨_, rfl, ?_⟩
   refine A4 <| Af <| Cb (.inr (by kernel_rfl)) (fun _ _ h => h) fun ds => ?_
   refine Aa rfl (Aq one_116 (Ba rfl <| Al rfl <| Ac) (CellF.own hz6 rfl).cell) ?_
   refine Aa rfl (Ag (Al rfl <| Ac)) ?_
   refine WL_order (.cons (.next <| .next <| .next <| .next <| .here) <| .cons (.here) <| .cons (.here) <| .cons (.here) <| .cons (.here) <| .nil) ?_
   refine Bl rfl (x_callM bd_70 Az (.cons (Al rfl <| Ac) (.cons (Ac) .nil)) rfl (sell_ok hX hv hK2 (set := set) hset) fun v23 F24 H27 hr25 hF26 => ?_)
   replace he := he.mono hF26
   replace hle := hle.mono hF26
   replace hW := hW.mono hF26
   replace hz3 := hF26 _ _ hz3
   obtain ⟨es3, rfl, hK3, hal⟩ := hr25
   rw [sellL_eq hv (fun b _ => hsof b)] at hal
   refine Aa rfl (Ae (Ac)) ?_
   refine Ah <| Ad <| Af <| Cb (.inr (by kernel_rfl)) (fun _ _ h => h) fun ds => ?_
   refine Aa rfl (Ae Ab) ?_
   refine Ah <| Ad <| Af <| Af <| WC_name (i := 1) rfl (fun _ => .next <| .here) fun oL hoL => ?_
   refine Cb (.inr (by kernel_rfl)) (fun _ _ h => h) fun ds => ?_
   refine Aa rfl (Aq one_47 (Bb rfl <| Ay rfl <| Ap rfl <| Al rfl <| Ac) (CellF.own hz3 rfl).cell) ?_
   refine Aa rfl (Bf sl_47 (Ac) he.plain) ?_
   refine Aa rfl (Ag Ab) ?_
   refine Ah <| Ad <| A4 <| B4 [11, 12, 13, 33, 34, 35, 36, 37, 38, 39, 40, 41, 42, 43, 44, 45, 46, 47, 48, 49, 50] (fun m e σ => ∃ k : Nat, m + k = l.length ∧ e 33 = .int .i64 (k : Int) ∧ e 11 = .int .i64 (badMask s l x k : Int) ∧ σ = ⟨F24, [(kb, mapO es3), (L, oL), (D, openO), (b10, bx 4 [.bool fo]), (b3, bx 28 [vw])]⟩) (l.length) ?_ ?_
   · exact ⟨0, by omega, (Ac), (Ap rfl <| Al rfl <| Ac), rfl⟩
   ·
    rintro m e _ ⟨k, hm, hs33, hs11, rfl⟩
    by_cases hlt : k < l.length
    ·
     obtain ⟨n, hn, hnl⟩ := ent_lot hcat hlt
     have hn2 : n < (allS s (castL x)).length := by rw [D3]; exact hnl
     have hres : (allS s (castL x))[n] = entRes s l[k] x := by rw [En]; unfold entRes; rw [hn]; rfl
     have hbb : badB s l x k = !(rightE l[k] (entRes s l[k] x)) := by unfold badB; rw [← ent_at hlt]
     have hkp := pow_lt (show k < 6 by omega)
     have hml6 := badMask_lt (s := s) (l := l) (ring := x) (k := k) (by omega)
     refine Af <| Cb (.inr (by kernel_rfl)) (fun _ _ h => h) fun ds => ?_
     refine Aa rfl (B0 (Au rfl hs33) (Ao rfl <| Al rfl <| Ac)) ?_
     refine Ah <| Ad <| Af <| Ar (Ac) (by first | rfl | exact decide_eq_true (by omega)) ?_
     by_cases hbd : badB s l x k = true
     ·
      refine Ax <| Ad <| Af <| A4 <| Af <| Cb (.inr (by kernel_rfl)) (fun _ _ h => h) fun ds => ?_
      refine Aa rfl (Ag (Al rfl <| Au rfl hs33)) ?_
      refine Aa rfl (Be  sl_47 (Ap rfl <| Ao rfl <| Ap rfl <| Ac) he.plain (Ap rfl <| Au rfl hs33) rfl hlt) ?_
      refine Aa rfl (Bg agg_60 (Ac) rfl rfl (he.whole hlt)) ?_
      refine Bl rfl (B6 zr_60 rfl fun b29 hb29 nb29 => ?_)
      refine Aa rfl (Ae (Ap rfl <| Al rfl <| Ac)) ?_
      refine Ck (B8 sz_60 (Al rfl <| Ac) (Ap rfl <| Ac) (i := 0) rfl rfl rfl rfl Ent.enc_one (.here) ?_)
      refine Ah <| Ad <| Af <| Ch (.inr (by kernel_rfl)) (fun _ _ h => h) (by kernel_rfl) (by kernel_rfl) fun ds => ?_
      refine A0 rfl (Bg agg_60 (Al rfl <| Ac) rfl rfl (Bm 0 rfl)) ?_
      refine A0 rfl (Ag (Ay rfl <| Ap rfl <| Al rfl <| Ao rfl <| Ay rfl <| Ac)) ?_
      refine A0 rfl (Aj fd_60_0 (Ap rfl <| Al rfl <| Ac)) ?_
      refine A0 rfl (Aq Bd (Ac) (Cell.own 0 rfl rfl)) ?_
      refine A0 rfl (Be (k := n) Cm (Ap rfl <| Ac) hal.plain (Ac) hn hn2) ?_
      refine A0 rfl (Bg D8 (Ac) rfl rfl (hal.whole hn2)) ?_
      refine WQ_c rfl (A9 bd_84 Az (.cons (Ay rfl <| Al rfl <| Ac) (.cons (Ac) .nil)) (right_ok _ _) (fun _ _ h => h)) ?_
      refine A0 rfl (Cu (Ac)) ?_
      refine Cj ?_
      refine Ad <| Ar (Ac) (by rw [hres, ← hbb]; exact hbd) ?_
      refine Cb (.inr (by kernel_rfl)) (fun _ _ h => h) fun ds => ?_
      refine Aa rfl (Ag (Ba rfl <| Ay rfl <| Ap rfl <| Au rfl hs11)) ?_
      refine Aa rfl (Ag (Ba rfl <| Al rfl <| Ac)) ?_
      refine Aa rfl (q_shl Ab (Ac) (k := k) rfl (by omega) (show (1 : Int) * 2 ^ k = ((2 ^ k : Nat) : Int) by simp) (Int.le_trans (by decide) (Int.natCast_nonneg _)) (by omega)) ?_
      refine Aa rfl (q_or (Ap rfl <| Ac) (Ac) (m := badMask s l x k) (k := 2 ^ k) rfl rfl (by omega) (by omega) rfl) ?_
      refine Aa rfl (Ae (Ac)) ?_
      refine Ah <| Bh <| Ad <| Ct (fun _ _ h => h.drop (.cons _ <| .cons_cons _ <| .cons_cons _ <| .cons_cons _ <| .cons_cons _ <| .cons_cons _ <| .refl _)) ?_
      refine Cb (.inr (by kernel_rfl)) (fun _ _ h => h) fun ds => ?_
      refine Aa rfl (B3 (Bb rfl <| Ap rfl <| Al rfl <| Au rfl hs33) Ab rfl (by omega) (by omega)) ?_
      refine Aa rfl (Ag (Ac)) ?_
      refine Ah <| Ad ⟨_, m - 1, Off.eq (C5 rfl <| ou4 rfl <| Eu rfl <| Bj), by omega, ?_⟩
      exact ⟨k + 1, by omega, (Ac), by rw [badMask, if_pos hbd]; exact (Ap rfl <| Ac), rfl⟩
     ·
      replace hbd : badB s l x k = false := by simpa using hbd
      refine Ax <| Ad <| Af <| A4 <| Af <| Cb (.inr (by kernel_rfl)) (fun _ _ h => h) fun ds => ?_
      refine Aa rfl (Ag (Al rfl <| Au rfl hs33)) ?_
      refine Aa rfl (Be  sl_47 (Ap rfl <| Ao rfl <| Ap rfl <| Ac) he.plain (Ap rfl <| Au rfl hs33) rfl hlt) ?_
      refine Aa rfl (Bg agg_60 (Ac) rfl rfl (he.whole hlt)) ?_
      refine Bl rfl (B6 zr_60 rfl fun b30 hb30 nb30 => ?_)
      refine Aa rfl (Ae (Ap rfl <| Al rfl <| Ac)) ?_
      refine Ck (B8 sz_60 (Al rfl <| Ac) (Ap rfl <| Ac) (i := 0) rfl rfl rfl rfl Ent.enc_one (.here) ?_)
      refine Ah <| Ad <| Af <| Ch (.inr (by kernel_rfl)) (fun _ _ h => h) (by kernel_rfl) (by kernel_rfl) fun ds => ?_
      refine A0 rfl (Bg agg_60 (Al rfl <| Ac) rfl rfl (Bm 0 rfl)) ?_
      refine A0 rfl (Ag (Ay rfl <| Ap rfl <| Al rfl <| Ao rfl <| Ay rfl <| Ac)) ?_
      refine A0 rfl (Aj fd_60_0 (Ap rfl <| Al rfl <| Ac)) ?_
      refine A0 rfl (Aq Bd (Ac) (Cell.own 0 rfl rfl)) ?_
      refine A0 rfl (Be (k := n) Cm (Ap rfl <| Ac) hal.plain (Ac) hn hn2) ?_
      refine A0 rfl (Bg D8 (Ac) rfl rfl (hal.whole hn2)) ?_
      refine WQ_c rfl (A9 bd_84 Az (.cons (Ay rfl <| Al rfl <| Ac) (.cons (Ac) .nil)) (right_ok _ _) (fun _ _ h => h)) ?_
      refine A0 rfl (Cu (Ac)) ?_
      refine Cj ?_
      refine Ad <| Am (Ac) (by rw [hres, ← hbb]; exact hbd) ?_
      refine Ax <| Bh <| Ad <| Ct (fun _ _ h => h.drop (.cons _ <| .cons_cons _ <| .cons_cons _ <| .cons_cons _ <| .cons_cons _ <| .cons_cons _ <| .refl _)) ?_
      refine Cb (.inr (by kernel_rfl)) (fun _ _ h => h) fun ds => ?_
      refine Aa rfl (B3 (Ba rfl <| Ay rfl <| Ap rfl <| Au rfl hs33) Ab rfl (by omega) (by omega)) ?_
      refine Aa rfl (Ag (Ac)) ?_
      refine Ah <| Ad ⟨_, m - 1, Off.eq (C5 rfl <| Bj), by omega, ?_⟩
      exact ⟨k + 1, by omega, (Ac), by rw [badMask, if_neg (by rw [hbd]; decide)]; exact (Bb rfl <| Au rfl hs11), rfl⟩
    ·
     refine Af <| Cb (.inr (by kernel_rfl)) (fun _ _ h => h) fun ds => ?_
     refine Aa rfl (B0 (Au rfl hs33) (Ao rfl <| Al rfl <| Ac)) ?_
     refine Ah <| Ad <| Af <| Am (Ac) (by first | rfl | exact decide_eq_false (by omega)) ?_
     obtain rfl : k = l.length := by omega
     have hml6 := badMask_lt (s := s) (l := l) (ring := x) (k := l.length) (by omega)
     refine Bx ?_
     refine Bk <| Bk <| Bn <| Ad <| Af <| Cb (.inr (by kernel_rfl)) (fun _ _ h => h) fun ds => ?_
     refine Aa rfl (Ag (Al rfl <| Au rfl hs11)) ?_
     refine Bl rfl (Cz bd_85 Az (.cons (Ac) .nil) (list_ok (n := badMask s l x l.length) (by omega)) fun v31 F32 hr33 hF34 => ?_)
     replace hle := hle.mono hF34
     replace hW := hW.mono hF34
     replace hK3 := hK3.mono hF34
     have hn14 := hr33
     rw [bits_bad hl6] at hn14
     have hbl8 : (badL s l x).length ≤ 8 := by rw [← bits_bad hl6]; exact bitsL_len
     have hn14l := hn14.plain.lt
     refine Aa rfl (Ae (Ac)) ?_
     refine Ah <| Ad <| Af ?_
     rcases hW with ⟨hw1, rfl, rfl⟩ | ⟨mm, hw1, rfl, hmm, hml⟩
     ·
      refine Cb (.inr (by kernel_rfl)) (fun _ _ h => h) fun ds => ?_
      refine Aa rfl (Aq one_4 (Ay rfl <| Ao rfl <| Ba rfl <| Ay rfl <| Al rfl <| Ac) (Cell.own 3 rfl rfl)) ?_
      refine Aa rfl (Cu (Ac)) ?_
      refine Aa rfl (Ag (Ac)) ?_
      refine At rfl rfl (Ac) (.inl (congrArg Value.bool (by rfl))) rfl ?_
      refine At rfl rfl (Al rfl <| Ac) (.inl (congrArg Value.bool (by rfl))) rfl ?_
      refine At rfl rfl (Ap rfl <| Ac) (.inl (congrArg Value.bool (by rfl))) rfl ?_
      refine At rfl rfl (Ap rfl <| Al rfl <| Ac) (.inl (congrArg Value.bool (by rfl))) rfl ?_
      refine At rfl rfl (Ay rfl <| Ac) (.inl (congrArg Value.bool (by rfl))) rfl ?_
      refine Aa rfl (A6 (Ay rfl <| Al rfl <| Ac) (by rfl) Ab) ?_
      refine Aa rfl (Ag (Ac)) ?_
      refine At rfl rfl (Ac) (.inl (congrArg Value.bool rfl)) rfl ?_
      refine At rfl rfl (Al rfl <| Ac) (.inl (congrArg Value.bool rfl)) rfl ?_
      refine At rfl rfl (Ap rfl <| Ac) (.inl (congrArg Value.bool rfl)) rfl ?_
      refine At rfl rfl (Ap rfl <| Al rfl <| Ac) (.inl (congrArg Value.bool rfl)) rfl ?_
      refine At rfl rfl (Ay rfl <| Ac) (.inl (congrArg Value.bool rfl)) rfl ?_
      refine At rfl rfl (Ay rfl <| Al rfl <| Ac) (.inl (congrArg Value.bool rfl)) rfl ?_
      refine At rfl rfl (Ac) (.inr rfl) rfl ?_
      refine At rfl rfl (Al rfl <| Ac) (.inr rfl) rfl ?_
      refine At rfl rfl (Ap rfl <| Ac) (.inr rfl) rfl ?_
      refine At rfl rfl (Ap rfl <| Al rfl <| Ac) (.inr rfl) rfl ?_
      refine At rfl rfl (Ba rfl <| Ap rfl <| Ac) (.inl (congrArg Value.bool rfl)) rfl ?_
      refine Aa rfl (A6 (Ba rfl <| Ap rfl <| Al rfl <| Ac) rfl Ab) ?_
      refine Ah <| Ad <| Ar (Ac) rfl ?_
      subst hoL
      refine Cb (.inr (by kernel_rfl)) (fun _ _ h => h) fun ds => ?_
      refine Aa rfl (Ag (Bb rfl <| Ay rfl <| Ap rfl <| Ac)) ?_
      refine Ck (C2 sz_28 (Bb rfl <| Ba rfl <| Ap rfl <| Al rfl <| Ao rfl <| Bb rfl <| Ba rfl <| Al rfl <| Ac) (Ac) (i := 4) rfl (.here) (by first | rfl | exact hn14.plain.one) (.next <| .next <| .next <| .next <| .here) ?_)
      refine Ck (C2 sz_4 (Bb rfl <| Ba rfl <| Ap rfl <| Al rfl <| Ao rfl <| Ba rfl <| Ay rfl <| Al rfl <| Ac) Ab (i := 3) rfl (.here) (by first | rfl | exact hn14.plain.one) (.next <| .next <| .next <| .here) ?_)
      refine Ah <| Bh ?_
      refine round_nG (.one (.next <| .here) <| .one (.next <| .here) <| .one (.next <| .here) <| .one (.next <| .here) <| .one (.here) <| .nil) ?_
      refine .inl ⟨rfl, _, rfl, hle, ?_⟩
      have e1 : wrongTo s l (pre ++ [x]) = some (badL s l x) := by rw [Ej, hw1]; rfl
      exact ⟨_, _, true, hK3, .inr ⟨_, e1, rfl, hn14, hbl8⟩, rfl⟩
     ·
      refine Cb (.inr (by kernel_rfl)) (fun _ _ h => h) fun ds => ?_
      refine Aa rfl (Aq one_4 (Ay rfl <| Ao rfl <| Ba rfl <| Ay rfl <| Al rfl <| Ac) (Cell.own 3 rfl rfl)) ?_
      refine Aa rfl (Cu (Ac)) ?_
      refine Aa rfl (Ag (Ac)) ?_
      refine As rfl rfl (Ac) (by rfl) ?_
      refine Aa rfl (Ag (Ap rfl <| Al rfl <| Ac)) ?_
      refine As rfl rfl (Al rfl <| Ac) (by rfl) ?_
      refine Aa rfl (Bf Bs (Ac) hn14.plain) ?_
      refine As rfl rfl (Ap rfl <| Ac) (by rfl) ?_
      refine Aa rfl (Aq one_28 (Ba rfl <| Al rfl <| Ao rfl <| Bb rfl <| Ba rfl <| Al rfl <| Ac) (Cell.own 4 rfl rfl)) ?_
      refine As rfl rfl (Ap rfl <| Al rfl <| Ac) (by rfl) ?_
      refine Aa rfl (Bf Bs (Ac) hmm.plain) ?_
      refine As rfl rfl (Ay rfl <| Ac) (by rfl) ?_
      refine Aa rfl (B0 (Ap rfl <| Ac) (Ac)) ?_
      refine Aa rfl (A8 (Ay rfl <| Al rfl <| Ac) (by rfl) (Ac)) ?_
      refine Aa rfl (Ag (Ac)) ?_
      by_cases h1 : (badL s l x).length < mm.length
      ·
       refine At rfl rfl (Ac) (.inl (congrArg Value.bool (decide_eq_true (by omega)))) rfl ?_
       refine At rfl rfl (Al rfl <| Ac) (.inl (congrArg Value.bool (decide_eq_true (by omega)))) rfl ?_
       refine At rfl rfl (Ap rfl <| Ac) (.inl (congrArg Value.bool (decide_eq_true (by omega)))) rfl ?_
       refine At rfl rfl (Ap rfl <| Al rfl <| Ac) (.inl (congrArg Value.bool (decide_eq_true (by omega)))) rfl ?_
       refine At rfl rfl (Ay rfl <| Ac) (.inl (congrArg Value.bool (decide_eq_true (by omega)))) rfl ?_
       refine At rfl rfl (Ay rfl <| Al rfl <| Ac) (.inl (congrArg Value.bool (decide_eq_true (by omega)))) rfl ?_
       refine At rfl rfl (Ac) (.inr rfl) rfl ?_
       refine At rfl rfl (Al rfl <| Ac) (.inr rfl) rfl ?_
       refine At rfl rfl (Ap rfl <| Ac) (.inr rfl) rfl ?_
       refine At rfl rfl (Ap rfl <| Al rfl <| Ac) (.inr rfl) rfl ?_
       refine At rfl rfl (Ba rfl <| Ap rfl <| Ac) (.inl (congrArg Value.bool (decide_eq_true (by omega)))) rfl ?_
       refine Aa rfl (A6 (Ba rfl <| Ap rfl <| Al rfl <| Ac) (decide_eq_true (by omega)) Ab) ?_
       refine Ah <| Ad <| Ar (Ac) rfl ?_
       subst hoL
       refine Cb (.inr (by kernel_rfl)) (fun _ _ h => h) fun ds => ?_
       refine Aa rfl (Ag (Bb rfl <| Ay rfl <| Ap rfl <| Ac)) ?_
       refine Ck (C2 sz_28 (Bb rfl <| Ba rfl <| Ap rfl <| Al rfl <| Ao rfl <| Bb rfl <| Ba rfl <| Al rfl <| Ac) (Ac) (i := 4) rfl (.here) (by first | rfl | exact hn14.plain.one) (.next <| .next <| .next <| .next <| .here) ?_)
       refine Ck (C2 sz_4 (Bb rfl <| Ba rfl <| Ap rfl <| Al rfl <| Ao rfl <| Ba rfl <| Ay rfl <| Al rfl <| Ac) Ab (i := 3) rfl (.here) (by first | rfl | exact hn14.plain.one) (.next <| .next <| .next <| .here) ?_)
       refine Ah <| Bh ?_
       refine round_nG (.one (.next <| .here) <| .one (.next <| .here) <| .one (.next <| .here) <| .one (.next <| .here) <| .one (.here) <| .nil) ?_
       refine .inl ⟨rfl, _, rfl, hle, ?_⟩
       have e1 : wrongTo s l (pre ++ [x]) = some (badL s l x) := by rw [Ej, hw1, wrongStep_new (.inl h1)]
       exact ⟨_, _, true, hK3, .inr ⟨_, e1, rfl, hn14, hbl8⟩, rfl⟩
      ·
       refine As rfl rfl (Ac) (decide_eq_false (by omega)) ?_
       refine Aa rfl (Ag (Ba rfl <| Ap rfl <| Ac)) ?_
       refine As rfl rfl (Al rfl <| Ac) (decide_eq_false (by omega)) ?_
       refine Aa rfl (Bf Bs (Ac) hn14.plain) ?_
       refine As rfl rfl (Ap rfl <| Ac) (decide_eq_false (by omega)) ?_
       refine Aa rfl (Aq one_28 (Bb rfl <| Ao rfl <| Bb rfl <| Ba rfl <| Al rfl <| Ac) (Cell.own 4 rfl rfl)) ?_
       refine As rfl rfl (Ap rfl <| Al rfl <| Ac) (decide_eq_false (by omega)) ?_
       refine Aa rfl (Bf Bs (Ac) hmm.plain) ?_
       refine As rfl rfl (Ay rfl <| Ac) (decide_eq_false (by omega)) ?_
       refine Aa rfl (B9 (Ap rfl <| Ac) (Ac)) ?_
       refine As rfl rfl (Ay rfl <| Al rfl <| Ac) (decide_eq_false (by omega)) ?_
       refine Aa rfl (Ag (Ac)) ?_
       by_cases h2 : (badL s l x).length = mm.length
       ·
        refine As rfl rfl (Ac) (decide_eq_true (by omega)) ?_
        refine Aa rfl (Ag (Bb rfl <| Ac)) ?_
        refine As rfl rfl (Al rfl <| Ac) (decide_eq_true (by omega)) ?_
        refine Aa rfl (Aq one_28 (Bb rfl <| Ay rfl <| Al rfl <| Ao rfl <| Bb rfl <| Ba rfl <| Al rfl <| Ac) (Cell.own 4 rfl rfl)) ?_
        refine As rfl rfl (Ap rfl <| Ac) (decide_eq_true (by omega)) ?_
        refine Bv rfl (A9 bd_86 Az (.cons (Al rfl <| Ac) (.cons (Ac) .nil)) (compare_ok hn14 hmm) (fun _ _ h => h)) ?_
        refine As rfl rfl (Ap rfl <| Al rfl <| Ac) (decide_eq_true (by omega)) ?_
        refine Aa rfl (B0 (Ac) Ab) ?_
        refine As rfl rfl (Ba rfl <| Ap rfl <| Ac) (decide_eq_false (by omega)) ?_
        refine Aa rfl (A6 (Ay rfl <| Ac) (decide_eq_true (by omega)) (Ac)) ?_
        refine Aa rfl (A8 (Ba rfl <| Ap rfl <| Al rfl <| Ac) (decide_eq_false (by omega)) (Ac)) ?_
        refine Ah <| Ad ?_
        by_cases h3 : cmpL (badL s l x) mm < 0
        ·
         refine Ar (Ac) (decide_eq_true h3) ?_
         subst hoL
         refine Cb (.inr (by kernel_rfl)) (fun _ _ h => h) fun ds => ?_
         refine Aa rfl (Ag (Bb rfl <| Ay rfl <| Ap rfl <| Ac)) ?_
         refine Ck (C2 sz_28 (Bb rfl <| Ba rfl <| Ap rfl <| Al rfl <| Ao rfl <| Bb rfl <| Ba rfl <| Al rfl <| Ac) (Ac) (i := 4) rfl (.here) (by first | rfl | exact hn14.plain.one) (.next <| .next <| .next <| .next <| .here) ?_)
         refine Ck (C2 sz_4 (Bb rfl <| Ba rfl <| Ap rfl <| Al rfl <| Ao rfl <| Ba rfl <| Ay rfl <| Al rfl <| Ac) Ab (i := 3) rfl (.here) (by first | rfl | exact hn14.plain.one) (.next <| .next <| .next <| .here) ?_)
         refine Ah <| Bh ?_
         refine round_nG (.one (.next <| .here) <| .one (.next <| .here) <| .one (.next <| .here) <| .one (.next <| .here) <| .one (.here) <| .nil) ?_
         refine .inl ⟨rfl, _, rfl, hle, ?_⟩
         have e1 : wrongTo s l (pre ++ [x]) = some (badL s l x) := by rw [Ej, hw1, wrongStep_new (.inr ⟨h2, h3⟩)]
         exact ⟨_, _, true, hK3, .inr ⟨_, e1, rfl, hn14, hbl8⟩, rfl⟩
        ·
         refine Am (Ac) (decide_eq_false h3) ?_
         subst hoL
         refine Ax <| Bh ?_
         refine round_nG (.one (.next <| .here) <| .one (.next <| .here) <| .one (.next <| .here) <| .one (.next <| .here) <| .one (.here) <| .nil) ?_
         refine .inl ⟨rfl, _, rfl, hle, ?_⟩
         have e1 : wrongTo s l (pre ++ [x]) = some mm := by rw [Ej, hw1, wrongStep_old (fun h => h.elim h1 (fun h => h3 h.2))]
         exact ⟨_, _, true, hK3, .inr ⟨_, e1, rfl, hmm, hml⟩, rfl⟩
       ·
        refine At rfl rfl (Ac) (.inl (congrArg Value.bool (decide_eq_false (by omega)))) rfl ?_
        refine At rfl rfl (Al rfl <| Ac) (.inl (congrArg Value.bool (decide_eq_false (by omega)))) rfl ?_
        refine At rfl rfl (Ap rfl <| Ac) (.inl (congrArg Value.bool (decide_eq_false (by omega)))) rfl ?_
        refine At rfl rfl (Ap rfl <| Al rfl <| Ac) (.inl (congrArg Value.bool (decide_eq_false (by omega)))) rfl ?_
        refine As rfl rfl (Ba rfl <| Ap rfl <| Ac) (decide_eq_false (by omega)) ?_
        refine Aa rfl (A8 (Ay rfl <| Ac) (decide_eq_false (by omega)) Ab) ?_
        refine Aa rfl (A8 (Ba rfl <| Ap rfl <| Al rfl <| Ac) (decide_eq_false (by omega)) (Ac)) ?_
        refine Ah <| Ad <| Am (Ac) rfl ?_
        subst hoL
        refine Ax <| Bh ?_
        refine round_nG (.one (.next <| .here) <| .one (.next <| .here) <| .one (.next <| .here) <| .one (.next <| .here) <| .one (.here) <| .nil) ?_
        refine .inl ⟨rfl, _, rfl, hle, ?_⟩
        have e1 : wrongTo s l (pre ++ [x]) = some mm := by rw [Ej, hw1, wrongStep_old (fun h => h.elim h1 (fun h => h2 h.1))]
        exact ⟨_, _, true, hK3, .inr ⟨_, e1, rfl, hmm, hml⟩, rfl⟩
  obtain ⟨es2, vw, fo, hK2, hW, rfl⟩ := hJ
  have hwm := hW.all
  refine Bh <| Ad <| Af <| Ai fun ds => Aa rfl (Aq one_28 (Ba rfl <| Ay rfl <| Ap rfl <| Ac) (Cell.own 1 rfl rfl)) ?_
  refine Ck (C2 sz_28 (Ba rfl <| Ay rfl <| Ap rfl <| Al rfl <| Ac) (Ac) (i := 1) rfl (.here) hwm.plain.one (.next <| .here) ?_)
  refine Aa rfl (Ae Ab) ?_
  refine Ah <| Ad <| A5 <| Aw rfl (.one one_28 (Bb rfl <| Ac) (Cell.own 1 rfl rfl) (.tmp (Ac) .nil)) ?_
  rw [wrongE_ok hok]
  exact ⟨_, rfl, hwm⟩
 ·
  refine Af <| Ai fun ds => Bl rfl (Cc (Ak rfl) rfl fun b35 hb35 nb35 => ?_)
  refine Bl rfl (Cc (Al rfl <| Ak rfl) (Df he.plain.one) fun b36 hb36 nb36 => ?_)
  refine Bl rfl (B6 zr_28 rfl fun b37 hb37 nb37 => ?_)
  refine Aa rfl (Ae Ab) ?_
  refine Ah <| Ad <| Af <| Ai fun ds => Aa rfl (Bg Cd (Ap rfl <| Al rfl <| Ac) rfl rfl (Bm 2 rfl)) ?_
  refine Aa rfl (Aq one_47 (Ap rfl <| Al rfl <| Ac) (Cell.own 1 rfl rfl)) ?_
  refine Bl rfl (Cz bd_77 Az (.cons (Al rfl <| Ac) (.cons (Ac) .nil)) (catalogue_bad hr he hok) fun v38 F39 hr40 hF41 => ?_)
  obtain ⟨va, hva1, rfl⟩ := hr40
  refine Aa rfl (Ag (Ac)) ?_
  refine Aa rfl (A1 (Ac) rfl) ?_
  refine Aa rfl (A1 (Al rfl <| Ac) rfl) ?_
  refine Bl rfl (B6 zr_116 rfl fun b42 hb42 nb42 => ?_)
  refine Ck (C2 sz_116 (Ac) (Ap rfl <| Ac) (i := 0) rfl (.here) (by first | rfl | exact hva1) (.here) ?_)
  refine Aa rfl (Ae (Al rfl <| Ac)) ?_
  refine Ah <| Ad <| Af <| Af <| Ai fun ds => Aa rfl (Ag (Ac)) ?_
  refine Aa rfl (B5 (Ac) Ab) ?_
  refine Ah <| Ad <| Ar (Ac) (decide_eq_true hok) ?_
  refine Af <| Ai fun ds => Aa rfl (Ag (Ap rfl <| Ac)) ?_
  refine Ck (C2 sz_28 (Ba rfl <| Ay rfl <| Ac) Ab (i := 1) rfl (.here) rfl (.next <| .here) ?_)
  refine Aa rfl (Ae (Ac)) ?_
  refine Ah <| Ad <| A5 <| A7 ?_
  refine Aw rfl (.one one_28 (Ba rfl <| Ay rfl <| Al rfl <| Ac) (Cell.own 1 rfl rfl) (.tmp (Ac) .nil)) ?_
  rw [wrongE_bad rfl hok]
  exact ⟨_, rfl, Sl.nil⟩
end Go.Proofs.Ytaikojfonleccaa
namespace Go.Proofs.Ytaikojfonleccaa
open Go.RowKit
/-- A list of lists of results. -/
def rsE (p : Value × List Res) : List Value := [p.1]
def RLs (F : Heap) (v : Value) (xss : List (List Res)) : Prop := ∃ ps : List (Value × List Res), Sl F v 1 rsE ps ∧ (∀ p ∈ ps, Sl F p.1 2 Res.enc p.2) ∧ ps.map (·.2) = xss
theorem RLs.mono {F F' : Heap} {v : Value} {xss : List (List Res)} (h : RLs F v xss) (hF : F.le F') : RLs F' v xss := by
 obtain ⟨ps, h1, h2, h3⟩ := h
 exact ⟨ps, h1.mono hF, fun p hp => (h2 p hp).mono hF, h3⟩
def AllR (F : Heap) (ps : List (Value × List Res)) : Prop := ∀ p ∈ ps, Sl F p.1 2 Res.enc p.2
theorem AllR.mono {F F' : Heap} {ps : List (Value × List Res)} (h : AllR F ps) (hF : F.le F') : AllR F' ps := fun p hp => (h p hp).mono hF
theorem AllN.one {F : Heap} {ps : List (Value × List Nat)} (h : AllN F ps) : ∀ x ∈ ps, ∀ u ∈ slE x, u.oneCell' = true := fun x hx u hu => by
 simp only [slE, List.mem_cons, List.not_mem_nil, or_false] at hu
 subst hu; exact (h x hx).plain.one
end Go.Proofs.Ytaikojfonleccaa
namespace Go.Proofs.Ytaikojfonleccaa
open Go.RowKit
def stA : Stp := ⟨0, 5⟩
def stB : Stp := ⟨50, 10⟩
def ltA : Lot := ⟨⟨#[98, 105, 98, 108, 101]⟩, 0, 20, true⟩
def ltB : Lot := ⟨⟨#[97, 116, 108, 97, 115]⟩, 0, 48, false⟩
def ltC : Lot := ⟨⟨#[102, 97, 110]⟩, 0, 30, false⟩
def names4 : List ByteArray := [⟨#[97, 110, 110]⟩, ⟨#[98, 101, 110]⟩, ⟨#[99, 105, 100]⟩, ⟨#[100, 111, 116]⟩]
def names1 : List ByteArray := [⟨#[100, 117, 107, 101]⟩]
def bids6 : List Bid := [⟨0, 0, 62⟩, ⟨1, 0, 41⟩, ⟨2, 0, 55⟩, ⟨1, 1, 90⟩, ⟨3, 1, 70⟩, ⟨3, 2, 25⟩]
def saleX : Sale := ⟨[stA, stB], 100, 150, 14, names4, names1, [ltA, ltB, ltC], bids6⟩
def resX (p : Int) : List Res := [⟨0, p⟩, ⟨1, 73⟩, ⟨-1, 0⟩]
def back1 (d : Int) : List Back := [⟨0, d⟩]
def entX (l p : Int) : Ent := ⟨l, true, p, p⟩
def ent1 (l lo hi : Int) : Ent := ⟨l, true, lo, hi⟩
theorem ev_n1 : nextE saleX 50 = (60, 0) := by kernel_rfl
theorem ev_s1 : sellE saleX [] = (resX 60, 0) := by kernel_rfl
theorem ev_s2 : sellE saleX [0, 1, 2] = (resX 20, 0) := by kernel_rfl
theorem ev_a1 : accE saleX [1, 3] (back1 14) = ([0, 53, 0, 0], [41], 12, 0) := by kernel_rfl
theorem ev_a2 : accE saleX [1, 3] (back1 15) = ([], [], 0, 7) := by kernel_rfl
theorem ev_h1 : shareE saleX [0, 1, 2] = ([14, 13, 13], 0) := by kernel_rfl
theorem ev_r1 : ringsE saleX [entX 0 60, entX 1 48] = ([[1, 3], [0, 1, 3], [1, 2, 3]], 0) := by kernel_rfl
theorem ev_r2 : ringsE saleX [entX 2 30] = ([], 8) := by kernel_rfl
theorem ev_m1 : membersE saleX [ent1 0 20 50] = ([0, 2], [0, 1, 2, 3], 0) := by kernel_rfl
theorem ev_w1 : wrongE saleX [entX 0 45, entX 1 48, entX 2 30] = ([0, 2], 0) := by kernel_rfl
end Go.Proofs.Ytaikojfonleccaa
namespace Go.Proofs.Ytaikojfonleccaa
open Go.RowKit
theorem zr_27 : ZeroT Try.prog 27 (.agg #[.slice none 0 0, .int .i64 0, .int .i64 0, .int .i64 0, .slice none 0 0, .slice none 0 0, .slice none 0 0, .slice none 0 0]) := C4 (by kernel_rfl)
theorem bd_25 : Body Try.prog 25 := Br (by kernel_rfl)
theorem bd_88 : Body Try.prog 88 := Br (by kernel_rfl)
theorem bd_89 : Body Try.prog 89 := Br (by kernel_rfl)
theorem bt_27 : BuildT Try.prog 27 [.slice none 0 0, .int .i64 0, .int .i64 0, .int .i64 0, .slice none 0 0, .slice none 0 0, .slice none 0 0, .slice none 0 0] [(0, 1), (1, 1), (2, 1), (3, 1), (4, 1), (5, 1), (6, 1), (7, 1)] := Em zr_27 (by kernel_rfl) (by decide)
theorem bt_60 : BuildT Try.prog 60 [.int .i64 0, .bool false, .int .i64 0, .int .i64 0] [(0, 1), (1, 1), (2, 2)] := Em zr_60 (by kernel_rfl) (by decide)
theorem bt_69 : BuildT Try.prog 69 [.string ⟨#[]⟩, .int .i64 0, .int .i64 0, .bool false] [(0, 1), (1, 1), (2, 1), (3, 1)] := Em zr_69 (by kernel_rfl) (by decide)
theorem bt_72 : BuildT Try.prog 72 [.int .i64 0, .int .i64 0, .int .i64 0] [(0, 1), (1, 1), (2, 1)] := Em zr_72 (by kernel_rfl) (by decide)
theorem bt_98 : BuildT Try.prog 98 [.int .i64 0, .int .i64 0] [(0, 1), (1, 1)] := Em zr_98 (by kernel_rfl) (by decide)
theorem sz_27 : SizeT Try.prog 27 8 := C8 (by kernel_rfl)
theorem sz_58 : SizeT Try.prog 58 2 := C8 (by kernel_rfl)
set_option maxRecDepth 100000 in
theorem span_ok {F : Heap} (a b : Int) : Ok Try.prog 89 [.int .i64 a, .int .i64 b].toArray F fun r _ => r = .agg #[.int .i64 a, .int .i64 b] := by
 refine Ok.intro Try.func89 rfl Try.ntmps89 rfl fun w0 => ?_
 refine Af <| Ai fun ds => Bl rfl (B6 zr_58 rfl fun b1 hb1 nb1 => ?_)
 refine Ah <| Ad <| Af <| Ai fun ds => Aa rfl (Ag (Al rfl <| Ak rfl)) ?_
 refine Aa rfl (Ag (Ap rfl <| Ak rfl)) ?_
 refine Aa rfl (Db bt_58 (.cons (Al rfl <| Ac) rfl (.cons (Ac) rfl .nil)) (.cons rfl rfl (Nat.le_of_ble_eq_true rfl) (.cons (.here) .nil) (.cons rfl rfl (Nat.le_of_ble_eq_true rfl) (.cons (.next <| .here) .nil) .nil))) ?_
 refine Ck (B8 sz_58 (Ap rfl <| Al rfl <| Ac) (Ac) (i := 0) rfl rfl rfl rfl (by simp [Value.oneCell']) (.here) ?_)
 refine Ah <| Ad <| A5 <| Aw rfl (.agg agg_58 (Ap rfl <| Al rfl <| Ac) rfl rfl (Bm 0 rfl) .nil) ?_
 rfl
set_option maxRecDepth 100000 in
theorem bid_ok {F : Heap} (a b c : Int) : Ok Try.prog 88 [.int .i64 a, .int .i64 b, .int .i64 c].toArray F fun r _ => r = .agg #[.int .i64 a, .int .i64 b, .int .i64 c] := by
 refine Ok.intro Try.func88 rfl Try.ntmps88 rfl fun w0 => ?_
 refine Af <| Ai fun ds => Bl rfl (B6 zr_72 rfl fun b1 hb1 nb1 => ?_)
 refine Ah <| Ad <| Af <| Ai fun ds => Aa rfl (Ag (Al rfl <| Ak rfl)) ?_
 refine Aa rfl (Ag (Ap rfl <| Ak rfl)) ?_
 refine Aa rfl (Ag (Ap rfl <| Al rfl <| Ak rfl)) ?_
 refine Aa rfl (Db bt_72 (.cons (Ap rfl <| Ac) rfl (.cons (Al rfl <| Ac) rfl (.cons (Ac) rfl .nil))) (.cons rfl rfl (Nat.le_of_ble_eq_true rfl) (.cons (.here) .nil) (.cons rfl rfl (Nat.le_of_ble_eq_true rfl) (.cons (.next <| .here) .nil) (.cons rfl rfl (Nat.le_of_ble_eq_true rfl) (.cons (.next <| .next <| .here) .nil) .nil)))) ?_
 refine Ck (B8 sz_72 (Ay rfl <| Ac) (Ac) (i := 0) rfl rfl rfl rfl (by simp [Value.oneCell']) (.here) ?_)
 refine Ah <| Ad <| A5 <| Aw rfl (.agg agg_72 (Ay rfl <| Ac) rfl rfl (Bm 0 rfl) .nil) ?_
 rfl
set_option maxRecDepth 100000 in
theorem result_ok {F : Heap} (a b : Int) : Ok Try.prog 37 [.int .i64 a, .int .i64 b].toArray F fun r _ => r = .agg #[.int .i64 a, .int .i64 b] := by
 refine Ok.intro Try.func37 rfl Try.ntmps37 rfl fun w0 => ?_
 refine Af <| Ai fun ds => Bl rfl (B6 zr_63 rfl fun b1 hb1 nb1 => ?_)
 refine Ah <| Ad <| Af <| Ai fun ds => Aa rfl (Ag (Al rfl <| Ak rfl)) ?_
 refine Aa rfl (Ag (Ap rfl <| Ak rfl)) ?_
 refine Aa rfl (Db bt_63 (.cons (Al rfl <| Ac) rfl (.cons (Ac) rfl .nil)) (.cons rfl rfl (Nat.le_of_ble_eq_true rfl) (.cons (.here) .nil) (.cons rfl rfl (Nat.le_of_ble_eq_true rfl) (.cons (.next <| .here) .nil) .nil))) ?_
 refine Ck (B8 sz_63 (Ap rfl <| Al rfl <| Ac) (Ac) (i := 0) rfl rfl rfl rfl (by simp [Value.oneCell']) (.here) ?_)
 refine Ah <| Ad <| A5 <| Aw rfl (.agg D8 (Ap rfl <| Al rfl <| Ac) rfl rfl (Bm 0 rfl) .nil) ?_
 rfl
set_option maxRecDepth 100000 in
theorem entry_ok {F : Heap} (a b c : Int) : Ok Try.prog 36 [.int .i64 a, .int .i64 b, .int .i64 c].toArray F fun r _ => r = .agg #[.int .i64 a, .bool true, .int .i64 b, .int .i64 c] := by
 refine Ok.intro Try.func36 rfl Try.ntmps36 rfl fun w0 => ?_
 refine Af <| Ai fun ds => Bl rfl (B6 zr_60 rfl fun b1 hb1 nb1 => ?_)
 refine Ah <| Ad <| Af <| Ai fun ds => Aa rfl (Ag (Al rfl <| Ak rfl)) ?_
 refine Aa rfl (Ag (Ap rfl <| Ak rfl)) ?_
 refine Aa rfl (Ag (Ap rfl <| Al rfl <| Ak rfl)) ?_
 refine Bv rfl (A9 bd_89 Az (.cons (Al rfl <| Ac) (.cons (Ac) .nil)) (span_ok _ _) (fun _ _ h => h)) ?_
 refine Aa rfl (Db bt_60 (.cons (Ap rfl <| Al rfl <| Ac) rfl (.cons Ab rfl (.cons (Ac) rfl .nil))) (.cons rfl rfl (Nat.le_of_ble_eq_true rfl) (.cons (.here) .nil) (.cons rfl rfl (Nat.le_of_ble_eq_true rfl) (.cons (.next <| .here) .nil) (.cons rfl rfl (Nat.le_of_ble_eq_true rfl) (.cons (.next <| .next <| .here) (.cons (.next <| .next <| .next <| .here) .nil)) .nil)))) ?_
 refine Ck (B8 sz_60 (Ay rfl <| Al rfl <| Ac) (Ac) (i := 0) rfl rfl rfl rfl (by simp [Value.oneCell']) (.here) ?_)
 refine Ah <| Ad <| A5 <| Aw rfl (.agg agg_60 (Ay rfl <| Al rfl <| Ac) rfl rfl (Bm 0 rfl) .nil) ?_
 rfl
theorem steps_box2 {F : Heap} {b T : Nat} (h : F b = some (bx T [.int .i64 0, .int .i64 5, .int .i64 50, .int .i64 10])) : Sl F (.slice (some ⟨b, 0, none⟩) 2 2) 2 Stp.enc ([stA, stB] : List Stp) :=
 Du (xs := ([stA, stB] : List Stp)) h rfl rfl (fun _ => rfl) (by decide)
theorem strs_box4 {F : Heap} {b T : Nat} (h : F b = some (bx T [.string ⟨#[97, 110, 110]⟩, .string ⟨#[98, 101, 110]⟩, .string ⟨#[99, 105, 100]⟩, .string ⟨#[100, 111, 116]⟩])) : Sl F (.slice (some ⟨b, 0, none⟩) 4 4) 1 strE (names4 : List ByteArray) :=
 Du (xs := (names4 : List ByteArray)) h rfl rfl (fun _ => rfl) (by decide)
theorem strs_box1 {F : Heap} {b T : Nat} (h : F b = some (bx T [.string ⟨#[100, 117, 107, 101]⟩])) : Sl F (.slice (some ⟨b, 0, none⟩) 1 1) 1 strE (names1 : List ByteArray) :=
 Du (xs := (names1 : List ByteArray)) h rfl rfl (fun _ => rfl) (by decide)
theorem lots_box3 {F : Heap} {b T : Nat} (h : F b = some (bx T [.string ⟨#[98, 105, 98, 108, 101]⟩, .int .i64 0, .int .i64 20, .bool true, .string ⟨#[97, 116, 108, 97, 115]⟩, .int .i64 0, .int .i64 48, .bool false, .string ⟨#[102, 97, 110]⟩, .int .i64 0, .int .i64 30, .bool false])) : Sl F (.slice (some ⟨b, 0, none⟩) 3 3) 4 Lot.enc ([ltA, ltB, ltC] : List Lot) :=
 Du (xs := ([ltA, ltB, ltC] : List Lot)) h rfl rfl (fun _ => rfl) (by decide)
theorem bids_box6 {F : Heap} {b T : Nat} (h : F b = some (bx T [.int .i64 0, .int .i64 0, .int .i64 62, .int .i64 1, .int .i64 0, .int .i64 41, .int .i64 2, .int .i64 0, .int .i64 55, .int .i64 1, .int .i64 1, .int .i64 90, .int .i64 3, .int .i64 1, .int .i64 70, .int .i64 3, .int .i64 2, .int .i64 25])) : Sl F (.slice (some ⟨b, 0, none⟩) 6 6) 3 Bid.enc (bids6 : List Bid) :=
 Du (xs := (bids6 : List Bid)) h rfl rfl (fun _ => rfl) (by decide)
set_option maxRecDepth 100000 in
theorem sale_ok {F : Heap} : Ok Try.prog 35 [].toArray F fun u F' => ∃ vs vb vl vn vd, u = .agg #[vs, .int .i64 100, .int .i64 150, .int .i64 14, vb, vl, vn, vd] ∧ SaleR F' vs vb vl vn vd saleX := by
 refine Ok.intro Try.func35 rfl Try.ntmps35 rfl fun w0 => ?_
 refine Af <| Ai fun ds => Bl rfl (B6 zr_27 rfl fun b1 hb1 nb1 => ?_)
 refine Ah <| Ad <| Af <| Ai fun ds => Aa rfl (Db bt_98 (.cons Ab rfl (.cons Ab rfl .nil)) (.cons rfl rfl (Nat.le_of_ble_eq_true rfl) (.cons (.here) .nil) (.cons rfl rfl (Nat.le_of_ble_eq_true rfl) (.cons (.next <| .here) .nil) .nil))) ?_
 refine Aa rfl (Db bt_98 (.cons Ab rfl (.cons Ab rfl .nil)) (.cons rfl rfl (Nat.le_of_ble_eq_true rfl) (.cons (.here) .nil) (.cons rfl rfl (Nat.le_of_ble_eq_true rfl) (.cons (.next <| .here) .nil) .nil))) ?_
 refine Bl rfl (Dn (offs := [(0, 2), (2, 2)]) (zl := [.int .i64 0, .int .i64 0, .int .i64 0, .int .i64 0]) Ec zr_98 rfl (.cons (Al rfl <| Ac) rfl (.cons (Ac) rfl .nil)) (by intro i p h; rcases i with _ | _ | i <;> simp at h <;> subst h <;> rfl) (.cons rfl rfl (Nat.le_of_ble_eq_true rfl) (.cons (.here) (.cons (.next <| .here) .nil)) (.cons rfl rfl (Nat.le_of_ble_eq_true rfl) (.cons (.next <| .next <| .here) (.cons (.next <| .next <| .next <| .here) .nil)) .nil)) (by decide) (by decide) fun b2 hb2 nb2 => ?_)
 refine Bp (i := 0) rfl hb2 .here fun F3 hF4 hz5 => ?_
 have hsl6 := steps_box2 hz5
 refine Bl rfl (Bz Cr zr_9 rfl (.cons Ab (.cons Ab (.cons Ab (.cons Ab .nil)))) rfl rfl (by decide) (by simp [Value.oneCell']) fun b7 hb7 nb7 => ?_)
 refine Bp (i := 0) rfl hb7 .here fun F8 hF9 hz10 => ?_
 replace hsl6 := hsl6.mono hF9
 have hsl11 := strs_box4 hz10
 refine Bl rfl (Bz Cr zr_9 rfl (.cons Ab .nil) rfl rfl (by decide) (by simp [Value.oneCell']) fun b12 hb12 nb12 => ?_)
 refine Bp (i := 0) rfl hb12 .here fun F13 hF14 hz15 => ?_
 replace hsl6 := hsl6.mono hF14
 replace hsl11 := hsl11.mono hF14
 have hsl16 := strs_box1 hz15
 refine Aa rfl (Db bt_69 (.cons Ab rfl (.cons Ab rfl (.cons Ab rfl .nil))) (.cons rfl rfl (Nat.le_of_ble_eq_true rfl) (.cons (.here) .nil) (.cons rfl rfl (Nat.le_of_ble_eq_true rfl) (.cons (.next <| .next <| .here) .nil) (.cons rfl rfl (Nat.le_of_ble_eq_true rfl) (.cons (.next <| .next <| .next <| .here) .nil) .nil)))) ?_
 refine Aa rfl (Db bt_69 (.cons Ab rfl (.cons Ab rfl .nil)) (.cons rfl rfl (Nat.le_of_ble_eq_true rfl) (.cons (.here) .nil) (.cons rfl rfl (Nat.le_of_ble_eq_true rfl) (.cons (.next <| .next <| .here) .nil) .nil))) ?_
 refine Aa rfl (Db bt_69 (.cons Ab rfl (.cons Ab rfl .nil)) (.cons rfl rfl (Nat.le_of_ble_eq_true rfl) (.cons (.here) .nil) (.cons rfl rfl (Nat.le_of_ble_eq_true rfl) (.cons (.next <| .next <| .here) .nil) .nil))) ?_
 refine Bl rfl (Dn (offs := [(0, 4), (4, 4), (8, 4)]) (zl := [.string ⟨#[]⟩, .int .i64 0, .int .i64 0, .bool false, .string ⟨#[]⟩, .int .i64 0, .int .i64 0, .bool false, .string ⟨#[]⟩, .int .i64 0, .int .i64 0, .bool false]) C1 zr_69 rfl (.cons (Ap rfl <| Ac) rfl (.cons (Al rfl <| Ac) rfl (.cons (Ac) rfl .nil))) (by intro i p h; rcases i with _ | _ | _ | i <;> simp at h <;> subst h <;> rfl) (.cons rfl rfl (Nat.le_of_ble_eq_true rfl) (.cons (.here) (.cons (.next <| .here) (.cons (.next <| .next <| .here) (.cons (.next <| .next <| .next <| .here) .nil)))) (.cons rfl rfl (Nat.le_of_ble_eq_true rfl) (.cons (.next <| .next <| .next <| .next <| .here) (.cons (.next <| .next <| .next <| .next <| .next <| .here) (.cons (.next <| .next <| .next <| .next <| .next <| .next <| .here) (.cons (.next <| .next <| .next <| .next <| .next <| .next <| .next <| .here) .nil)))) (.cons rfl rfl (Nat.le_of_ble_eq_true rfl) (.cons (.next <| .next <| .next <| .next <| .next <| .next <| .next <| .next <| .here) (.cons (.next <| .next <| .next <| .next <| .next <| .next <| .next <| .next <| .next <| .here) (.cons (.next <| .next <| .next <| .next <| .next <| .next <| .next <| .next <| .next <| .next <| .here) (.cons (.next <| .next <| .next <| .next <| .next <| .next <| .next <| .next <| .next <| .next <| .next <| .here) .nil)))) .nil))) (by decide) (by decide) fun b17 hb17 nb17 => ?_)
 refine Bp (i := 0) rfl hb17 .here fun F18 hF19 hz20 => ?_
 replace hsl6 := hsl6.mono hF19
 replace hsl11 := hsl11.mono hF19
 replace hsl16 := hsl16.mono hF19
 have hsl21 := lots_box3 hz20
 refine Bv rfl (A9 bd_88 Az (.cons Ab (.cons Ab (.cons Ab .nil))) (bid_ok _ _ _) (fun _ _ h => h)) ?_
 refine Bv rfl (A9 bd_88 Az (.cons Ab (.cons Ab (.cons Ab .nil))) (bid_ok _ _ _) (fun _ _ h => h)) ?_
 refine Bv rfl (A9 bd_88 Az (.cons Ab (.cons Ab (.cons Ab .nil))) (bid_ok _ _ _) (fun _ _ h => h)) ?_
 refine Bv rfl (A9 bd_88 Az (.cons Ab (.cons Ab (.cons Ab .nil))) (bid_ok _ _ _) (fun _ _ h => h)) ?_
 refine Bv rfl (A9 bd_88 Az (.cons Ab (.cons Ab (.cons Ab .nil))) (bid_ok _ _ _) (fun _ _ h => h)) ?_
 refine Bv rfl (A9 bd_88 Az (.cons Ab (.cons Ab (.cons Ab .nil))) (bid_ok _ _ _) (fun _ _ h => h)) ?_
 refine Bl rfl (Dn (offs := [(0, 3), (3, 3), (6, 3), (9, 3), (12, 3), (15, 3)]) (zl := [.int .i64 0, .int .i64 0, .int .i64 0, .int .i64 0, .int .i64 0, .int .i64 0, .int .i64 0, .int .i64 0, .int .i64 0, .int .i64 0, .int .i64 0, .int .i64 0, .int .i64 0, .int .i64 0, .int .i64 0, .int .i64 0, .int .i64 0, .int .i64 0]) Dz zr_72 rfl (.cons (Ay rfl <| Al rfl <| Ac) rfl (.cons (Ay rfl <| Ac) rfl (.cons (Ap rfl <| Al rfl <| Ac) rfl (.cons (Ap rfl <| Ac) rfl (.cons (Al rfl <| Ac) rfl (.cons (Ac) rfl .nil)))))) (by intro i p h; rcases i with _ | _ | _ | _ | _ | _ | i <;> simp at h <;> subst h <;> rfl) (.cons rfl rfl (Nat.le_of_ble_eq_true rfl) (.cons (.here) (.cons (.next <| .here) (.cons (.next <| .next <| .here) .nil))) (.cons rfl rfl (Nat.le_of_ble_eq_true rfl) (.cons (.next <| .next <| .next <| .here) (.cons (.next <| .next <| .next <| .next <| .here) (.cons (.next <| .next <| .next <| .next <| .next <| .here) .nil))) (.cons rfl rfl (Nat.le_of_ble_eq_true rfl) (.cons (.next <| .next <| .next <| .next <| .next <| .next <| .here) (.cons (.next <| .next <| .next <| .next <| .next <| .next <| .next <| .here) (.cons (.next <| .next <| .next <| .next <| .next <| .next <| .next <| .next <| .here) .nil))) (.cons rfl rfl (Nat.le_of_ble_eq_true rfl) (.cons (.next <| .next <| .next <| .next <| .next <| .next <| .next <| .next <| .next <| .here) (.cons (.next <| .next <| .next <| .next <| .next <| .next <| .next <| .next <| .next <| .next <| .here) (.cons (.next <| .next <| .next <| .next <| .next <| .next <| .next <| .next <| .next <| .next <| .next <| .here) .nil))) (.cons rfl rfl (Nat.le_of_ble_eq_true rfl) (.cons (.next <| .next <| .next <| .next <| .next <| .next <| .next <| .next <| .next <| .next <| .next <| .next <| .here) (.cons (.next <| .next <| .next <| .next <| .next <| .next <| .next <| .next <| .next <| .next <| .next <| .next <| .next <| .here) (.cons (.next <| .next <| .next <| .next <| .next <| .next <| .next <| .next <| .next <| .next <| .next <| .next <| .next <| .next <| .here) .nil))) (.cons rfl rfl (Nat.le_of_ble_eq_true rfl) (.cons (.next <| .next <| .next <| .next <| .next <| .next <| .next <| .next <| .next <| .next <| .next <| .next <| .next <| .next <| .next <| .here) (.cons (.next <| .next <| .next <| .next <| .next <| .next <| .next <| .next <| .next <| .next <| .next <| .next <| .next <| .next <| .next <| .next <| .here) (.cons (.next <| .next <| .next <| .next <| .next <| .next <| .next <| .next <| .next <| .next <| .next <| .next <| .next <| .next <| .next <| .next <| .next <| .here) .nil))) .nil)))))) (by decide) (by decide) fun b22 hb22 nb22 => ?_)
 refine Bp (i := 0) rfl hb22 .here fun F23 hF24 hz25 => ?_
 replace hsl6 := hsl6.mono hF24
 replace hsl11 := hsl11.mono hF24
 replace hsl16 := hsl16.mono hF24
 replace hsl21 := hsl21.mono hF24
 have hsl26 := bids_box6 hz25
 refine Aa rfl (Db bt_27 (.cons (Ba rfl <| Ay rfl <| Al rfl <| Ac) rfl (.cons Ab rfl (.cons Ab rfl (.cons Ab rfl (.cons (Ba rfl <| Ay rfl <| Ac) rfl (.cons (Ba rfl <| Ap rfl <| Al rfl <| Ac) rfl (.cons (Ay rfl <| Ap rfl <| Al rfl <| Ac) rfl (.cons (Ac) rfl .nil)))))))) (.cons rfl rfl (Nat.le_of_ble_eq_true rfl) (.cons (.here) .nil) (.cons rfl rfl (Nat.le_of_ble_eq_true rfl) (.cons (.next <| .here) .nil) (.cons rfl rfl (Nat.le_of_ble_eq_true rfl) (.cons (.next <| .next <| .here) .nil) (.cons rfl rfl (Nat.le_of_ble_eq_true rfl) (.cons (.next <| .next <| .next <| .here) .nil) (.cons rfl rfl (Nat.le_of_ble_eq_true rfl) (.cons (.next <| .next <| .next <| .next <| .here) .nil) (.cons rfl rfl (Nat.le_of_ble_eq_true rfl) (.cons (.next <| .next <| .next <| .next <| .next <| .here) .nil) (.cons rfl rfl (Nat.le_of_ble_eq_true rfl) (.cons (.next <| .next <| .next <| .next <| .next <| .next <| .here) .nil) (.cons rfl rfl (Nat.le_of_ble_eq_true rfl) (.cons (.next <| .next <| .next <| .next <| .next <| .next <| .next <| .here) .nil) .nil))))))))) ?_
 refine Ck (B8 sz_27 (Bb rfl <| Al rfl <| Ac) (Ac) (i := 0) rfl rfl rfl rfl (by simp [Value.oneCell']) (.here) ?_)
 refine Ah <| Ad <| A5 <| Aw rfl (.agg Cd (Bb rfl <| Al rfl <| Ac) rfl rfl (Bm 0 rfl) .nil) ?_
 exact ⟨_, _, _, _, _, rfl, ⟨hsl6, hsl11, hsl16, hsl21, hsl26⟩⟩
theorem nats_eq {xs ys : List Nat} : decide (xs.map (fun (n : Nat) => (n : Int)) = ys.map (fun (n : Nat) => (n : Int))) = decide (xs = ys) := by
 congr 1
 rw [eq_iff_iff]
 refine ⟨fun h => ?_, fun h => by rw [h]⟩
 have := congrArg (List.map Int.toNat) h
 rwa [idx_map, idx_map] at this
theorem refInts_nat {F : Heap} {v u : Value} {xs ys : List Nat} (hx : Nats F v xs) (hy : Nats F u ys) : Ok Try.prog 25 [v, u].toArray F fun r _ => r = .bool (decide (xs = ys)) :=
 (refInts_ok hx.ints hy.ints).mono fun r _ _ h => by rw [h, nats_eq]
theorem snd_take {ps qs : List (Value × List Nat)} {k : Nat} (h1 : k < ps.length) (h2 : k < qs.length) (ht : (ps.map (·.2)).take k = (qs.map (·.2)).take k) (he : ps[k].2 = qs[k].2) : (ps.map (·.2)).take (k + 1) = (qs.map (·.2)).take (k + 1) := by
 rw [List.take_succ_eq_append_getElem (by simpa using h1), List.take_succ_eq_append_getElem (by simpa using h2), ht]; simp [he]
theorem snd_ne {ps qs : List (Value × List Nat)} {k : Nat} (h1 : k < ps.length) (h2 : k < qs.length) (he : ps[k].2 ≠ qs[k].2) : ps.map (·.2) ≠ qs.map (·.2) := fun h => by
 apply he
 have := congrArg (fun z => z[k]?) h
 simpa [List.getElem?_eq_getElem h1, List.getElem?_eq_getElem h2] using this
set_option maxRecDepth 100000 in
theorem alike_ok {F : Heap} {v u : Value} {xs ys : List (List Nat)} (hx : Lsts F v xs) (hy : Lsts F u ys) : Ok Try.prog 30 [v, u].toArray F fun r _ => r = .bool (decide (xs = ys)) := by
 obtain ⟨ps, hxs, hpa, hpm⟩ := hx
 replace hpa : AllN _ ps := hpa
 obtain ⟨qs, hys, hqa, hqm⟩ := hy
 replace hqa : AllN _ qs := hqa
 refine Ok.intro Try.func30 rfl Try.ntmps30 rfl fun w0 => ?_
 have hlen := hxs.plain.lt
 have hlen2 := hys.plain.lt
 by_cases hll : ps.length = qs.length
 ·
  refine Af <| Ai fun ds => Aa rfl (Ae Ab) ?_
  refine Ah <| Ad <| Af <| Af <| Ai fun ds => Aa rfl (Ag (Al rfl <| Ak rfl)) ?_
  refine Aa rfl (Bf Ey (Ac) hxs.plain) ?_
  refine Aa rfl (Ag (Ap rfl <| Al rfl <| Ak rfl)) ?_
  refine Aa rfl (Bf Ey (Ac) hys.plain) ?_
  refine Aa rfl (B5 (Ap rfl <| Ac) (Ac)) ?_
  refine Ah <| Ad <| Am (Ac) (decide_eq_false (by omega)) ?_
  refine Ax <| Ad <| Af <| Af <| Ai fun ds => Aa rfl (Ae Ab) ?_
  refine Ah <| Ad <| A4 <| B4 [4, 5, 11, 12, 13, 14, 15, 16, 17, 18, 19, 20, 21, 22, 23, 24, 25, 26] (fun m e σ => ∃ k : Nat, m + k = ps.length ∧ e 5 = .int .i64 (k : Int) ∧ σ = ⟨F, []⟩ ∧ (ps.map (·.2)).take k = (qs.map (·.2)).take k) (ps.length) ?_ ?_
  · exact ⟨0, by omega, (Ac), rfl, rfl⟩
  ·
   rintro m e _ ⟨k, hm, hs5, rfl, htk⟩
   by_cases hlt : k < ps.length
   ·
    have hlt2 : k < qs.length := by omega
    have hxl : Nats _ _ _ := hpa _ (List.getElem_mem hlt)
    have hyl : Nats _ _ _ := hqa _ (List.getElem_mem hlt2)
    refine Af <| Af <| Ai fun ds => Aa rfl (Ag (Au rfl hs5)) ?_
    refine Aa rfl (Ag (Al rfl <| Ao rfl <| Ay rfl <| Ap rfl <| Al rfl <| Ak rfl)) ?_
    refine Aa rfl (Bf Ey (Ac) hxs.plain) ?_
    refine Aa rfl (B0 (Ap rfl <| Ac) (Ac)) ?_
    refine Ah <| Ad <| Ar (Ac) (by first | rfl | exact decide_eq_true (by omega)) ?_
    by_cases hne : ps[k].2 = qs[k].2
    ·
     refine Ax <| Ad <| Af <| A4 <| Af <| Ch (.inl rfl) (fun _ _ h => h) (by kernel_rfl) (by kernel_rfl) fun ds => ?_
     refine A0 rfl (Ag (Ay rfl <| Ao rfl <| Ay rfl <| Ap rfl <| Al rfl <| Ak rfl)) ?_
     refine A0 rfl (Ag (Ay rfl <| Al rfl <| Au rfl hs5)) ?_
     refine A0 rfl (Be  Ey (Al rfl <| Ac) hxs.plain (Ac) rfl hlt) ?_
     refine A0 rfl (Aq one_28 (Ac) (hxs.cell1 hlt rfl)) ?_
     refine A0 rfl (Ag (Ba rfl <| Ao rfl <| Ay rfl <| Ap rfl <| Al rfl <| Ak rfl)) ?_
     refine A0 rfl (Ag (Ba rfl <| Al rfl <| Au rfl hs5)) ?_
     refine A0 rfl (Be  Ey (Al rfl <| Ac) hys.plain (Ac) rfl hlt2) ?_
     refine A0 rfl (Aq one_28 (Ac) (hys.cell1 hlt2 rfl)) ?_
     refine WQ_c rfl (A9 bd_25 Az (.cons (Ay rfl <| Ac) (.cons (Ac) .nil)) (refInts_nat hxl hyl) (fun _ _ h => h)) ?_
     refine A0 rfl (Cu (Ac)) ?_
     refine Cj ?_
     refine Ad <| Am (Ac) (by simp [hne]) ?_
     refine Ax <| Bh <| Ad <| Ai fun ds => Aa rfl (Ag (Ba rfl <| Ay rfl <| Ap rfl <| Au rfl hs5)) ?_
     refine Aa rfl (B3 (Ac) Ab rfl (by omega) (by omega)) ?_
     refine Aa rfl (Ae (Ac)) ?_
     refine Ah <| Ad ⟨_, m - 1, Off.eq (C5 rfl <| Eu rfl <| Bj), by omega, ?_⟩
     exact ⟨k + 1, by omega, (Ac), rfl, snd_take hlt hlt2 htk hne⟩
    ·
     refine Ax <| Ad <| Af <| A4 <| Af <| Ch (.inl rfl) (fun _ _ h => h) (by kernel_rfl) (by kernel_rfl) fun ds => ?_
     refine A0 rfl (Ag (Ay rfl <| Ao rfl <| Ay rfl <| Ap rfl <| Al rfl <| Ak rfl)) ?_
     refine A0 rfl (Ag (Ay rfl <| Al rfl <| Au rfl hs5)) ?_
     refine A0 rfl (Be  Ey (Al rfl <| Ac) hxs.plain (Ac) rfl hlt) ?_
     refine A0 rfl (Aq one_28 (Ac) (hxs.cell1 hlt rfl)) ?_
     refine A0 rfl (Ag (Ba rfl <| Ao rfl <| Ay rfl <| Ap rfl <| Al rfl <| Ak rfl)) ?_
     refine A0 rfl (Ag (Ba rfl <| Al rfl <| Au rfl hs5)) ?_
     refine A0 rfl (Be  Ey (Al rfl <| Ac) hys.plain (Ac) rfl hlt2) ?_
     refine A0 rfl (Aq one_28 (Ac) (hys.cell1 hlt2 rfl)) ?_
     refine WQ_c rfl (A9 bd_25 Az (.cons (Ay rfl <| Ac) (.cons (Ac) .nil)) (refInts_nat hxl hyl) (fun _ _ h => h)) ?_
     refine A0 rfl (Cu (Ac)) ?_
     refine Cj ?_
     refine Ad <| Ar (Ac) (by simp [hne]) ?_
     refine Af <| Ai fun ds => Aa rfl (Ae Ab) ?_
     refine Ah <| Ad <| A5 <| Bc (A7 (A7 (Bc (A7 ?_))))
     refine Aw rfl (.tmp (Ac) .nil) ?_
     show _ = _
     rw [← hpm, ← hqm, decide_eq_false (snd_ne hlt hlt2 hne)]; rfl
   ·
    refine Af <| Af <| Ai fun ds => Aa rfl (Ag (Au rfl hs5)) ?_
    refine Aa rfl (Ag (Al rfl <| Ao rfl <| Ay rfl <| Ap rfl <| Al rfl <| Ak rfl)) ?_
    refine Aa rfl (Bf Ey (Ac) hxs.plain) ?_
    refine Aa rfl (B0 (Ap rfl <| Ac) (Ac)) ?_
    refine Ah <| Ad <| Am (Ac) (by first | rfl | exact decide_eq_false (by omega)) ?_
    obtain rfl : k = ps.length := by omega
    refine Bx ?_
    refine Bk <| Bk <| Bn <| Ad <| Af <| Ai fun ds => Aa rfl (Ae Ab) ?_
    refine Ah <| Ad <| A5 <| Aw rfl (.tmp (Ac) .nil) ?_
    show _ = _
    have h9 : ps.map (·.2) = qs.map (·.2) := by rw [List.take_of_length_le (by simp), List.take_of_length_le (by simp [hll])] at htk; exact htk
    rw [← hpm, ← hqm, decide_eq_true h9]; rfl
 ·
  refine Af <| Ai fun ds => Aa rfl (Ae Ab) ?_
  refine Ah <| Ad <| Af <| Af <| Ai fun ds => Aa rfl (Ag (Al rfl <| Ak rfl)) ?_
  refine Aa rfl (Bf Ey (Ac) hxs.plain) ?_
  refine Aa rfl (Ag (Ap rfl <| Al rfl <| Ak rfl)) ?_
  refine Aa rfl (Bf Ey (Ac) hys.plain) ?_
  refine Aa rfl (B5 (Ap rfl <| Ac) (Ac)) ?_
  refine Ah <| Ad <| Ar (Ac) (decide_eq_true (by omega)) ?_
  refine Af <| Ai fun ds => Aa rfl (Ae Ab) ?_
  refine Ah <| Ad <| A5 <| A7 ?_
  refine Aw rfl (.tmp (Ac) .nil) ?_
  show _ = _
  rw [decide_eq_false (fun h : xs = ys => hll (by rw [← hpm, ← hqm] at h; simpa using congrArg List.length h))]; rfl
end Go.Proofs.Ytaikojfonleccaa
