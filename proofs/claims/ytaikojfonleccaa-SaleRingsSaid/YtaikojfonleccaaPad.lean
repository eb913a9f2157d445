/-
  A part of a proof: SaleRings returns true of any sale and catalogue, and leaves what it is handed as it was. No conditions.
-/
import Derived.Test.YtaikojfonleccaaPac
namespace Go.Proofs.Ytaikojfonleccaa
open Go.RowKit
theorem bd_42 : Body Try.prog 42 := Bq (by kernel_rfl)
set_option maxRecDepth 100000 in
theorem has_ok {F : Heap} {v : Value} {xs : List Int} (hx : Ints F v xs) (z : Int) : Ok Try.prog 42 [v, .int .i64 z].toArray F fun u _ => u = .bool (decide (z ∈ xs)) := by
 refine Ok.intro Try.func42 rfl Try.ntmps42 rfl fun w0 => ?_
 have hlen := hx.plain.lt
 refine Ag <| Ai fun ds => Aa rfl (Ae Ac) ?_
 refine Ah <| Ad <| Ag <| Ag <| Ai fun ds => Aa rfl (Ae Ac) ?_
 refine Ah <| Ad <| A4 <| Bx [4, 5, 6, 7, 8, 9, 10, 11, 12, 13, 14, 15, 16, 17] (fun m e σ => ∃ k : Nat, m + k = xs.length ∧ e 5 = .int .i64 (k : Int) ∧ σ = ⟨F, []⟩ ∧ ∀ j (hj : j < xs.length), j < k → xs[j] ≠ z) (xs.length) ?_ ?_
 · exact ⟨0, by omega, (Ab), rfl, fun j hj h => absurd h (by omega)⟩
 ·
  rintro m e _ ⟨k, hm, hs5, rfl, hno⟩
  by_cases hlt : k < xs.length
  ·
   refine Ag <| Ag <| Ai fun ds => Aa rfl (Af (As rfl hs5)) ?_
   refine Aa rfl (Af (Al rfl <| Ao rfl <| Ap rfl <| Ak rfl)) ?_
   refine Aa rfl (Bi Bs (Ab) hx.plain) ?_
   refine Aa rfl (Bt (Ap rfl <| Ab) (Ab)) ?_
   refine Ah <| Ad <| Aq (Ab) (by first | rfl | exact decide_eq_true (by omega)) ?_
   by_cases he : xs[k] = z
   ·
    refine Aw <| Ad <| Ag <| A4 <| Ag <| Ai fun ds => Aa rfl (Af (Ay rfl <| Ao rfl <| Ap rfl <| Ak rfl)) ?_
    refine Aa rfl (Af (Ay rfl <| Al rfl <| As rfl hs5)) ?_
    refine Aa rfl (Bh  Bs (Al rfl <| Ab) hx.plain (Ab) rfl hlt) ?_
    refine Aa rfl (Ar Bj (Ab) (hx.cell1 hlt rfl)) ?_
    refine Aa rfl (Af (A9 rfl <| Ao rfl <| Ap rfl <| Ak rfl)) ?_
    refine Aa rfl (B7 (Al rfl <| Ab) (Ab)) ?_
    refine Ah <| Ad <| Aq (Ab) (decide_eq_true he) ?_
    refine Ag <| Ai fun ds => Aa rfl (Ae Ac) ?_
    refine Ah <| Ad <| A5 <| Bb (A3 (A3 (Bb (A3 ?_))))
    refine Ax rfl (.tmp (Ab) .nil) ?_
    show _ = _
    rw [decide_eq_true (by rw [← he]; exact List.getElem_mem hlt : z ∈ xs)]; rfl
   ·
    refine Aw <| Ad <| Ag <| A4 <| Ag <| Ai fun ds => Aa rfl (Af (Ay rfl <| Ao rfl <| Ap rfl <| Ak rfl)) ?_
    refine Aa rfl (Af (Ay rfl <| Al rfl <| As rfl hs5)) ?_
    refine Aa rfl (Bh  Bs (Al rfl <| Ab) hx.plain (Ab) rfl hlt) ?_
    refine Aa rfl (Ar Bj (Ab) (hx.cell1 hlt rfl)) ?_
    refine Aa rfl (Af (A9 rfl <| Ao rfl <| Ap rfl <| Ak rfl)) ?_
    refine Aa rfl (B7 (Al rfl <| Ab) (Ab)) ?_
    refine Ah <| Ad <| Am (Ab) (decide_eq_false he) ?_
    refine Aw <| Bf <| Ad <| Ai fun ds => Aa rfl (Af (A9 rfl <| Ap rfl <| As rfl hs5)) ?_
    refine Aa rfl (Bp (Ab) Ac rfl (by omega) (by omega)) ?_
    refine Aa rfl (Ae (Ab)) ?_
    refine Ah <| Ad ⟨_, m - 1, Off.eq (D7 rfl <| Et rfl <| Ej rfl <| Bd), by omega, ?_⟩
    refine ⟨k + 1, by omega, (Ab), rfl, fun j hj hjk => ?_⟩
    rcases Nat.lt_succ_iff_lt_or_eq.1 hjk with hjk | rfl
    · exact hno j hj hjk
    · exact he
  ·
   refine Ag <| Ag <| Ai fun ds => Aa rfl (Af (As rfl hs5)) ?_
   refine Aa rfl (Af (Al rfl <| Ao rfl <| Ap rfl <| Ak rfl)) ?_
   refine Aa rfl (Bi Bs (Ab) hx.plain) ?_
   refine Aa rfl (Bt (Ap rfl <| Ab) (Ab)) ?_
   refine Ah <| Ad <| Am (Ab) (by first | rfl | exact decide_eq_false (by omega)) ?_
   refine Bv ?_
   refine Bk <| Bk <| Bn <| Ad <| Ag <| Ai fun ds => Aa rfl (Ae Ac) ?_
   refine Ah <| Ad <| A5 <| Ax rfl (.tmp (Ab) .nil) ?_
   show _ = _
   rw [decide_eq_false (fun h : z ∈ xs => by obtain ⟨j, hj, he⟩ := List.mem_iff_getElem.1 h; exact hno j hj (by omega) he)]; rfl
theorem ringErr_4 {s : Sale} {ring : List Int} (h : (ring.any fun z => !(inB 0 (s.bidders.length - 1) z)) = true) : ringErr s ring = 4 := if_pos h
theorem ringErr_2 {s : Sale} {ring : List Int} (h : (ring.any fun z => !(inB 0 (s.bidders.length - 1) z)) = false) (h2 : notAsc ring = true) : ringErr s ring = 2 := by unfold ringErr; rw [if_neg (by rw [h]; decide), if_pos h2]
theorem ringErr_3 {s : Sale} {ring : List Int} (h : (ring.any fun z => !(inB 0 (s.bidders.length - 1) z)) = false) (h2 : notAsc ring = false) (h3 : ring.length = 1) : ringErr s ring = 3 := by unfold ringErr; rw [if_neg (by rw [h]; decide), if_neg (by rw [h2]; decide), if_pos h3]
theorem ringErr_0 {s : Sale} {ring : List Int} (h : (ring.any fun z => !(inB 0 (s.bidders.length - 1) z)) = false) (h2 : notAsc ring = false) (h3 : ¬ ring.length = 1) : ringErr s ring = 0 := by unfold ringErr; rw [if_neg (by rw [h]; decide), if_neg (by rw [h2]; decide), if_neg h3]
theorem ringErr_ok {s : Sale} {ring : List Int} (h : ringErr s ring = 0) : (ring.any fun z => !(inB 0 (s.bidders.length - 1) z)) = false ∧ notAsc ring = false ∧ ¬ ring.length = 1 := by
 unfold ringErr at h
 split at h
 · cases h
 · rename_i h1
   split at h
   · cases h
   · rename_i h2
     split at h
     · cases h
     · rename_i h3; exact ⟨by simpa using h1, by simpa using h2, h3⟩
theorem topTo_lt {s : Sale} {lot : Int} {mem : Int → Bool} (k : Nat) : -1 ≤ topTo s lot mem k ∧ topTo s lot mem k < k ∨ k = 0 ∧ topTo s lot mem k = -1 := by
 rcases top_spec (s := s) (lot := lot) (mem := mem) k with ⟨h, -⟩ | ⟨b, h1, -, -, h, -⟩ <;> omega
set_option maxRecDepth 100000 in
theorem refStrongest_ok {F : Heap} {vs vb vl vn vd : Value} {s : Sale} (hr : SaleR F vs vb vl vn vd s) {vr : Value} {ring : List Int} (hx : Ints F vr ring) (lot : Int) (all : Bool) : Ok Try.prog 90 [.agg #[vs, .int .i64 s.premium, .int .i64 s.fee, .int .i64 s.days, vb, vl, vn, vd], .int .i64 lot, vr, .bool all].toArray F fun r _ => r = .int .i64 (topS s lot (fun b => all || inRing ring b)) := by
 refine Ok.intro Try.func90 rfl Try.ntmps90 rfl fun w0 => ?_
 have hL1 := hr.bids.plain.lt
 refine Ag <| Ai fun ds => Bm rfl (B9 (Ak rfl) rfl fun b1 hb1 nb1 => ?_)
 refine Aa rfl (Ae Ac) ?_
 refine Ah <| Ad <| Ag <| Ai fun ds => Aa rfl (Ae Ac) ?_
 refine Ah <| Ad <| Ag <| Ag <| Ai fun ds => Aa rfl (Ae Ac) ?_
 refine Ah <| Ad <| A4 <| Bx [9, 10, 11, 12, 13, 14, 15, 16, 17, 18, 19, 20, 21, 22, 23, 24, 25, 26, 27, 28, 29, 30, 31, 32, 33, 34, 35, 36, 37, 38, 39, 40, 41, 42, 43, 44, 45, 46, 47, 48, 49, 50, 51, 52] (fun m e σ => ∃ k : Nat, m + k = s.bids.length ∧ e 10 = .int .i64 (k : Int) ∧ e 9 = .int .i64 (topTo s lot (fun b => all || inRing ring b) k) ∧ σ = ⟨F, [(b1, bx 27 [vs, .int .i64 s.premium, .int .i64 s.fee, .int .i64 s.days, vb, vl, vn, vd])]⟩) (s.bids.length) ?_ ?_
 · exact ⟨0, by omega, (Ab), (Al rfl <| Ab), rfl⟩
 ·
  rintro m e _ ⟨k, hm9, hs10, hs9, rfl⟩
  by_cases hlt : k < s.bids.length
  ·
   have htl := topTo_lt (s := s) (lot := lot) (mem := (fun b => all || inRing ring b)) k
   refine Ag <| Ag <| Ai fun ds => Aa rfl (Af (As rfl hs10)) ?_
   refine Aa rfl (Aj Cy (Al rfl <| Ao rfl <| Ap rfl <| Al rfl <| Ab)) ?_
   refine Aa rfl (Ar Dd (Ab) (Cell.own 0 rfl rfl)) ?_
   refine Aa rfl (Bi Dj (Ab) hr.bids.plain) ?_
   refine Aa rfl (Bt (Ap rfl <| Al rfl <| Ab) (Ab)) ?_
   refine Ah <| Ad <| Aq (Ab) (by first | rfl | exact decide_eq_true (by omega)) ?_
   by_cases hl : (s.bid k).lot = lot
   ·
    refine Aw <| Ad <| Ag <| A4 <| Ag <| Ai fun ds => Aa rfl (Aj Cy (Ay rfl <| Al rfl <| Ao rfl <| Ap rfl <| Al rfl <| Ab)) ?_
    refine Aa rfl (Ar Dd (Ab) (Cell.own 0 rfl rfl)) ?_
    refine Aa rfl (Af (Ay rfl <| Ap rfl <| Al rfl <| As rfl hs10)) ?_
    refine Aa rfl (Bh  Dj (Al rfl <| Ab) hr.bids.plain (Ab) rfl hlt) ?_
    refine Aa rfl (Bg agg_72 (Ab) rfl rfl (hr.bids.whole hlt)) ?_
    refine Bm rfl (B5 zr_72 rfl fun b3 hb3 nb3 => ?_)
    refine Cm (B4 sz_72 (Ab) (Al rfl <| Ab) (i := 0) rfl rfl rfl rfl Bid.enc_one (.here) ?_)
    refine Ah <| Ad <| Ag <| Cf (.inl rfl) (fun _ _ h => h) (by kernel_rfl) (by kernel_rfl) fun ds => ?_
    refine Az rfl (Aj E7 (Ab)) ?_
    refine Az rfl (Ar Bj (Ab) (Cell.own 0 rfl rfl)) ?_
    refine Az rfl (Af (A9 rfl <| Ay rfl <| Al rfl <| Ao rfl <| Ay rfl <| Ak rfl)) ?_
    refine Az rfl (B7 (Al rfl <| Ab) (Ab)) ?_
    refine Az rfl (Af (Ab)) ?_
    refine A7 rfl rfl (Ab) (decide_eq_true (by rw [Cg hlt]; exact hl)) ?_
    refine Az rfl (Af (Ba rfl <| Ao rfl <| Ay rfl <| Ak rfl)) ?_
    refine A7 rfl rfl (Al rfl <| Ab) (decide_eq_true (by rw [Cg hlt]; exact hl)) ?_
    refine Az rfl (Af (Ab)) ?_
    rcases Bool.eq_false_or_eq_true all with ha | ha
    ·
     have hm : (fun b => all || inRing ring b) (s.bid k).bidder = true := by simp [ha]
     refine A1 rfl rfl (Ab) (.inl (congrArg Value.bool ha)) rfl ?_
     refine A1 rfl rfl (Al rfl <| Ab) (.inl (congrArg Value.bool ha)) rfl ?_
     refine A1 rfl rfl (Ap rfl <| Ab) (.inl (congrArg Value.bool ha)) rfl ?_
     refine A1 rfl rfl (Ap rfl <| Al rfl <| Ab) (.inl (congrArg Value.bool ha)) rfl ?_
     refine A7 rfl rfl (Ay rfl <| Ap rfl <| Ab) (decide_eq_true (by rw [Cg hlt]; exact hl)) ?_
     refine Az rfl (A6 (Ay rfl <| Ab) ha Ac) ?_
     refine Az rfl (A6 (Ay rfl <| Ap rfl <| Al rfl <| Ab) (decide_eq_true (by rw [Cg hlt]; exact hl)) (Ab)) ?_
     refine Az rfl (Af (Ab)) ?_
     refine A7 rfl rfl (Ab) rfl ?_
     refine Az rfl (Af (Ba rfl <| A9 rfl <| Al rfl <| As rfl hs9)) ?_
     refine A7 rfl rfl (Al rfl <| Ab) rfl ?_
     refine Az rfl (Bt (Ab) Ac) ?_
     refine A7 rfl rfl (Ap rfl <| Ab) rfl ?_
     refine Az rfl (Af (Ab)) ?_
     by_cases h0 : (topTo s lot (fun b => all || inRing ring b) k) < 0
     ·
      refine A1 rfl rfl (Ab) (.inl (congrArg Value.bool (decide_eq_true h0))) rfl ?_
      refine A1 rfl rfl (Al rfl <| Ab) (.inl (congrArg Value.bool (decide_eq_true h0))) rfl ?_
      refine A1 rfl rfl (Ap rfl <| Ab) (.inl (congrArg Value.bool (decide_eq_true h0))) rfl ?_
      refine A1 rfl rfl (Ap rfl <| Al rfl <| Ab) (.inl (congrArg Value.bool (decide_eq_true h0))) rfl ?_
      refine A1 rfl rfl (Ay rfl <| Ab) (.inl (congrArg Value.bool (decide_eq_true h0))) rfl ?_
      refine A1 rfl rfl (Ay rfl <| Al rfl <| Ab) (.inl (congrArg Value.bool (decide_eq_true h0))) rfl ?_
      refine A1 rfl rfl (Ay rfl <| Ap rfl <| Ab) (.inl (congrArg Value.bool (decide_eq_true h0))) rfl ?_
      refine A1 rfl rfl (Ay rfl <| Ap rfl <| Al rfl <| Ab) (.inl (congrArg Value.bool (decide_eq_true h0))) rfl ?_
      refine A1 rfl rfl (A9 rfl <| Ab) (.inl (congrArg Value.bool (decide_eq_true h0))) rfl ?_
      refine A7 rfl rfl (A9 rfl <| Ay rfl <| Ab) rfl ?_
      refine Az rfl (A6 (A9 rfl <| Al rfl <| Ab) (decide_eq_true h0) Ac) ?_
      refine Az rfl (A6 (A9 rfl <| Ay rfl <| Al rfl <| Ab) rfl (Ab)) ?_
      refine Cb ?_
      refine Ad <| Aq (Ab) rfl ?_
      refine Ai fun ds => Aa rfl (Af (Bo rfl <| Ay rfl <| Ap rfl <| Al rfl <| As rfl hs10)) ?_
      refine Aa rfl (Ae (Ab)) ?_
      refine Ah <| Bf <| Ad <| Cd (fun _ _ h => h.drop (.cons _ <| .cons_cons _ <| .refl _)) ?_
      refine Ai fun ds => Aa rfl (Af (Bo rfl <| A9 rfl <| Al rfl <| As rfl hs10)) ?_
      refine Aa rfl (Bp (Ab) Ac rfl (by omega) (by omega)) ?_
      refine Aa rfl (Ae (Ab)) ?_
      refine Ah <| Ad ⟨_, m - 1, Off.eq (Ey rfl <| D7 rfl <| Et rfl <| Bd), by omega, ?_⟩
      exact ⟨k + 1, by omega, (Ab), by rw [Ek, show topStep s lot (fun b => all || inRing ring b) (topTo s lot (fun b => all || inRing ring b) k) k = (k : Int) from if_pos ⟨hl, hm, .inl h0⟩]; exact (Ap rfl <| Al rfl <| Ab), rfl⟩
     ·
      obtain ⟨o, ho⟩ := Int.eq_ofNat_of_zero_le (show 0 ≤ (topTo s lot (fun b => all || inRing ring b) k) by omega)
      have hos : o < s.bids.length := by omega
      refine A7 rfl rfl (Ab) (decide_eq_false h0) ?_
      refine Az rfl (Aj E6 (Ba rfl <| Al rfl <| Ab)) ?_
      refine A7 rfl rfl (Al rfl <| Ab) (decide_eq_false h0) ?_
      refine Az rfl (Ar Bj (Ab) (Cell.own 0 rfl rfl)) ?_
      refine A7 rfl rfl (Ap rfl <| Ab) (decide_eq_false h0) ?_
      refine Az rfl (Aj Cy (Ba rfl <| A9 rfl <| Ay rfl <| Ap rfl <| Ao rfl <| Ap rfl <| Al rfl <| Ab)) ?_
      refine A7 rfl rfl (Ap rfl <| Al rfl <| Ab) (decide_eq_false h0) ?_
      refine Az rfl (Ar Dd (Ab) (Cell.own 1 rfl rfl)) ?_
      refine A7 rfl rfl (Ay rfl <| Ab) (decide_eq_false h0) ?_
      refine Az rfl (Af (Bo rfl <| As rfl hs9)) ?_
      refine A7 rfl rfl (Ay rfl <| Al rfl <| Ab) (decide_eq_false h0) ?_
      refine Az rfl (Bh (k := o) Dj (Al rfl <| Ab) hr.bids.plain (Ab) ho hos) ?_
      refine A7 rfl rfl (Ay rfl <| Ap rfl <| Ab) (decide_eq_false h0) ?_
      refine Az rfl (B0 E6 (Ab)) ?_
      refine A7 rfl rfl (Ay rfl <| Ap rfl <| Al rfl <| Ab) (decide_eq_false h0) ?_
      refine Az rfl (Ar Bj (Ab) (hr.bids.cell hos rfl)) ?_
      refine A7 rfl rfl (A9 rfl <| Ab) (decide_eq_false h0) ?_
      refine Az rfl (Cj (Ay rfl <| Ap rfl <| Ab) (Ab)) ?_
      refine A7 rfl rfl (A9 rfl <| Ay rfl <| Ab) rfl ?_
      refine Az rfl (A8 (A9 rfl <| Al rfl <| Ab) (decide_eq_false h0) (Ab)) ?_
      refine Az rfl (A6 (A9 rfl <| Ay rfl <| Al rfl <| Ab) rfl (Ab)) ?_
      refine Cb ?_
      refine Ad ?_
      by_cases hmo : (s.bid o).most < (s.bid k).most
      ·
       refine Aq (Ab) (decide_eq_true (by rw [Cg hlt, Cg hos]; exact hmo)) ?_
       refine Ai fun ds => Aa rfl (Af (Bo rfl <| Ay rfl <| Ap rfl <| Al rfl <| As rfl hs10)) ?_
       refine Aa rfl (Ae (Ab)) ?_
       refine Ah <| Bf <| Ad <| Cd (fun _ _ h => h.drop (.cons _ <| .cons_cons _ <| .refl _)) ?_
       refine Ai fun ds => Aa rfl (Af (Bo rfl <| A9 rfl <| Al rfl <| As rfl hs10)) ?_
       refine Aa rfl (Bp (Ab) Ac rfl (by omega) (by omega)) ?_
       refine Aa rfl (Ae (Ab)) ?_
       refine Ah <| Ad ⟨_, m - 1, Off.eq (Ey rfl <| D7 rfl <| Et rfl <| Bd), by omega, ?_⟩
       exact ⟨k + 1, by omega, (Ab), by rw [Ek, show topStep s lot (fun b => all || inRing ring b) (topTo s lot (fun b => all || inRing ring b) k) k = (k : Int) from if_pos ⟨hl, hm, .inr (by rw [ho]; exact hmo)⟩]; exact (Ap rfl <| Al rfl <| Ab), rfl⟩
      ·
       refine Am (Ab) (decide_eq_false (by rw [Cg hlt, Cg hos]; exact hmo)) ?_
       refine Aw <| Bf <| Ad <| Cd (fun _ _ h => h.drop (.cons _ <| .cons_cons _ <| .refl _)) ?_
       refine Ai fun ds => Aa rfl (Af (Bo rfl <| Ay rfl <| Ap rfl <| Al rfl <| As rfl hs10)) ?_
       refine Aa rfl (Bp (Ab) Ac rfl (by omega) (by omega)) ?_
       refine Aa rfl (Ae (Ab)) ?_
       refine Ah <| Ad ⟨_, m - 1, Off.eq (Ey rfl <| D7 rfl <| Eb rfl <| Bd), by omega, ?_⟩
       exact ⟨k + 1, by omega, (Ab), by rw [Ek, show topStep s lot (fun b => all || inRing ring b) (topTo s lot (fun b => all || inRing ring b) k) k = (topTo s lot (fun b => all || inRing ring b) k) from if_neg fun h => h.2.2.elim h0 (fun h => hmo (by rw [ho] at h; exact h))]; exact (Bo rfl <| A9 rfl <| Ap rfl <| As rfl hs9), rfl⟩
    ·
     refine A7 rfl rfl (Ab) ha ?_
     refine Az rfl (Af (Ba rfl <| Ap rfl <| Ao rfl <| Ay rfl <| Ak rfl)) ?_
     refine A7 rfl rfl (Al rfl <| Ab) ha ?_
     refine Az rfl (Aj D5 (A9 rfl <| Ab)) ?_
     refine A7 rfl rfl (Ap rfl <| Ab) ha ?_
     refine Az rfl (Ar Bj (Ab) (Cell.own 0 rfl rfl)) ?_
     refine A7 rfl rfl (Ap rfl <| Al rfl <| Ab) ha ?_
     refine WQ_c rfl (Bc bd_42 A0 (.cons (Ap rfl <| Ab) (.cons (Ab) .nil)) (has_ok hx _) (fun _ _ h => h)) ?_
     refine A7 rfl rfl (Ay rfl <| Ap rfl <| Ab) (decide_eq_true (by rw [Cg hlt]; exact hl)) ?_
     refine Az rfl (A8 (Ay rfl <| Ab) ha (Ab)) ?_
     refine Az rfl (A6 (Ay rfl <| Ap rfl <| Al rfl <| Ab) (decide_eq_true (by rw [Cg hlt]; exact hl)) (Ab)) ?_
     refine Az rfl (Af (Ab)) ?_
     by_cases hin : inRing ring (s.bid k).bidder = true
     ·
      have hm : (fun b => all || inRing ring b) (s.bid k).bidder = true := by simp [hin]
      refine A7 rfl rfl (Ab) (by rw [Cg hlt]; exact hin) ?_
      refine Az rfl (Af (Ba rfl <| A9 rfl <| Al rfl <| As rfl hs9)) ?_
      refine A7 rfl rfl (Al rfl <| Ab) (by rw [Cg hlt]; exact hin) ?_
      refine Az rfl (Bt (Ab) Ac) ?_
      refine A7 rfl rfl (Ap rfl <| Ab) (by rw [Cg hlt]; exact hin) ?_
      refine Az rfl (Af (Ab)) ?_
      by_cases h0 : (topTo s lot (fun b => all || inRing ring b) k) < 0
      ·
       refine A1 rfl rfl (Ab) (.inl (congrArg Value.bool (decide_eq_true h0))) rfl ?_
       refine A1 rfl rfl (Al rfl <| Ab) (.inl (congrArg Value.bool (decide_eq_true h0))) rfl ?_
       refine A1 rfl rfl (Ap rfl <| Ab) (.inl (congrArg Value.bool (decide_eq_true h0))) rfl ?_
       refine A1 rfl rfl (Ap rfl <| Al rfl <| Ab) (.inl (congrArg Value.bool (decide_eq_true h0))) rfl ?_
       refine A1 rfl rfl (Ay rfl <| Ab) (.inl (congrArg Value.bool (decide_eq_true h0))) rfl ?_
       refine A1 rfl rfl (Ay rfl <| Al rfl <| Ab) (.inl (congrArg Value.bool (decide_eq_true h0))) rfl ?_
       refine A1 rfl rfl (Ay rfl <| Ap rfl <| Ab) (.inl (congrArg Value.bool (decide_eq_true h0))) rfl ?_
       refine A1 rfl rfl (Ay rfl <| Ap rfl <| Al rfl <| Ab) (.inl (congrArg Value.bool (decide_eq_true h0))) rfl ?_
       refine A1 rfl rfl (A9 rfl <| Ab) (.inl (congrArg Value.bool (decide_eq_true h0))) rfl ?_
       refine A7 rfl rfl (A9 rfl <| Ay rfl <| Ab) (by rw [Cg hlt]; exact hin) ?_
       refine Az rfl (A6 (A9 rfl <| Al rfl <| Ab) (decide_eq_true h0) Ac) ?_
       refine Az rfl (A6 (A9 rfl <| Ay rfl <| Al rfl <| Ab) (by rw [Cg hlt]; exact hin) (Ab)) ?_
       refine Cb ?_
       refine Ad <| Aq (Ab) rfl ?_
       refine Ai fun ds => Aa rfl (Af (Bo rfl <| Ay rfl <| Ap rfl <| Al rfl <| As rfl hs10)) ?_
       refine Aa rfl (Ae (Ab)) ?_
       refine Ah <| Bf <| Ad <| Cd (fun _ _ h => h.drop (.cons _ <| .cons_cons _ <| .refl _)) ?_
       refine Ai fun ds => Aa rfl (Af (Bo rfl <| A9 rfl <| Al rfl <| As rfl hs10)) ?_
       refine Aa rfl (Bp (Ab) Ac rfl (by omega) (by omega)) ?_
       refine Aa rfl (Ae (Ab)) ?_
       refine Ah <| Ad ⟨_, m - 1, Off.eq (Ey rfl <| D7 rfl <| Et rfl <| Bd), by omega, ?_⟩
       exact ⟨k + 1, by omega, (Ab), by rw [Ek, show topStep s lot (fun b => all || inRing ring b) (topTo s lot (fun b => all || inRing ring b) k) k = (k : Int) from if_pos ⟨hl, hm, .inl h0⟩]; exact (Ap rfl <| Al rfl <| Ab), rfl⟩
      ·
       obtain ⟨o, ho⟩ := Int.eq_ofNat_of_zero_le (show 0 ≤ (topTo s lot (fun b => all || inRing ring b) k) by omega)
       have hos : o < s.bids.length := by omega
       refine A7 rfl rfl (Ab) (decide_eq_false h0) ?_
       refine Az rfl (Aj E6 (Ba rfl <| Al rfl <| Ab)) ?_
       refine A7 rfl rfl (Al rfl <| Ab) (decide_eq_false h0) ?_
       refine Az rfl (Ar Bj (Ab) (Cell.own 0 rfl rfl)) ?_
       refine A7 rfl rfl (Ap rfl <| Ab) (decide_eq_false h0) ?_
       refine Az rfl (Aj Cy (Ba rfl <| A9 rfl <| Ay rfl <| Ap rfl <| Ao rfl <| Ap rfl <| Al rfl <| Ab)) ?_
       refine A7 rfl rfl (Ap rfl <| Al rfl <| Ab) (decide_eq_false h0) ?_
       refine Az rfl (Ar Dd (Ab) (Cell.own 1 rfl rfl)) ?_
       refine A7 rfl rfl (Ay rfl <| Ab) (decide_eq_false h0) ?_
       refine Az rfl (Af (Bo rfl <| As rfl hs9)) ?_
       refine A7 rfl rfl (Ay rfl <| Al rfl <| Ab) (decide_eq_false h0) ?_
       refine Az rfl (Bh (k := o) Dj (Al rfl <| Ab) hr.bids.plain (Ab) ho hos) ?_
       refine A7 rfl rfl (Ay rfl <| Ap rfl <| Ab) (decide_eq_false h0) ?_
       refine Az rfl (B0 E6 (Ab)) ?_
       refine A7 rfl rfl (Ay rfl <| Ap rfl <| Al rfl <| Ab) (decide_eq_false h0) ?_
       refine Az rfl (Ar Bj (Ab) (hr.bids.cell hos rfl)) ?_
       refine A7 rfl rfl (A9 rfl <| Ab) (decide_eq_false h0) ?_
       refine Az rfl (Cj (Ay rfl <| Ap rfl <| Ab) (Ab)) ?_
       refine A7 rfl rfl (A9 rfl <| Ay rfl <| Ab) (by rw [Cg hlt]; exact hin) ?_
       refine Az rfl (A8 (A9 rfl <| Al rfl <| Ab) (decide_eq_false h0) (Ab)) ?_
       refine Az rfl (A6 (A9 rfl <| Ay rfl <| Al rfl <| Ab) (by rw [Cg hlt]; exact hin) (Ab)) ?_
       refine Cb ?_
       refine Ad ?_
       by_cases hmo : (s.bid o).most < (s.bid k).most
       ·
        refine Aq (Ab) (decide_eq_true (by rw [Cg hlt, Cg hos]; exact hmo)) ?_
        refine Ai fun ds => Aa rfl (Af (Bo rfl <| Ay rfl <| Ap rfl <| Al rfl <| As rfl hs10)) ?_
        refine Aa rfl (Ae (Ab)) ?_
        refine Ah <| Bf <| Ad <| Cd (fun _ _ h => h.drop (.cons _ <| .cons_cons _ <| .refl _)) ?_
        refine Ai fun ds => Aa rfl (Af (Bo rfl <| A9 rfl <| Al rfl <| As rfl hs10)) ?_
        refine Aa rfl (Bp (Ab) Ac rfl (by omega) (by omega)) ?_
        refine Aa rfl (Ae (Ab)) ?_
        refine Ah <| Ad ⟨_, m - 1, Off.eq (Ey rfl <| D7 rfl <| Et rfl <| Bd), by omega, ?_⟩
        exact ⟨k + 1, by omega, (Ab), by rw [Ek, show topStep s lot (fun b => all || inRing ring b) (topTo s lot (fun b => all || inRing ring b) k) k = (k : Int) from if_pos ⟨hl, hm, .inr (by rw [ho]; exact hmo)⟩]; exact (Ap rfl <| Al rfl <| Ab), rfl⟩
       ·
        refine Am (Ab) (decide_eq_false (by rw [Cg hlt, Cg hos]; exact hmo)) ?_
        refine Aw <| Bf <| Ad <| Cd (fun _ _ h => h.drop (.cons _ <| .cons_cons _ <| .refl _)) ?_
        refine Ai fun ds => Aa rfl (Af (Bo rfl <| Ay rfl <| Ap rfl <| Al rfl <| As rfl hs10)) ?_
        refine Aa rfl (Bp (Ab) Ac rfl (by omega) (by omega)) ?_
        refine Aa rfl (Ae (Ab)) ?_
        refine Ah <| Ad ⟨_, m - 1, Off.eq (Ey rfl <| D7 rfl <| Eb rfl <| Bd), by omega, ?_⟩
        exact ⟨k + 1, by omega, (Ab), by rw [Ek, show topStep s lot (fun b => all || inRing ring b) (topTo s lot (fun b => all || inRing ring b) k) k = (topTo s lot (fun b => all || inRing ring b) k) from if_neg fun h => h.2.2.elim h0 (fun h => hmo (by rw [ho] at h; exact h))]; exact (Bo rfl <| A9 rfl <| Ap rfl <| As rfl hs9), rfl⟩
     ·
      replace hin : inRing ring (s.bid k).bidder = false := by simpa using hin
      refine A1 rfl rfl (Ab) (.inl (congrArg Value.bool (by rw [Cg hlt]; exact hin))) rfl ?_
      refine A1 rfl rfl (Al rfl <| Ab) (.inl (congrArg Value.bool (by rw [Cg hlt]; exact hin))) rfl ?_
      refine A1 rfl rfl (Ap rfl <| Ab) (.inl (congrArg Value.bool (by rw [Cg hlt]; exact hin))) rfl ?_
      refine A1 rfl rfl (Ab) (.inr rfl) rfl ?_
      refine A1 rfl rfl (Al rfl <| Ab) (.inr rfl) rfl ?_
      refine A1 rfl rfl (Ap rfl <| Ab) (.inr rfl) rfl ?_
      refine A1 rfl rfl (Ap rfl <| Al rfl <| Ab) (.inr rfl) rfl ?_
      refine A1 rfl rfl (Ay rfl <| Ab) (.inr rfl) rfl ?_
      refine A1 rfl rfl (Ay rfl <| Al rfl <| Ab) (.inr rfl) rfl ?_
      refine A1 rfl rfl (Ay rfl <| Ap rfl <| Ab) (.inr rfl) rfl ?_
      refine A1 rfl rfl (Ay rfl <| Ap rfl <| Al rfl <| Ab) (.inr rfl) rfl ?_
      refine A1 rfl rfl (A9 rfl <| Ab) (.inr rfl) rfl ?_
      refine A1 rfl rfl (A9 rfl <| Ay rfl <| Ab) (.inl (congrArg Value.bool (by rw [Cg hlt]; exact hin))) rfl ?_
      refine Az rfl (A8 (A9 rfl <| Ay rfl <| Al rfl <| Ab) (by rw [Cg hlt]; exact hin) Ac) ?_
      refine Cb ?_
      refine Ad <| Am (Ab) rfl ?_
      refine Aw <| Bf <| Ad <| Cd (fun _ _ h => h.drop (.cons _ <| .cons_cons _ <| .refl _)) ?_
      refine Ai fun ds => Aa rfl (Af (Bo rfl <| Ay rfl <| Ap rfl <| Al rfl <| As rfl hs10)) ?_
      refine Aa rfl (Bp (Ab) Ac rfl (by omega) (by omega)) ?_
      refine Aa rfl (Ae (Ab)) ?_
      refine Ah <| Ad ⟨_, m - 1, Off.eq (Ey rfl <| D7 rfl <| Eb rfl <| Bd), by omega, ?_⟩
      exact ⟨k + 1, by omega, (Ab), by rw [Ek, show topStep s lot (fun b => all || inRing ring b) (topTo s lot (fun b => all || inRing ring b) k) k = (topTo s lot (fun b => all || inRing ring b) k) from if_neg fun h => by have h2 := h.2.1; simp [ha, hin] at h2]; exact (Bo rfl <| A9 rfl <| Ap rfl <| As rfl hs9), rfl⟩
   ·
    refine Aw <| Ad <| Ag <| A4 <| Ag <| Ai fun ds => Aa rfl (Aj Cy (Ay rfl <| Al rfl <| Ao rfl <| Ap rfl <| Al rfl <| Ab)) ?_
    refine Aa rfl (Ar Dd (Ab) (Cell.own 0 rfl rfl)) ?_
    refine Aa rfl (Af (Ay rfl <| Ap rfl <| Al rfl <| As rfl hs10)) ?_
    refine Aa rfl (Bh  Dj (Al rfl <| Ab) hr.bids.plain (Ab) rfl hlt) ?_
    refine Aa rfl (Bg agg_72 (Ab) rfl rfl (hr.bids.whole hlt)) ?_
    refine Bm rfl (B5 zr_72 rfl fun b4 hb4 nb4 => ?_)
    refine Cm (B4 sz_72 (Ab) (Al rfl <| Ab) (i := 0) rfl rfl rfl rfl Bid.enc_one (.here) ?_)
    refine Ah <| Ad <| Ag <| Cf (.inl rfl) (fun _ _ h => h) (by kernel_rfl) (by kernel_rfl) fun ds => ?_
    refine Az rfl (Aj E7 (Ab)) ?_
    refine Az rfl (Ar Bj (Ab) (Cell.own 0 rfl rfl)) ?_
    refine Az rfl (Af (A9 rfl <| Ay rfl <| Al rfl <| Ao rfl <| Ay rfl <| Ak rfl)) ?_
    refine Az rfl (B7 (Al rfl <| Ab) (Ab)) ?_
    refine Az rfl (Af (Ab)) ?_
    refine A1 rfl rfl (Ab) (.inl (congrArg Value.bool (decide_eq_false (by rw [Cg hlt]; exact hl)))) rfl ?_
    refine A1 rfl rfl (Al rfl <| Ab) (.inl (congrArg Value.bool (decide_eq_false (by rw [Cg hlt]; exact hl)))) rfl ?_
    refine A1 rfl rfl (Ab) (.inr rfl) rfl ?_
    refine A1 rfl rfl (Al rfl <| Ab) (.inr rfl) rfl ?_
    refine A1 rfl rfl (Ap rfl <| Ab) (.inr rfl) rfl ?_
    refine A1 rfl rfl (Ap rfl <| Al rfl <| Ab) (.inr rfl) rfl ?_
    refine A1 rfl rfl (Ay rfl <| Ap rfl <| Ab) (.inl (congrArg Value.bool (decide_eq_false (by rw [Cg hlt]; exact hl)))) rfl ?_
    refine Az rfl (A8 (Ay rfl <| Ap rfl <| Al rfl <| Ab) (decide_eq_false (by rw [Cg hlt]; exact hl)) Ac) ?_
    refine Az rfl (Af (Ab)) ?_
    refine A1 rfl rfl (Ab) (.inl (congrArg Value.bool rfl)) rfl ?_
    refine A1 rfl rfl (Al rfl <| Ab) (.inl (congrArg Value.bool rfl)) rfl ?_
    refine A1 rfl rfl (Ap rfl <| Ab) (.inl (congrArg Value.bool rfl)) rfl ?_
    refine A1 rfl rfl (Ab) (.inr rfl) rfl ?_
    refine A1 rfl rfl (Al rfl <| Ab) (.inr rfl) rfl ?_
    refine A1 rfl rfl (Ap rfl <| Ab) (.inr rfl) rfl ?_
    refine A1 rfl rfl (Ap rfl <| Al rfl <| Ab) (.inr rfl) rfl ?_
    refine A1 rfl rfl (Ay rfl <| Ab) (.inr rfl) rfl ?_
    refine A1 rfl rfl (Ay rfl <| Al rfl <| Ab) (.inr rfl) rfl ?_
    refine A1 rfl rfl (Ay rfl <| Ap rfl <| Ab) (.inr rfl) rfl ?_
    refine A1 rfl rfl (Ay rfl <| Ap rfl <| Al rfl <| Ab) (.inr rfl) rfl ?_
    refine A1 rfl rfl (A9 rfl <| Ab) (.inr rfl) rfl ?_
    refine A1 rfl rfl (A9 rfl <| Ay rfl <| Ab) (.inl (congrArg Value.bool rfl)) rfl ?_
    refine Az rfl (A8 (A9 rfl <| Ay rfl <| Al rfl <| Ab) rfl Ac) ?_
    refine Cb ?_
    refine Ad <| Am (Ab) rfl ?_
    refine Aw <| Bf <| Ad <| Cd (fun _ _ h => h.drop (.cons _ <| .cons_cons _ <| .refl _)) ?_
    refine Ai fun ds => Aa rfl (Af (Bo rfl <| Ay rfl <| Ap rfl <| Al rfl <| As rfl hs10)) ?_
    refine Aa rfl (Bp (Ab) Ac rfl (by omega) (by omega)) ?_
    refine Aa rfl (Ae (Ab)) ?_
    refine Ah <| Ad ⟨_, m - 1, Off.eq (Ey rfl <| D7 rfl <| Eb rfl <| Bd), by omega, ?_⟩
    exact ⟨k + 1, by omega, (Ab), by rw [Ek, show topStep s lot (fun b => all || inRing ring b) (topTo s lot (fun b => all || inRing ring b) k) k = (topTo s lot (fun b => all || inRing ring b) k) from if_neg fun h => hl h.1]; exact (Bo rfl <| A9 rfl <| Ap rfl <| As rfl hs9), rfl⟩
  ·
   refine Ag <| Ag <| Ai fun ds => Aa rfl (Af (As rfl hs10)) ?_
   refine Aa rfl (Aj Cy (Al rfl <| Ao rfl <| Ap rfl <| Al rfl <| Ab)) ?_
   refine Aa rfl (Ar Dd (Ab) (Cell.own 0 rfl rfl)) ?_
   refine Aa rfl (Bi Dj (Ab) hr.bids.plain) ?_
   refine Aa rfl (Bt (Ap rfl <| Al rfl <| Ab) (Ab)) ?_
   refine Ah <| Ad <| Am (Ab) (by first | rfl | exact decide_eq_false (by omega)) ?_
   obtain rfl : k = s.bids.length := by omega
   refine Bv ?_
   refine Bk <| Bk <| Bn <| Ad <| Ag <| Ai fun ds => Aa rfl (Af (Ay rfl <| Al rfl <| As rfl hs9)) ?_
   refine Aa rfl (Ae (Ab)) ?_
   refine Ah <| Ad <| A5 <| Ax rfl (.tmp (Ab) .nil) ?_
   rfl
end Go.Proofs.Ytaikojfonleccaa
namespace Go.Proofs.Ytaikojfonleccaa
open Go.RowKit
set_option maxRecDepth 100000 in
theorem refClimb_ok {F : Heap} {vs vb vl vn vd : Value} {s : Sale} (hr : SaleR F vs vb vl vn vd s) (hv : ValidS s) {p0 others most : Int} (h0 : 0 ≤ p0) (hp0 : p0 ≤ most) (ho : 0 ≤ others) (ho2 : others ≤ 100000) (hm2 : most ≤ 100000) : Ok Try.prog 117 [.agg #[vs, .int .i64 s.premium, .int .i64 s.fee, .int .i64 s.days, vb, vl, vn, vd], .int .i64 p0, .int .i64 others, .int .i64 most].toArray F fun r _ => r = .int .i64 (climbS s p0 others most) := by
 refine Ok.intro Try.func117 rfl Try.ntmps117 rfl fun w0 => ?_
 have hL1 := hr.steps.plain.lt
 refine Ag <| Ai fun ds => Bm rfl (B9 (Ak rfl) rfl fun b1 hb1 nb1 => ?_)
 refine Aa rfl (Ae Ac) ?_
 refine Ah <| Ad <| Ag <| Ag <| Ai fun ds => Aa rfl (Ae Ac) ?_
 refine Ah <| Ad <| A4 <| Bx [1, 8, 9, 10, 11, 12, 13, 14, 15, 16, 17, 18, 19, 20, 21, 22, 23, 24, 25, 26, 27, 28, 29, 30, 31, 32, 33, 34, 35, 36, 37, 38, 39, 40, 41, 42, 43, 44, 45, 46, 47, 48, 49, 50, 51, 52, 53, 54, 55, 56, 57, 58, 59, 60, 61, 62, 63, 64, 65, 66, 67, 68, 69, 70, 71, 72, 73, 74, 75, 76, 77, 78, 79, 80, 81, 82, 83, 84, 85] (fun m e σ => ∃ (k : Nat) (p : Int), m + k = s.steps.length ∧ e 9 = .int .i64 (k : Int) ∧ e 1 = .int .i64 p ∧ 0 ≤ p ∧ p ≤ most ∧ climbS s p others most = climbS s p0 others most ∧ (k < s.steps.length → (s.stp k).from_ ≤ p) ∧ (s.steps.length ≤ k → 300000 ≤ p) ∧ σ = ⟨F, [(b1, bx 27 [vs, .int .i64 s.premium, .int .i64 s.fee, .int .i64 s.days, vb, vl, vn, vd])]⟩) (s.steps.length) ?_ ?_
 · exact ⟨0, p0, by omega, (Ab), (Ap rfl <| Al rfl <| Ak rfl), h0, hp0, rfl, fun _ => by rw [hv.st0]; exact h0, fun h => absurd h (by have := hv.nst; omega), rfl⟩
 ·
  rintro m e _ ⟨k, p, hm9, hs9, hs1, h0p, hpm, hcl, hge, hbig, rfl⟩
  by_cases hlt : k < s.steps.length
  ·
   have hfr := hge hlt
   obtain ⟨f1, f2, f3, f4, f5⟩ := step_facts hv hlt
   refine Ag <| Ag <| Ai fun ds => Aa rfl (Af (As rfl hs9)) ?_
   refine Aa rfl (Aj Dg (Al rfl <| Ao rfl <| Ap rfl <| Ab)) ?_
   refine Aa rfl (Ar Dv (Ab) (Cell.own 0 rfl rfl)) ?_
   refine Aa rfl (Bi Ds (Ab) hr.steps.plain) ?_
   refine Aa rfl (Bt (Ap rfl <| Al rfl <| Ab) (Ab)) ?_
   refine Ah <| Ad <| Aq (Ab) (by first | rfl | exact decide_eq_true (by omega)) ?_
   by_cases hk1 : k + 1 < s.steps.length
   ·
    obtain ⟨g1, g2, g3, g4, g5⟩ := step_facts hv hk1
    have hse : stEnd s k = s.steps[k + 1].from_ := (if_pos hk1).trans g5.symm
    refine Aw <| Ad <| Ag <| A4 <| Ag <| Ai fun ds => Aa rfl (Aj Dg (Ay rfl <| Al rfl <| Ao rfl <| Ap rfl <| Ab)) ?_
    refine Aa rfl (Ar Dv (Ab) (Cell.own 0 rfl rfl)) ?_
    refine Aa rfl (Af (Ay rfl <| Ap rfl <| Al rfl <| As rfl hs9)) ?_
    refine Aa rfl (Bh  Ds (Al rfl <| Ab) hr.steps.plain (Ab) rfl hlt) ?_
    refine Aa rfl (B0 fd_98_1 (Ab)) ?_
    refine Aa rfl (Ar Bj (Ab) (hr.steps.cell hlt rfl)) ?_
    refine Aa rfl (Ae (Ab)) ?_
    refine Aa rfl (Ae Ac) ?_
    refine Ah <| Ad <| Ag <| Ag <| Ai fun ds => Aa rfl (Af (A9 rfl <| Ay rfl <| Al rfl <| As rfl hs9)) ?_
    refine Aa rfl (Bp (Ab) Ac rfl (by omega) (by omega)) ?_
    refine Aa rfl (Aj Dg (A9 rfl <| Ay rfl <| Ap rfl <| Al rfl <| Ao rfl <| Ap rfl <| Ab)) ?_
    refine Aa rfl (Ar Dv (Ab) (Cell.own 0 rfl rfl)) ?_
    refine Aa rfl (Bi Ds (Ab) hr.steps.plain) ?_
    refine Aa rfl (Bt (Ap rfl <| Al rfl <| Ab) (Ab)) ?_
    refine Ah <| Ad <| Aq (Ab) (decide_eq_true (by omega)) ?_
    by_cases hpe : p < s.steps[k + 1].from_
    ·
     refine Ai fun ds => Aa rfl (Aj Dg (Ba rfl <| Ap rfl <| Al rfl <| Ao rfl <| Ap rfl <| Ab)) ?_
     refine Aa rfl (Ar Dv (Ab) (Cell.own 0 rfl rfl)) ?_
     refine Aa rfl (Af (Ba rfl <| Ay rfl <| Al rfl <| As rfl hs9)) ?_
     refine Aa rfl (Bp (Ab) Ac rfl (by omega) (by omega)) ?_
     refine Aa rfl (Bh (k := k + 1) Ds (Ap rfl <| Ab) hr.steps.plain (Ab) rfl hk1) ?_
     refine Aa rfl (B0 Ec (Ab)) ?_
     refine Aa rfl (Ar Bj (Ab) (hr.steps.cell hk1 rfl)) ?_
     refine Aa rfl (Ae (Ab)) ?_
     refine Ah <| Ad <| Ag <| Ag <| Ai fun ds => Aa rfl (Af (Ba rfl <| A9 rfl <| Ap rfl <| Al rfl <| As rfl hs1)) ?_
     refine Aa rfl (Af (Al rfl <| Ab)) ?_
     refine Aa rfl (Dq (Al rfl <| Ab) (Ab)) ?_
     refine Ah <| Ad <| Am (Ab) (decide_eq_false (by omega)) ?_
     by_cases hpo : p ≤ others
     ·
      have hab : abv p others s.steps[k].by_ = (others - p) / s.steps[k].by_ + 1 := if_pos hpo
      have hq0 := Int.ediv_nonneg (show 0 ≤ others - p by omega) (show 0 ≤ s.steps[k].by_ by omega)
      have hq1 := Int.ediv_le_self s.steps[k].by_ (show 0 ≤ others - p by omega)
      refine Aw <| Ad <| Ag <| Ai fun ds => Aa rfl (Ae Ac) ?_
      refine Ah <| Ad <| Ag <| Ag <| Ai fun ds => Aa rfl (Af (Ba rfl <| A9 rfl <| Ay rfl <| Ap rfl <| Al rfl <| As rfl hs1)) ?_
      refine Aa rfl (Af (Bo rfl <| Ao rfl <| Ap rfl <| Al rfl <| Ak rfl)) ?_
      refine Aa rfl (Du (Al rfl <| Ab) (Ab)) ?_
      refine Ah <| Ad <| Aq (Ab) (decide_eq_true hpo) ?_
      obtain ⟨n0, n1, n2, n3, n4, n5, n6⟩ := str_spec2 hv hlt (most := most) hse hab hfr hpm hm2 hpe
      have hq2 := Int.ediv_nonneg (show 0 ≤ s.steps[k + 1].from_ - p + s.steps[k].by_ - 1 by omega) (show 0 ≤ s.steps[k].by_ by omega)
      have hq3 := Int.ediv_le_self s.steps[k].by_ (show 0 ≤ s.steps[k + 1].from_ - p + s.steps[k].by_ - 1 by omega)
      have hq4 := Int.ediv_nonneg (show 0 ≤ most - p by omega) (show 0 ≤ s.steps[k].by_ by omega)
      by_cases hA : min ((others - p) / s.steps[k].by_ + 1) (min ((s.steps[k + 1].from_ - p + s.steps[k].by_ - 1) / s.steps[k].by_) ((most - p) / s.steps[k].by_)) = ((others - p) / s.steps[k].by_ + 1)
      ·
       refine Ai fun ds => Aa rfl (Af (Bo rfl <| Ap rfl <| Ao rfl <| Ap rfl <| Al rfl <| Ak rfl)) ?_
       refine Aa rfl (Af (Bo rfl <| Ap rfl <| Al rfl <| As rfl hs1)) ?_
       refine Aa rfl (Cl (Al rfl <| Ab) (Ab) rfl (by omega) (by omega)) ?_
       refine Aa rfl (Af (Ba rfl <| A9 rfl <| Al rfl <| Ab)) ?_
       refine Aa rfl (Eo (Al rfl <| Ab) (Ab) (by omega) (by omega) (by omega)) ?_
       refine Aa rfl (Bp (Ab) Ac rfl (by omega) (by omega)) ?_
       refine Aa rfl (Ae (Ab)) ?_
       refine Ah <| Ad <| Ag <| Cf (.inl rfl) (fun _ _ h => h) (by kernel_rfl) (by kernel_rfl) fun ds => ?_
       refine Az rfl (Af (A9 rfl <| Ay rfl <| Ap rfl <| Ab)) ?_
       refine Az rfl (Af (Bo rfl <| A9 rfl <| Ap rfl <| As rfl hs1)) ?_
       refine Az rfl (Cl (Al rfl <| Ab) (Ab) rfl (by omega) (by omega)) ?_
       refine Az rfl (Af (Bo rfl <| Ab)) ?_
       refine Az rfl (Bp (Al rfl <| Ab) (Ab) rfl (by omega) (by omega)) ?_
       refine Az rfl (Cl (Ab) Ac rfl (by omega) (by omega)) ?_
       refine Az rfl (Af (Bo rfl <| Ap rfl <| Al rfl <| Ab)) ?_
       refine Az rfl (Eo (Al rfl <| Ab) (Ab) (by omega) (by omega) (by omega)) ?_
       refine Az rfl (Af (Bo rfl <| Ba rfl <| Al rfl <| Ao rfl <| Ap rfl <| Al rfl <| Ak rfl)) ?_
       refine Az rfl (Af (Bo rfl <| Ba rfl <| Ap rfl <| As rfl hs1)) ?_
       refine Az rfl (Cl (Al rfl <| Ab) (Ab) rfl (by omega) (by omega)) ?_
       refine Az rfl (Af (Bo rfl <| A9 rfl <| Ab)) ?_
       refine Az rfl (Eo (Al rfl <| Ab) (Ab) (by omega) (by omega) (by omega)) ?_
       refine Az rfl (Ae (Ay rfl <| Al rfl <| Ab)) ?_
       refine Az rfl (Ae (Al rfl <| Ab)) ?_
       refine Cb ?_
       refine Ad <| Ag <| Ai fun ds => Aa rfl (Af (A9 rfl <| Ay rfl <| Ap rfl <| Al rfl <| Ab)) ?_
       refine Aa rfl (Af (Ap rfl <| Ab)) ?_
       refine Aa rfl (Af (Ap rfl <| Ab)) ?_
       refine Aa rfl (Ee (Al rfl <| Ab) (Ab)) ?_
       refine Aa rfl (Ee (Ap rfl <| Al rfl <| Ab) (Ab)) ?_
       refine Aa rfl (Ae (Ab)) ?_
       refine Ah <| Ad <| Ag <| Ai fun ds => Aa rfl (Af (Bo rfl <| Ba rfl <| A9 rfl <| Ay rfl <| Ap rfl <| As rfl hs1)) ?_
       refine Aa rfl (Af (Al rfl <| Ab)) ?_
       refine Aa rfl (Af (Bo rfl <| Ba rfl <| Ay rfl <| Ab)) ?_
       refine Aa rfl (q_mul (Al rfl <| Ab) (Ab) (show (min ((others - p) / s.steps[k].by_ + 1) (min ((s.steps[k + 1].from_ - p + s.steps[k].by_ - 1) / s.steps[k].by_) ((most - p) / s.steps[k].by_))) * s.steps[k].by_ = (min ((others - p) / s.steps[k].by_ + 1) (min ((s.steps[k + 1].from_ - p + s.steps[k].by_ - 1) / s.steps[k].by_) ((most - p) / s.steps[k].by_))) * s.steps[k].by_ from rfl) (by omega) (by omega)) ?_
       refine Aa rfl (Bp (Ap rfl <| Al rfl <| Ab) (Ab) rfl (by omega) (by omega)) ?_
       refine Aa rfl (Ae (Ab)) ?_
       refine Ah <| Ad <| Ag <| Ai fun ds => Aa rfl (Af (Ay rfl <| Ap rfl <| Ab)) ?_
       refine Aa rfl (Af (Ba rfl <| A9 rfl <| Ay rfl <| Ab)) ?_
       refine Aa rfl (B7 (Al rfl <| Ab) (Ab)) ?_
       refine Aa rfl (Af (Ab)) ?_
       refine Au rfl rfl (Ab) (.inl (congrArg Value.bool (decide_eq_true hA))) rfl ?_
       refine Au rfl rfl (Al rfl <| Ab) (.inl (congrArg Value.bool (decide_eq_true hA))) rfl ?_
       refine Au rfl rfl (Ap rfl <| Ab) (.inl (congrArg Value.bool (decide_eq_true hA))) rfl ?_
       refine Aa rfl (A6 (Ap rfl <| Al rfl <| Ab) (decide_eq_true hA) Ac) ?_
       refine Ah <| Ad <| Aq (Ab) rfl ?_
       refine Ag <| Ai fun ds => Aa rfl (Af (A9 rfl <| Ab)) ?_
       refine Aa rfl (Ae (Ab)) ?_
       refine Ah <| Ad <| A5 <| Bb (A3 (A3 (Bb (A3 ?_))))
       refine Ax rfl (.tmp (Ab) .nil) ?_
       show _ = _
       rw [← hcl, n5 (.inl hA)]; rfl
      ·
       refine Ai fun ds => Aa rfl (Af (Bo rfl <| Ap rfl <| Ao rfl <| Ap rfl <| Al rfl <| Ak rfl)) ?_
       refine Aa rfl (Af (Bo rfl <| Ap rfl <| Al rfl <| As rfl hs1)) ?_
       refine Aa rfl (Cl (Al rfl <| Ab) (Ab) rfl (by omega) (by omega)) ?_
       refine Aa rfl (Af (Ba rfl <| A9 rfl <| Al rfl <| Ab)) ?_
       refine Aa rfl (Eo (Al rfl <| Ab) (Ab) (by omega) (by omega) (by omega)) ?_
       refine Aa rfl (Bp (Ab) Ac rfl (by omega) (by omega)) ?_
       refine Aa rfl (Ae (Ab)) ?_
       refine Ah <| Ad <| Ag <| Cf (.inl rfl) (fun _ _ h => h) (by kernel_rfl) (by kernel_rfl) fun ds => ?_
       refine Az rfl (Af (A9 rfl <| Ay rfl <| Ap rfl <| Ab)) ?_
       refine Az rfl (Af (Bo rfl <| A9 rfl <| Ap rfl <| As rfl hs1)) ?_
       refine Az rfl (Cl (Al rfl <| Ab) (Ab) rfl (by omega) (by omega)) ?_
       refine Az rfl (Af (Bo rfl <| Ab)) ?_
       refine Az rfl (Bp (Al rfl <| Ab) (Ab) rfl (by omega) (by omega)) ?_
       refine Az rfl (Cl (Ab) Ac rfl (by omega) (by omega)) ?_
       refine Az rfl (Af (Bo rfl <| Ap rfl <| Al rfl <| Ab)) ?_
       refine Az rfl (Eo (Al rfl <| Ab) (Ab) (by omega) (by omega) (by omega)) ?_
       refine Az rfl (Af (Bo rfl <| Ba rfl <| Al rfl <| Ao rfl <| Ap rfl <| Al rfl <| Ak rfl)) ?_
       refine Az rfl (Af (Bo rfl <| Ba rfl <| Ap rfl <| As rfl hs1)) ?_
       refine Az rfl (Cl (Al rfl <| Ab) (Ab) rfl (by omega) (by omega)) ?_
       refine Az rfl (Af (Bo rfl <| A9 rfl <| Ab)) ?_
       refine Az rfl (Eo (Al rfl <| Ab) (Ab) (by omega) (by omega) (by omega)) ?_
       refine Az rfl (Ae (Ay rfl <| Al rfl <| Ab)) ?_
       refine Az rfl (Ae (Al rfl <| Ab)) ?_
       refine Cb ?_
       refine Ad <| Ag <| Ai fun ds => Aa rfl (Af (A9 rfl <| Ay rfl <| Ap rfl <| Al rfl <| Ab)) ?_
       refine Aa rfl (Af (Ap rfl <| Ab)) ?_
       refine Aa rfl (Af (Ap rfl <| Ab)) ?_
       refine Aa rfl (Ee (Al rfl <| Ab) (Ab)) ?_
       refine Aa rfl (Ee (Ap rfl <| Al rfl <| Ab) (Ab)) ?_
       refine Aa rfl (Ae (Ab)) ?_
       refine Ah <| Ad <| Ag <| Ai fun ds => Aa rfl (Af (Bo rfl <| Ba rfl <| A9 rfl <| Ay rfl <| Ap rfl <| As rfl hs1)) ?_
       refine Aa rfl (Af (Al rfl <| Ab)) ?_
       refine Aa rfl (Af (Bo rfl <| Ba rfl <| Ay rfl <| Ab)) ?_
       refine Aa rfl (q_mul (Al rfl <| Ab) (Ab) (show (min ((others - p) / s.steps[k].by_ + 1) (min ((s.steps[k + 1].from_ - p + s.steps[k].by_ - 1) / s.steps[k].by_) ((most - p) / s.steps[k].by_))) * s.steps[k].by_ = (min ((others - p) / s.steps[k].by_ + 1) (min ((s.steps[k + 1].from_ - p + s.steps[k].by_ - 1) / s.steps[k].by_) ((most - p) / s.steps[k].by_))) * s.steps[k].by_ from rfl) (by omega) (by omega)) ?_
       refine Aa rfl (Bp (Ap rfl <| Al rfl <| Ab) (Ab) rfl (by omega) (by omega)) ?_
       refine Aa rfl (Ae (Ab)) ?_
       refine Ah <| Ad <| Ag <| Ai fun ds => Aa rfl (Af (Ay rfl <| Ap rfl <| Ab)) ?_
       refine Aa rfl (Af (Ba rfl <| A9 rfl <| Ay rfl <| Ab)) ?_
       refine Aa rfl (B7 (Al rfl <| Ab) (Ab)) ?_
       refine Aa rfl (Af (Ab)) ?_
       refine At rfl rfl (Ab) (decide_eq_false hA) ?_
       refine Aa rfl (Af (A9 rfl <| Ap rfl <| Ab)) ?_
       refine At rfl rfl (Al rfl <| Ab) (decide_eq_false hA) ?_
       refine Aa rfl (Af (Ba rfl <| Ap rfl <| Ab)) ?_
       refine At rfl rfl (Ap rfl <| Ab) (decide_eq_false hA) ?_
       refine Aa rfl (Bt (Al rfl <| Ab) (Ab)) ?_
       refine Aa rfl (A8 (Ap rfl <| Al rfl <| Ab) (decide_eq_false hA) (Ab)) ?_
       refine Ah <| Ad ?_
       by_cases hB : min ((others - p) / s.steps[k].by_ + 1) (min ((s.steps[k + 1].from_ - p + s.steps[k].by_ - 1) / s.steps[k].by_) ((most - p) / s.steps[k].by_)) < (s.steps[k + 1].from_ - p + s.steps[k].by_ - 1) / s.steps[k].by_
       ·
        refine Aq (Ab) (decide_eq_true hB) ?_
        refine Ag <| Ai fun ds => Aa rfl (Af (A9 rfl <| Ab)) ?_
        refine Aa rfl (Ae (Ab)) ?_
        refine Ah <| Ad <| A5 <| Bb (A3 (A3 (Bb (A3 ?_))))
        refine Ax rfl (.tmp (Ab) .nil) ?_
        show _ = _
        rw [← hcl, n5 (.inr hB)]; rfl
       ·
        refine Am (Ab) (decide_eq_false hB) ?_
        have n7 := n6 hA hB
        refine Aw <| Bf <| Ad <| Ai fun ds => Aa rfl (Af (Bo rfl <| Bo rfl <| A9 rfl <| Ay rfl <| As rfl hs9)) ?_
        refine Aa rfl (Bp (Ab) Ac rfl (by omega) (by omega)) ?_
        refine Aa rfl (Ae (Ab)) ?_
        refine Ah <| Ad ⟨_, m - 1, Off.eq (Ey rfl <| Ey rfl <| D7 rfl <| Et rfl <| Eb rfl <| Ej rfl <| Bd), by omega, ?_⟩
        refine ⟨k + 1, p + (min ((others - p) / s.steps[k].by_ + 1) (min ((s.steps[k + 1].from_ - p + s.steps[k].by_ - 1) / s.steps[k].by_) ((most - p) / s.steps[k].by_))) * s.steps[k].by_, by omega, (Ab), (A9 rfl <| Ap rfl <| Al rfl <| Ab), by omega, n3, by rw [← n4]; exact hcl, ?_, ?_, rfl⟩
        · intro _; omega
        · intro h; omega
     ·
      have hab : abv p others s.steps[k].by_ = 0 := if_neg hpo
      refine Aw <| Ad <| Ag <| Ai fun ds => Aa rfl (Ae Ac) ?_
      refine Ah <| Ad <| Ag <| Ag <| Ai fun ds => Aa rfl (Af (Ba rfl <| A9 rfl <| Ay rfl <| Ap rfl <| Al rfl <| As rfl hs1)) ?_
      refine Aa rfl (Af (Bo rfl <| Ao rfl <| Ap rfl <| Al rfl <| Ak rfl)) ?_
      refine Aa rfl (Du (Al rfl <| Ab) (Ab)) ?_
      refine Ah <| Ad <| Am (Ab) (decide_eq_false hpo) ?_
      obtain ⟨n0, n1, n2, n3, n4, n5, n6⟩ := str_spec2 hv hlt (most := most) hse hab hfr hpm hm2 hpe
      have hq2 := Int.ediv_nonneg (show 0 ≤ s.steps[k + 1].from_ - p + s.steps[k].by_ - 1 by omega) (show 0 ≤ s.steps[k].by_ by omega)
      have hq3 := Int.ediv_le_self s.steps[k].by_ (show 0 ≤ s.steps[k + 1].from_ - p + s.steps[k].by_ - 1 by omega)
      have hq4 := Int.ediv_nonneg (show 0 ≤ most - p by omega) (show 0 ≤ s.steps[k].by_ by omega)
      by_cases hA : min 0 (min ((s.steps[k + 1].from_ - p + s.steps[k].by_ - 1) / s.steps[k].by_) ((most - p) / s.steps[k].by_)) = 0
      ·
       refine Aw <| Ad <| Ag <| Cf (.inl rfl) (fun _ _ h => h) (by kernel_rfl) (by kernel_rfl) fun ds => ?_
       refine Az rfl (Af (Ay rfl <| Ap rfl <| Al rfl <| Ab)) ?_
       refine Az rfl (Af (Bo rfl <| Ap rfl <| Al rfl <| As rfl hs1)) ?_
       refine Az rfl (Cl (Al rfl <| Ab) (Ab) rfl (by omega) (by omega)) ?_
       refine Az rfl (Af (Ba rfl <| A9 rfl <| Al rfl <| Ab)) ?_
       refine Az rfl (Bp (Al rfl <| Ab) (Ab) rfl (by omega) (by omega)) ?_
       refine Az rfl (Cl (Ab) Ac rfl (by omega) (by omega)) ?_
       refine Az rfl (Af (Ba rfl <| A9 rfl <| Ay rfl <| Ab)) ?_
       refine Az rfl (Eo (Al rfl <| Ab) (Ab) (by omega) (by omega) (by omega)) ?_
       refine Az rfl (Af (Bo rfl <| A9 rfl <| Ap rfl <| Ao rfl <| Ap rfl <| Al rfl <| Ak rfl)) ?_
       refine Az rfl (Af (Bo rfl <| A9 rfl <| Ap rfl <| Al rfl <| As rfl hs1)) ?_
       refine Az rfl (Cl (Al rfl <| Ab) (Ab) rfl (by omega) (by omega)) ?_
       refine Az rfl (Af (Bo rfl <| Al rfl <| Ab)) ?_
       refine Az rfl (Eo (Al rfl <| Ab) (Ab) (by omega) (by omega) (by omega)) ?_
       refine Az rfl (Ae (Ay rfl <| Al rfl <| Ab)) ?_
       refine Az rfl (Ae (Al rfl <| Ab)) ?_
       refine Cb ?_
       refine Ad <| Ag <| Ai fun ds => Aa rfl (Af (Ba rfl <| Ap rfl <| Ab)) ?_
       refine Aa rfl (Af (Ap rfl <| Ab)) ?_
       refine Aa rfl (Af (Ap rfl <| Ab)) ?_
       refine Aa rfl (Ee (Al rfl <| Ab) (Ab)) ?_
       refine Aa rfl (Ee (Ap rfl <| Al rfl <| Ab) (Ab)) ?_
       refine Aa rfl (Ae (Ab)) ?_
       refine Ah <| Ad <| Ag <| Ai fun ds => Aa rfl (Af (Bo rfl <| Ba rfl <| Ay rfl <| Ap rfl <| Al rfl <| As rfl hs1)) ?_
       refine Aa rfl (Af (Al rfl <| Ab)) ?_
       refine Aa rfl (Af (Bo rfl <| A9 rfl <| Ay rfl <| Al rfl <| Ab)) ?_
       refine Aa rfl (q_mul (Al rfl <| Ab) (Ab) (show (min 0 (min ((s.steps[k + 1].from_ - p + s.steps[k].by_ - 1) / s.steps[k].by_) ((most - p) / s.steps[k].by_))) * s.steps[k].by_ = (min 0 (min ((s.steps[k + 1].from_ - p + s.steps[k].by_ - 1) / s.steps[k].by_) ((most - p) / s.steps[k].by_))) * s.steps[k].by_ from rfl) (by omega) (by omega)) ?_
       refine Aa rfl (Bp (Ap rfl <| Al rfl <| Ab) (Ab) rfl (by omega) (by omega)) ?_
       refine Aa rfl (Ae (Ab)) ?_
       refine Ah <| Ad <| Ag <| Ai fun ds => Aa rfl (Af (Ay rfl <| Ap rfl <| Ab)) ?_
       refine Aa rfl (Af (Ba rfl <| A9 rfl <| Ay rfl <| Ap rfl <| Al rfl <| Ab)) ?_
       refine Aa rfl (B7 (Al rfl <| Ab) (Ab)) ?_
       refine Aa rfl (Af (Ab)) ?_
       refine Au rfl rfl (Ab) (.inl (congrArg Value.bool (decide_eq_true hA))) rfl ?_
       refine Au rfl rfl (Al rfl <| Ab) (.inl (congrArg Value.bool (decide_eq_true hA))) rfl ?_
       refine Au rfl rfl (Ap rfl <| Ab) (.inl (congrArg Value.bool (decide_eq_true hA))) rfl ?_
       refine Aa rfl (A6 (Ap rfl <| Al rfl <| Ab) (decide_eq_true hA) Ac) ?_
       refine Ah <| Ad <| Aq (Ab) rfl ?_
       refine Ag <| Ai fun ds => Aa rfl (Af (A9 rfl <| Ab)) ?_
       refine Aa rfl (Ae (Ab)) ?_
       refine Ah <| Ad <| A5 <| Bb (A3 (A3 (Bb (A3 ?_))))
       refine Ax rfl (.tmp (Ab) .nil) ?_
       show _ = _
       rw [← hcl, n5 (.inl hA)]; rfl
      ·
       refine Aw <| Ad <| Ag <| Cf (.inl rfl) (fun _ _ h => h) (by kernel_rfl) (by kernel_rfl) fun ds => ?_
       refine Az rfl (Af (Ay rfl <| Ap rfl <| Al rfl <| Ab)) ?_
       refine Az rfl (Af (Bo rfl <| Ap rfl <| Al rfl <| As rfl hs1)) ?_
       refine Az rfl (Cl (Al rfl <| Ab) (Ab) rfl (by omega) (by omega)) ?_
       refine Az rfl (Af (Ba rfl <| A9 rfl <| Al rfl <| Ab)) ?_
       refine Az rfl (Bp (Al rfl <| Ab) (Ab) rfl (by omega) (by omega)) ?_
       refine Az rfl (Cl (Ab) Ac rfl (by omega) (by omega)) ?_
       refine Az rfl (Af (Ba rfl <| A9 rfl <| Ay rfl <| Ab)) ?_
       refine Az rfl (Eo (Al rfl <| Ab) (Ab) (by omega) (by omega) (by omega)) ?_
       refine Az rfl (Af (Bo rfl <| A9 rfl <| Ap rfl <| Ao rfl <| Ap rfl <| Al rfl <| Ak rfl)) ?_
       refine Az rfl (Af (Bo rfl <| A9 rfl <| Ap rfl <| Al rfl <| As rfl hs1)) ?_
       refine Az rfl (Cl (Al rfl <| Ab) (Ab) rfl (by omega) (by omega)) ?_
       refine Az rfl (Af (Bo rfl <| Al rfl <| Ab)) ?_
       refine Az rfl (Eo (Al rfl <| Ab) (Ab) (by omega) (by omega) (by omega)) ?_
       refine Az rfl (Ae (Ay rfl <| Al rfl <| Ab)) ?_
       refine Az rfl (Ae (Al rfl <| Ab)) ?_
       refine Cb ?_
       refine Ad <| Ag <| Ai fun ds => Aa rfl (Af (Ba rfl <| Ap rfl <| Ab)) ?_
       refine Aa rfl (Af (Ap rfl <| Ab)) ?_
       refine Aa rfl (Af (Ap rfl <| Ab)) ?_
       refine Aa rfl (Ee (Al rfl <| Ab) (Ab)) ?_
       refine Aa rfl (Ee (Ap rfl <| Al rfl <| Ab) (Ab)) ?_
       refine Aa rfl (Ae (Ab)) ?_
       refine Ah <| Ad <| Ag <| Ai fun ds => Aa rfl (Af (Bo rfl <| Ba rfl <| Ay rfl <| Ap rfl <| Al rfl <| As rfl hs1)) ?_
       refine Aa rfl (Af (Al rfl <| Ab)) ?_
       refine Aa rfl (Af (Bo rfl <| A9 rfl <| Ay rfl <| Al rfl <| Ab)) ?_
       refine Aa rfl (q_mul (Al rfl <| Ab) (Ab) (show (min 0 (min ((s.steps[k + 1].from_ - p + s.steps[k].by_ - 1) / s.steps[k].by_) ((most - p) / s.steps[k].by_))) * s.steps[k].by_ = (min 0 (min ((s.steps[k + 1].from_ - p + s.steps[k].by_ - 1) / s.steps[k].by_) ((most - p) / s.steps[k].by_))) * s.steps[k].by_ from rfl) (by omega) (by omega)) ?_
       refine Aa rfl (Bp (Ap rfl <| Al rfl <| Ab) (Ab) rfl (by omega) (by omega)) ?_
       refine Aa rfl (Ae (Ab)) ?_
       refine Ah <| Ad <| Ag <| Ai fun ds => Aa rfl (Af (Ay rfl <| Ap rfl <| Ab)) ?_
       refine Aa rfl (Af (Ba rfl <| A9 rfl <| Ay rfl <| Ap rfl <| Al rfl <| Ab)) ?_
       refine Aa rfl (B7 (Al rfl <| Ab) (Ab)) ?_
       refine Aa rfl (Af (Ab)) ?_
       refine At rfl rfl (Ab) (decide_eq_false hA) ?_
       refine Aa rfl (Af (A9 rfl <| Ap rfl <| Ab)) ?_
       refine At rfl rfl (Al rfl <| Ab) (decide_eq_false hA) ?_
       refine Aa rfl (Af (Ba rfl <| Ap rfl <| Ab)) ?_
       refine At rfl rfl (Ap rfl <| Ab) (decide_eq_false hA) ?_
       refine Aa rfl (Bt (Al rfl <| Ab) (Ab)) ?_
       refine Aa rfl (A8 (Ap rfl <| Al rfl <| Ab) (decide_eq_false hA) (Ab)) ?_
       refine Ah <| Ad ?_
       by_cases hB : min 0 (min ((s.steps[k + 1].from_ - p + s.steps[k].by_ - 1) / s.steps[k].by_) ((most - p) / s.steps[k].by_)) < (s.steps[k + 1].from_ - p + s.steps[k].by_ - 1) / s.steps[k].by_
       ·
        refine Aq (Ab) (decide_eq_true hB) ?_
        refine Ag <| Ai fun ds => Aa rfl (Af (A9 rfl <| Ab)) ?_
        refine Aa rfl (Ae (Ab)) ?_
        refine Ah <| Ad <| A5 <| Bb (A3 (A3 (Bb (A3 ?_))))
        refine Ax rfl (.tmp (Ab) .nil) ?_
        show _ = _
        rw [← hcl, n5 (.inr hB)]; rfl
       ·
        refine Am (Ab) (decide_eq_false hB) ?_
        have n7 := n6 hA hB
        refine Aw <| Bf <| Ad <| Ai fun ds => Aa rfl (Af (Bo rfl <| Bo rfl <| Ay rfl <| Al rfl <| As rfl hs9)) ?_
        refine Aa rfl (Bp (Ab) Ac rfl (by omega) (by omega)) ?_
        refine Aa rfl (Ae (Ab)) ?_
        refine Ah <| Ad ⟨_, m - 1, Off.eq (Ey rfl <| Ey rfl <| D7 rfl <| Bd), by omega, ?_⟩
        refine ⟨k + 1, p + (min 0 (min ((s.steps[k + 1].from_ - p + s.steps[k].by_ - 1) / s.steps[k].by_) ((most - p) / s.steps[k].by_))) * s.steps[k].by_, by omega, (Ab), (A9 rfl <| Ap rfl <| Al rfl <| Ab), by omega, n3, by rw [← n4]; exact hcl, ?_, ?_, rfl⟩
        · intro _; omega
        · intro h; omega
    ·
     refine Ai fun ds => Aa rfl (Aj Dg (Ba rfl <| Ap rfl <| Al rfl <| Ao rfl <| Ap rfl <| Ab)) ?_
     refine Aa rfl (Ar Dv (Ab) (Cell.own 0 rfl rfl)) ?_
     refine Aa rfl (Af (Ba rfl <| Ay rfl <| Al rfl <| As rfl hs9)) ?_
     refine Aa rfl (Bp (Ab) Ac rfl (by omega) (by omega)) ?_
     refine Aa rfl (Bh (k := k + 1) Ds (Ap rfl <| Ab) hr.steps.plain (Ab) rfl hk1) ?_
     refine Aa rfl (B0 Ec (Ab)) ?_
     refine Aa rfl (Ar Bj (Ab) (hr.steps.cell hk1 rfl)) ?_
     refine Aa rfl (Ae (Ab)) ?_
     refine Ah <| Ad <| Ag <| Ag <| Ai fun ds => Aa rfl (Af (Ba rfl <| A9 rfl <| Ap rfl <| Al rfl <| As rfl hs1)) ?_
     refine Aa rfl (Af (Al rfl <| Ab)) ?_
     refine Aa rfl (Dq (Al rfl <| Ab) (Ab)) ?_
     refine Ah <| Ad <| Aq (Ab) (decide_eq_true (by omega)) ?_
     refine Bv ?_
     refine Bk (Bn ?_)
     refine Ad <| Ai fun ds => Aa rfl (Af (Ba rfl <| A9 rfl <| Ay rfl <| Ap rfl <| As rfl hs9)) ?_
     refine Aa rfl (Bp (Ab) Ac rfl (by omega) (by omega)) ?_
     refine Aa rfl (Ae (Ab)) ?_
     refine Ah <| Ad ⟨_, m - 1, Off.eq (Ey rfl <| Ej rfl <| Bd), by omega, ?_⟩
     refine ⟨k + 1, p, by omega, (Ab), (Bo rfl <| Al rfl <| As rfl hs1), h0p, hpm, hcl, ?_, ?_, rfl⟩
     · intro _; omega
     · intro h; omega
   ·
    have hse : stEnd s k = 300000 := if_neg hk1
    refine Aw <| Ad <| Ag <| A4 <| Ag <| Ai fun ds => Aa rfl (Aj Dg (Ay rfl <| Al rfl <| Ao rfl <| Ap rfl <| Ab)) ?_
    refine Aa rfl (Ar Dv (Ab) (Cell.own 0 rfl rfl)) ?_
    refine Aa rfl (Af (Ay rfl <| Ap rfl <| Al rfl <| As rfl hs9)) ?_
    refine Aa rfl (Bh  Ds (Al rfl <| Ab) hr.steps.plain (Ab) rfl hlt) ?_
    refine Aa rfl (B0 fd_98_1 (Ab)) ?_
    refine Aa rfl (Ar Bj (Ab) (hr.steps.cell hlt rfl)) ?_
    refine Aa rfl (Ae (Ab)) ?_
    refine Aa rfl (Ae Ac) ?_
    refine Ah <| Ad <| Ag <| Ag <| Ai fun ds => Aa rfl (Af (A9 rfl <| Ay rfl <| Al rfl <| As rfl hs9)) ?_
    refine Aa rfl (Bp (Ab) Ac rfl (by omega) (by omega)) ?_
    refine Aa rfl (Aj Dg (A9 rfl <| Ay rfl <| Ap rfl <| Al rfl <| Ao rfl <| Ap rfl <| Ab)) ?_
    refine Aa rfl (Ar Dv (Ab) (Cell.own 0 rfl rfl)) ?_
    refine Aa rfl (Bi Ds (Ab) hr.steps.plain) ?_
    refine Aa rfl (Bt (Ap rfl <| Al rfl <| Ab) (Ab)) ?_
    refine Ah <| Ad <| Am (Ab) (decide_eq_false (by omega)) ?_
    by_cases hpe : p < 300000
    ·
     refine Aw <| Ad <| Ag <| Ag <| Ai fun ds => Aa rfl (Af (Ba rfl <| Ap rfl <| Al rfl <| As rfl hs1)) ?_
     refine Aa rfl (Af (Ay rfl <| Ap rfl <| Al rfl <| Ab)) ?_
     refine Aa rfl (Dq (Al rfl <| Ab) (Ab)) ?_
     refine Ah <| Ad <| Am (Ab) (decide_eq_false (by omega)) ?_
     by_cases hpo : p ≤ others
     ·
      have hab : abv p others s.steps[k].by_ = (others - p) / s.steps[k].by_ + 1 := if_pos hpo
      have hq0 := Int.ediv_nonneg (show 0 ≤ others - p by omega) (show 0 ≤ s.steps[k].by_ by omega)
      have hq1 := Int.ediv_le_self s.steps[k].by_ (show 0 ≤ others - p by omega)
      refine Aw <| Ad <| Ag <| Ai fun ds => Aa rfl (Ae Ac) ?_
      refine Ah <| Ad <| Ag <| Ag <| Ai fun ds => Aa rfl (Af (Ba rfl <| Ay rfl <| Ap rfl <| Al rfl <| As rfl hs1)) ?_
      refine Aa rfl (Af (Ba rfl <| A9 rfl <| Ao rfl <| Ap rfl <| Al rfl <| Ak rfl)) ?_
      refine Aa rfl (Du (Al rfl <| Ab) (Ab)) ?_
      refine Ah <| Ad <| Aq (Ab) (decide_eq_true hpo) ?_
      obtain ⟨n0, n1, n2, n3, n4, n5, n6⟩ := str_spec2 hv hlt (most := most) hse hab hfr hpm hm2 hpe
      have hq2 := Int.ediv_nonneg (show 0 ≤ 300000 - p + s.steps[k].by_ - 1 by omega) (show 0 ≤ s.steps[k].by_ by omega)
      have hq3 := Int.ediv_le_self s.steps[k].by_ (show 0 ≤ 300000 - p + s.steps[k].by_ - 1 by omega)
      have hq4 := Int.ediv_nonneg (show 0 ≤ most - p by omega) (show 0 ≤ s.steps[k].by_ by omega)
      by_cases hA : min ((others - p) / s.steps[k].by_ + 1) (min ((300000 - p + s.steps[k].by_ - 1) / s.steps[k].by_) ((most - p) / s.steps[k].by_)) = ((others - p) / s.steps[k].by_ + 1)
      ·
       refine Ai fun ds => Aa rfl (Af (Ba rfl <| A9 rfl <| Ap rfl <| Ao rfl <| Ap rfl <| Al rfl <| Ak rfl)) ?_
       refine Aa rfl (Af (Ba rfl <| A9 rfl <| Ap rfl <| Al rfl <| As rfl hs1)) ?_
       refine Aa rfl (Cl (Al rfl <| Ab) (Ab) rfl (by omega) (by omega)) ?_
       refine Aa rfl (Af (Ba rfl <| Al rfl <| Ab)) ?_
       refine Aa rfl (Eo (Al rfl <| Ab) (Ab) (by omega) (by omega) (by omega)) ?_
       refine Aa rfl (Bp (Ab) Ac rfl (by omega) (by omega)) ?_
       refine Aa rfl (Ae (Ab)) ?_
       refine Ah <| Ad <| Ag <| Cf (.inl rfl) (fun _ _ h => h) (by kernel_rfl) (by kernel_rfl) fun ds => ?_
       refine Az rfl (Af (Ba rfl <| Ay rfl <| Ab)) ?_
       refine Az rfl (Af (Bo rfl <| Ap rfl <| As rfl hs1)) ?_
       refine Az rfl (Cl (Al rfl <| Ab) (Ab) rfl (by omega) (by omega)) ?_
       refine Az rfl (Af (Ba rfl <| A9 rfl <| Ab)) ?_
       refine Az rfl (Bp (Al rfl <| Ab) (Ab) rfl (by omega) (by omega)) ?_
       refine Az rfl (Cl (Ab) Ac rfl (by omega) (by omega)) ?_
       refine Az rfl (Af (Ba rfl <| A9 rfl <| Ap rfl <| Al rfl <| Ab)) ?_
       refine Az rfl (Eo (Al rfl <| Ab) (Ab) (by omega) (by omega) (by omega)) ?_
       refine Az rfl (Af (Bo rfl <| A9 rfl <| Al rfl <| Ao rfl <| Ap rfl <| Al rfl <| Ak rfl)) ?_
       refine Az rfl (Af (Bo rfl <| A9 rfl <| Ap rfl <| As rfl hs1)) ?_
       refine Az rfl (Cl (Al rfl <| Ab) (Ab) rfl (by omega) (by omega)) ?_
       refine Az rfl (Af (Bo rfl <| Ab)) ?_
       refine Az rfl (Eo (Al rfl <| Ab) (Ab) (by omega) (by omega) (by omega)) ?_
       refine Az rfl (Ae (Ay rfl <| Al rfl <| Ab)) ?_
       refine Az rfl (Ae (Al rfl <| Ab)) ?_
       refine Cb ?_
       refine Ad <| Ag <| Ai fun ds => Aa rfl (Af (A9 rfl <| Ay rfl <| Ap rfl <| Al rfl <| Ab)) ?_
       refine Aa rfl (Af (Ap rfl <| Ab)) ?_
       refine Aa rfl (Af (Ap rfl <| Ab)) ?_
       refine Aa rfl (Ee (Al rfl <| Ab) (Ab)) ?_
       refine Aa rfl (Ee (Ap rfl <| Al rfl <| Ab) (Ab)) ?_
       refine Aa rfl (Ae (Ab)) ?_
       refine Ah <| Ad <| Ag <| Ai fun ds => Aa rfl (Af (Bo rfl <| Ba rfl <| Ay rfl <| Ap rfl <| As rfl hs1)) ?_
       refine Aa rfl (Af (Al rfl <| Ab)) ?_
       refine Aa rfl (Af (Bo rfl <| A9 rfl <| Ay rfl <| Ab)) ?_
       refine Aa rfl (q_mul (Al rfl <| Ab) (Ab) (show (min ((others - p) / s.steps[k].by_ + 1) (min ((300000 - p + s.steps[k].by_ - 1) / s.steps[k].by_) ((most - p) / s.steps[k].by_))) * s.steps[k].by_ = (min ((others - p) / s.steps[k].by_ + 1) (min ((300000 - p + s.steps[k].by_ - 1) / s.steps[k].by_) ((most - p) / s.steps[k].by_))) * s.steps[k].by_ from rfl) (by omega) (by omega)) ?_
       refine Aa rfl (Bp (Ap rfl <| Al rfl <| Ab) (Ab) rfl (by omega) (by omega)) ?_
       refine Aa rfl (Ae (Ab)) ?_
       refine Ah <| Ad <| Ag <| Ai fun ds => Aa rfl (Af (Ay rfl <| Ap rfl <| Ab)) ?_
       refine Aa rfl (Af (Ba rfl <| A9 rfl <| Ay rfl <| Ab)) ?_
       refine Aa rfl (B7 (Al rfl <| Ab) (Ab)) ?_
       refine Aa rfl (Af (Ab)) ?_
       refine Au rfl rfl (Ab) (.inl (congrArg Value.bool (decide_eq_true hA))) rfl ?_
       refine Au rfl rfl (Al rfl <| Ab) (.inl (congrArg Value.bool (decide_eq_true hA))) rfl ?_
       refine Au rfl rfl (Ap rfl <| Ab) (.inl (congrArg Value.bool (decide_eq_true hA))) rfl ?_
       refine Aa rfl (A6 (Ap rfl <| Al rfl <| Ab) (decide_eq_true hA) Ac) ?_
       refine Ah <| Ad <| Aq (Ab) rfl ?_
       refine Ag <| Ai fun ds => Aa rfl (Af (A9 rfl <| Ab)) ?_
       refine Aa rfl (Ae (Ab)) ?_
       refine Ah <| Ad <| A5 <| Bb (A3 (A3 (Bb (A3 ?_))))
       refine Ax rfl (.tmp (Ab) .nil) ?_
       show _ = _
       rw [← hcl, n5 (.inl hA)]; rfl
      ·
       refine Ai fun ds => Aa rfl (Af (Ba rfl <| A9 rfl <| Ap rfl <| Ao rfl <| Ap rfl <| Al rfl <| Ak rfl)) ?_
       refine Aa rfl (Af (Ba rfl <| A9 rfl <| Ap rfl <| Al rfl <| As rfl hs1)) ?_
       refine Aa rfl (Cl (Al rfl <| Ab) (Ab) rfl (by omega) (by omega)) ?_
       refine Aa rfl (Af (Ba rfl <| Al rfl <| Ab)) ?_
       refine Aa rfl (Eo (Al rfl <| Ab) (Ab) (by omega) (by omega) (by omega)) ?_
       refine Aa rfl (Bp (Ab) Ac rfl (by omega) (by omega)) ?_
       refine Aa rfl (Ae (Ab)) ?_
       refine Ah <| Ad <| Ag <| Cf (.inl rfl) (fun _ _ h => h) (by kernel_rfl) (by kernel_rfl) fun ds => ?_
       refine Az rfl (Af (Ba rfl <| Ay rfl <| Ab)) ?_
       refine Az rfl (Af (Bo rfl <| Ap rfl <| As rfl hs1)) ?_
       refine Az rfl (Cl (Al rfl <| Ab) (Ab) rfl (by omega) (by omega)) ?_
       refine Az rfl (Af (Ba rfl <| A9 rfl <| Ab)) ?_
       refine Az rfl (Bp (Al rfl <| Ab) (Ab) rfl (by omega) (by omega)) ?_
       refine Az rfl (Cl (Ab) Ac rfl (by omega) (by omega)) ?_
       refine Az rfl (Af (Ba rfl <| A9 rfl <| Ap rfl <| Al rfl <| Ab)) ?_
       refine Az rfl (Eo (Al rfl <| Ab) (Ab) (by omega) (by omega) (by omega)) ?_
       refine Az rfl (Af (Bo rfl <| A9 rfl <| Al rfl <| Ao rfl <| Ap rfl <| Al rfl <| Ak rfl)) ?_
       refine Az rfl (Af (Bo rfl <| A9 rfl <| Ap rfl <| As rfl hs1)) ?_
       refine Az rfl (Cl (Al rfl <| Ab) (Ab) rfl (by omega) (by omega)) ?_
       refine Az rfl (Af (Bo rfl <| Ab)) ?_
       refine Az rfl (Eo (Al rfl <| Ab) (Ab) (by omega) (by omega) (by omega)) ?_
       refine Az rfl (Ae (Ay rfl <| Al rfl <| Ab)) ?_
       refine Az rfl (Ae (Al rfl <| Ab)) ?_
       refine Cb ?_
       refine Ad <| Ag <| Ai fun ds => Aa rfl (Af (A9 rfl <| Ay rfl <| Ap rfl <| Al rfl <| Ab)) ?_
       refine Aa rfl (Af (Ap rfl <| Ab)) ?_
       refine Aa rfl (Af (Ap rfl <| Ab)) ?_
       refine Aa rfl (Ee (Al rfl <| Ab) (Ab)) ?_
       refine Aa rfl (Ee (Ap rfl <| Al rfl <| Ab) (Ab)) ?_
       refine Aa rfl (Ae (Ab)) ?_
       refine Ah <| Ad <| Ag <| Ai fun ds => Aa rfl (Af (Bo rfl <| Ba rfl <| Ay rfl <| Ap rfl <| As rfl hs1)) ?_
       refine Aa rfl (Af (Al rfl <| Ab)) ?_
       refine Aa rfl (Af (Bo rfl <| A9 rfl <| Ay rfl <| Ab)) ?_
       refine Aa rfl (q_mul (Al rfl <| Ab) (Ab) (show (min ((others - p) / s.steps[k].by_ + 1) (min ((300000 - p + s.steps[k].by_ - 1) / s.steps[k].by_) ((most - p) / s.steps[k].by_))) * s.steps[k].by_ = (min ((others - p) / s.steps[k].by_ + 1) (min ((300000 - p + s.steps[k].by_ - 1) / s.steps[k].by_) ((most - p) / s.steps[k].by_))) * s.steps[k].by_ from rfl) (by omega) (by omega)) ?_
       refine Aa rfl (Bp (Ap rfl <| Al rfl <| Ab) (Ab) rfl (by omega) (by omega)) ?_
       refine Aa rfl (Ae (Ab)) ?_
       refine Ah <| Ad <| Ag <| Ai fun ds => Aa rfl (Af (Ay rfl <| Ap rfl <| Ab)) ?_
       refine Aa rfl (Af (Ba rfl <| A9 rfl <| Ay rfl <| Ab)) ?_
       refine Aa rfl (B7 (Al rfl <| Ab) (Ab)) ?_
       refine Aa rfl (Af (Ab)) ?_
       refine At rfl rfl (Ab) (decide_eq_false hA) ?_
       refine Aa rfl (Af (A9 rfl <| Ap rfl <| Ab)) ?_
       refine At rfl rfl (Al rfl <| Ab) (decide_eq_false hA) ?_
       refine Aa rfl (Af (Ba rfl <| Ap rfl <| Ab)) ?_
       refine At rfl rfl (Ap rfl <| Ab) (decide_eq_false hA) ?_
       refine Aa rfl (Bt (Al rfl <| Ab) (Ab)) ?_
       refine Aa rfl (A8 (Ap rfl <| Al rfl <| Ab) (decide_eq_false hA) (Ab)) ?_
       refine Ah <| Ad ?_
       by_cases hB : min ((others - p) / s.steps[k].by_ + 1) (min ((300000 - p + s.steps[k].by_ - 1) / s.steps[k].by_) ((most - p) / s.steps[k].by_)) < (300000 - p + s.steps[k].by_ - 1) / s.steps[k].by_
       ·
        refine Aq (Ab) (decide_eq_true hB) ?_
        refine Ag <| Ai fun ds => Aa rfl (Af (A9 rfl <| Ab)) ?_
        refine Aa rfl (Ae (Ab)) ?_
        refine Ah <| Ad <| A5 <| Bb (A3 (A3 (Bb (A3 ?_))))
        refine Ax rfl (.tmp (Ab) .nil) ?_
        show _ = _
        rw [← hcl, n5 (.inr hB)]; rfl
       ·
        refine Am (Ab) (decide_eq_false hB) ?_
        have n7 := n6 hA hB
        refine Aw <| Bf <| Ad <| Ai fun ds => Aa rfl (Af (Bo rfl <| Bo rfl <| Ay rfl <| As rfl hs9)) ?_
        refine Aa rfl (Bp (Ab) Ac rfl (by omega) (by omega)) ?_
        refine Aa rfl (Ae (Ab)) ?_
        refine Ah <| Ad ⟨_, m - 1, Off.eq (Ey rfl <| Ey rfl <| Et rfl <| Eb rfl <| Ej rfl <| Bd), by omega, ?_⟩
        refine ⟨k + 1, p + (min ((others - p) / s.steps[k].by_ + 1) (min ((300000 - p + s.steps[k].by_ - 1) / s.steps[k].by_) ((most - p) / s.steps[k].by_))) * s.steps[k].by_, by omega, (Ab), (A9 rfl <| Ap rfl <| Al rfl <| Ab), by omega, n3, by rw [← n4]; exact hcl, ?_, ?_, rfl⟩
        · intro h; exact absurd h hk1
        · intro _; exact n7
     ·
      have hab : abv p others s.steps[k].by_ = 0 := if_neg hpo
      refine Aw <| Ad <| Ag <| Ai fun ds => Aa rfl (Ae Ac) ?_
      refine Ah <| Ad <| Ag <| Ag <| Ai fun ds => Aa rfl (Af (Ba rfl <| Ay rfl <| Ap rfl <| Al rfl <| As rfl hs1)) ?_
      refine Aa rfl (Af (Ba rfl <| A9 rfl <| Ao rfl <| Ap rfl <| Al rfl <| Ak rfl)) ?_
      refine Aa rfl (Du (Al rfl <| Ab) (Ab)) ?_
      refine Ah <| Ad <| Am (Ab) (decide_eq_false hpo) ?_
      obtain ⟨n0, n1, n2, n3, n4, n5, n6⟩ := str_spec2 hv hlt (most := most) hse hab hfr hpm hm2 hpe
      have hq2 := Int.ediv_nonneg (show 0 ≤ 300000 - p + s.steps[k].by_ - 1 by omega) (show 0 ≤ s.steps[k].by_ by omega)
      have hq3 := Int.ediv_le_self s.steps[k].by_ (show 0 ≤ 300000 - p + s.steps[k].by_ - 1 by omega)
      have hq4 := Int.ediv_nonneg (show 0 ≤ most - p by omega) (show 0 ≤ s.steps[k].by_ by omega)
      by_cases hA : min 0 (min ((300000 - p + s.steps[k].by_ - 1) / s.steps[k].by_) ((most - p) / s.steps[k].by_)) = 0
      ·
       refine Aw <| Ad <| Ag <| Cf (.inl rfl) (fun _ _ h => h) (by kernel_rfl) (by kernel_rfl) fun ds => ?_
       refine Az rfl (Af (A9 rfl <| Ay rfl <| Al rfl <| Ab)) ?_
       refine Az rfl (Af (Ba rfl <| A9 rfl <| Ap rfl <| Al rfl <| As rfl hs1)) ?_
       refine Az rfl (Cl (Al rfl <| Ab) (Ab) rfl (by omega) (by omega)) ?_
       refine Az rfl (Af (Ba rfl <| Al rfl <| Ab)) ?_
       refine Az rfl (Bp (Al rfl <| Ab) (Ab) rfl (by omega) (by omega)) ?_
       refine Az rfl (Cl (Ab) Ac rfl (by omega) (by omega)) ?_
       refine Az rfl (Af (Ba rfl <| Ay rfl <| Ab)) ?_
       refine Az rfl (Eo (Al rfl <| Ab) (Ab) (by omega) (by omega) (by omega)) ?_
       refine Az rfl (Af (Bo rfl <| Ap rfl <| Ao rfl <| Ap rfl <| Al rfl <| Ak rfl)) ?_
       refine Az rfl (Af (Bo rfl <| Ap rfl <| Al rfl <| As rfl hs1)) ?_
       refine Az rfl (Cl (Al rfl <| Ab) (Ab) rfl (by omega) (by omega)) ?_
       refine Az rfl (Af (Ba rfl <| A9 rfl <| Al rfl <| Ab)) ?_
       refine Az rfl (Eo (Al rfl <| Ab) (Ab) (by omega) (by omega) (by omega)) ?_
       refine Az rfl (Ae (Ay rfl <| Al rfl <| Ab)) ?_
       refine Az rfl (Ae (Al rfl <| Ab)) ?_
       refine Cb ?_
       refine Ad <| Ag <| Ai fun ds => Aa rfl (Af (Ba rfl <| Ap rfl <| Ab)) ?_
       refine Aa rfl (Af (Ap rfl <| Ab)) ?_
       refine Aa rfl (Af (Ap rfl <| Ab)) ?_
       refine Aa rfl (Ee (Al rfl <| Ab) (Ab)) ?_
       refine Aa rfl (Ee (Ap rfl <| Al rfl <| Ab) (Ab)) ?_
       refine Aa rfl (Ae (Ab)) ?_
       refine Ah <| Ad <| Ag <| Ai fun ds => Aa rfl (Af (Bo rfl <| A9 rfl <| Ay rfl <| Ap rfl <| Al rfl <| As rfl hs1)) ?_
       refine Aa rfl (Af (Al rfl <| Ab)) ?_
       refine Aa rfl (Af (Bo rfl <| Ay rfl <| Al rfl <| Ab)) ?_
       refine Aa rfl (q_mul (Al rfl <| Ab) (Ab) (show (min 0 (min ((300000 - p + s.steps[k].by_ - 1) / s.steps[k].by_) ((most - p) / s.steps[k].by_))) * s.steps[k].by_ = (min 0 (min ((300000 - p + s.steps[k].by_ - 1) / s.steps[k].by_) ((most - p) / s.steps[k].by_))) * s.steps[k].by_ from rfl) (by omega) (by omega)) ?_
       refine Aa rfl (Bp (Ap rfl <| Al rfl <| Ab) (Ab) rfl (by omega) (by omega)) ?_
       refine Aa rfl (Ae (Ab)) ?_
       refine Ah <| Ad <| Ag <| Ai fun ds => Aa rfl (Af (Ay rfl <| Ap rfl <| Ab)) ?_
       refine Aa rfl (Af (Ba rfl <| A9 rfl <| Ay rfl <| Ap rfl <| Al rfl <| Ab)) ?_
       refine Aa rfl (B7 (Al rfl <| Ab) (Ab)) ?_
       refine Aa rfl (Af (Ab)) ?_
       refine Au rfl rfl (Ab) (.inl (congrArg Value.bool (decide_eq_true hA))) rfl ?_
       refine Au rfl rfl (Al rfl <| Ab) (.inl (congrArg Value.bool (decide_eq_true hA))) rfl ?_
       refine Au rfl rfl (Ap rfl <| Ab) (.inl (congrArg Value.bool (decide_eq_true hA))) rfl ?_
       refine Aa rfl (A6 (Ap rfl <| Al rfl <| Ab) (decide_eq_true hA) Ac) ?_
       refine Ah <| Ad <| Aq (Ab) rfl ?_
       refine Ag <| Ai fun ds => Aa rfl (Af (A9 rfl <| Ab)) ?_
       refine Aa rfl (Ae (Ab)) ?_
       refine Ah <| Ad <| A5 <| Bb (A3 (A3 (Bb (A3 ?_))))
       refine Ax rfl (.tmp (Ab) .nil) ?_
       show _ = _
       rw [← hcl, n5 (.inl hA)]; rfl
      ·
       refine Aw <| Ad <| Ag <| Cf (.inl rfl) (fun _ _ h => h) (by kernel_rfl) (by kernel_rfl) fun ds => ?_
       refine Az rfl (Af (A9 rfl <| Ay rfl <| Al rfl <| Ab)) ?_
       refine Az rfl (Af (Ba rfl <| A9 rfl <| Ap rfl <| Al rfl <| As rfl hs1)) ?_
       refine Az rfl (Cl (Al rfl <| Ab) (Ab) rfl (by omega) (by omega)) ?_
       refine Az rfl (Af (Ba rfl <| Al rfl <| Ab)) ?_
       refine Az rfl (Bp (Al rfl <| Ab) (Ab) rfl (by omega) (by omega)) ?_
       refine Az rfl (Cl (Ab) Ac rfl (by omega) (by omega)) ?_
       refine Az rfl (Af (Ba rfl <| Ay rfl <| Ab)) ?_
       refine Az rfl (Eo (Al rfl <| Ab) (Ab) (by omega) (by omega) (by omega)) ?_
       refine Az rfl (Af (Bo rfl <| Ap rfl <| Ao rfl <| Ap rfl <| Al rfl <| Ak rfl)) ?_
       refine Az rfl (Af (Bo rfl <| Ap rfl <| Al rfl <| As rfl hs1)) ?_
       refine Az rfl (Cl (Al rfl <| Ab) (Ab) rfl (by omega) (by omega)) ?_
       refine Az rfl (Af (Ba rfl <| A9 rfl <| Al rfl <| Ab)) ?_
       refine Az rfl (Eo (Al rfl <| Ab) (Ab) (by omega) (by omega) (by omega)) ?_
       refine Az rfl (Ae (Ay rfl <| Al rfl <| Ab)) ?_
       refine Az rfl (Ae (Al rfl <| Ab)) ?_
       refine Cb ?_
       refine Ad <| Ag <| Ai fun ds => Aa rfl (Af (Ba rfl <| Ap rfl <| Ab)) ?_
       refine Aa rfl (Af (Ap rfl <| Ab)) ?_
       refine Aa rfl (Af (Ap rfl <| Ab)) ?_
       refine Aa rfl (Ee (Al rfl <| Ab) (Ab)) ?_
       refine Aa rfl (Ee (Ap rfl <| Al rfl <| Ab) (Ab)) ?_
       refine Aa rfl (Ae (Ab)) ?_
       refine Ah <| Ad <| Ag <| Ai fun ds => Aa rfl (Af (Bo rfl <| A9 rfl <| Ay rfl <| Ap rfl <| Al rfl <| As rfl hs1)) ?_
       refine Aa rfl (Af (Al rfl <| Ab)) ?_
       refine Aa rfl (Af (Bo rfl <| Ay rfl <| Al rfl <| Ab)) ?_
       refine Aa rfl (q_mul (Al rfl <| Ab) (Ab) (show (min 0 (min ((300000 - p + s.steps[k].by_ - 1) / s.steps[k].by_) ((most - p) / s.steps[k].by_))) * s.steps[k].by_ = (min 0 (min ((300000 - p + s.steps[k].by_ - 1) / s.steps[k].by_) ((most - p) / s.steps[k].by_))) * s.steps[k].by_ from rfl) (by omega) (by omega)) ?_
       refine Aa rfl (Bp (Ap rfl <| Al rfl <| Ab) (Ab) rfl (by omega) (by omega)) ?_
       refine Aa rfl (Ae (Ab)) ?_
       refine Ah <| Ad <| Ag <| Ai fun ds => Aa rfl (Af (Ay rfl <| Ap rfl <| Ab)) ?_
       refine Aa rfl (Af (Ba rfl <| A9 rfl <| Ay rfl <| Ap rfl <| Al rfl <| Ab)) ?_
       refine Aa rfl (B7 (Al rfl <| Ab) (Ab)) ?_
       refine Aa rfl (Af (Ab)) ?_
       refine At rfl rfl (Ab) (decide_eq_false hA) ?_
       refine Aa rfl (Af (A9 rfl <| Ap rfl <| Ab)) ?_
       refine At rfl rfl (Al rfl <| Ab) (decide_eq_false hA) ?_
       refine Aa rfl (Af (Ba rfl <| Ap rfl <| Ab)) ?_
       refine At rfl rfl (Ap rfl <| Ab) (decide_eq_false hA) ?_
       refine Aa rfl (Bt (Al rfl <| Ab) (Ab)) ?_
       refine Aa rfl (A8 (Ap rfl <| Al rfl <| Ab) (decide_eq_false hA) (Ab)) ?_
       refine Ah <| Ad ?_
       by_cases hB : min 0 (min ((300000 - p + s.steps[k].by_ - 1) / s.steps[k].by_) ((most - p) / s.steps[k].by_)) < (300000 - p + s.steps[k].by_ - 1) / s.steps[k].by_
       ·
        refine Aq (Ab) (decide_eq_true hB) ?_
        refine Ag <| Ai fun ds => Aa rfl (Af (A9 rfl <| Ab)) ?_
        refine Aa rfl (Ae (Ab)) ?_
        refine Ah <| Ad <| A5 <| Bb (A3 (A3 (Bb (A3 ?_))))
        refine Ax rfl (.tmp (Ab) .nil) ?_
        show _ = _
        rw [← hcl, n5 (.inr hB)]; rfl
       ·
        refine Am (Ab) (decide_eq_false hB) ?_
        have n7 := n6 hA hB
        refine Aw <| Bf <| Ad <| Ai fun ds => Aa rfl (Af (Bo rfl <| Ba rfl <| A9 rfl <| Ay rfl <| Al rfl <| As rfl hs9)) ?_
        refine Aa rfl (Bp (Ab) Ac rfl (by omega) (by omega)) ?_
        refine Aa rfl (Ae (Ab)) ?_
        refine Ah <| Ad ⟨_, m - 1, Off.eq (Ey rfl <| Ey rfl <| Bd), by omega, ?_⟩
        refine ⟨k + 1, p + (min 0 (min ((300000 - p + s.steps[k].by_ - 1) / s.steps[k].by_) ((most - p) / s.steps[k].by_))) * s.steps[k].by_, by omega, (Ab), (A9 rfl <| Ap rfl <| Al rfl <| Ab), by omega, n3, by rw [← n4]; exact hcl, ?_, ?_, rfl⟩
        · intro h; exact absurd h hk1
        · intro _; exact n7
    ·
     refine Aw <| Ad <| Ag <| Ag <| Ai fun ds => Aa rfl (Af (Ba rfl <| Ap rfl <| Al rfl <| As rfl hs1)) ?_
     refine Aa rfl (Af (Ay rfl <| Ap rfl <| Al rfl <| Ab)) ?_
     refine Aa rfl (Dq (Al rfl <| Ab) (Ab)) ?_
     refine Ah <| Ad <| Aq (Ab) (decide_eq_true (by omega)) ?_
     refine Bv ?_
     refine Bk (Bn ?_)
     refine Ad <| Ai fun ds => Aa rfl (Af (Ba rfl <| Ay rfl <| Ap rfl <| As rfl hs9)) ?_
     refine Aa rfl (Bp (Ab) Ac rfl (by omega) (by omega)) ?_
     refine Aa rfl (Ae (Ab)) ?_
     refine Ah <| Ad ⟨_, m - 1, Off.eq (C5 rfl <| D7 rfl <| Ej rfl <| Bd), by omega, ?_⟩
     refine ⟨k + 1, p, by omega, (Ab), (Ba rfl <| A9 rfl <| Al rfl <| As rfl hs1), h0p, hpm, hcl, ?_, ?_, rfl⟩
     · intro h; exact absurd h hk1
     · intro _; omega
  ·
   refine Ag <| Ag <| Ai fun ds => Aa rfl (Af (As rfl hs9)) ?_
   refine Aa rfl (Aj Dg (Al rfl <| Ao rfl <| Ap rfl <| Ab)) ?_
   refine Aa rfl (Ar Dv (Ab) (Cell.own 0 rfl rfl)) ?_
   refine Aa rfl (Bi Ds (Ab) hr.steps.plain) ?_
   refine Aa rfl (Bt (Ap rfl <| Al rfl <| Ab) (Ab)) ?_
   refine Ah <| Ad <| Am (Ab) (by first | rfl | exact decide_eq_false (by omega)) ?_
   have := hbig (by omega)
   refine Bv ?_
   refine Bk <| Bk <| Bn <| Ad <| Ag <| Ai fun ds => Aa rfl (Af (Ay rfl <| Al rfl <| As rfl hs1)) ?_
   refine Aa rfl (Ae (Ab)) ?_
   refine Ah <| Ad <| A5 <| Ax rfl (.tmp (Ab) .nil) ?_
   exact absurd hpm (by omega)
end Go.Proofs.Ytaikojfonleccaa
namespace Go.Proofs.Ytaikojfonleccaa
open Go.RowKit
theorem zr_63 : ZeroT Try.prog 63 (.agg #[.int .i64 0, .int .i64 0]) := Db (by kernel_rfl)
theorem En : AggT Try.prog 63 2 := aggT_of (by kernel_rfl)
theorem bd_117 : Body Try.prog 117 := Bq (by kernel_rfl)
theorem bd_41 : Body Try.prog 41 := Bq (by kernel_rfl)
theorem bd_90 : Body Try.prog 90 := Bq (by kernel_rfl)
theorem bt_63 : BuildT Try.prog 63 [.int .i64 0, .int .i64 0] [(0, 1), (1, 1)] := E2 zr_63 (by kernel_rfl) (by decide)
theorem el_3 : ElemT Try.prog 3 1 8 (.int .i64 0) := elemT_of (by kernel_rfl) rfl (by decide)
theorem sz_63 : SizeT Try.prog 63 2 := Dt (by kernel_rfl)
theorem memF {ring : List Int} : (fun b => false || inRing ring b) = inRing ring := by funext b; simp
def bidTo (s : Sale) (lot : Int) (ring : List Int) (k : Nat) : List Nat := (List.range k).filter (biddingP s lot ring)
theorem bidTo_succ {s : Sale} {lot : Int} {ring : List Int} {k : Nat} : bidTo s lot ring (k + 1) = if biddingP s lot ring k = true then bidTo s lot ring k ++ [k] else bidTo s lot ring k := by
 unfold bidTo; rw [List.range_succ, List.filter_append]
 by_cases h : biddingP s lot ring k = true
 · rw [if_pos h]; simp [h]
 · rw [if_neg h]; simp [h]
theorem bidTo_length {s : Sale} {lot : Int} {ring : List Int} {k : Nat} : (bidTo s lot ring k).length ≤ k := Nat.le_trans (List.length_filter_le _ _) (by simp)
set_option maxRecDepth 100000 in
theorem refBidding_ok {F : Heap} {vs vb vl vn vd : Value} {s : Sale} (hr : SaleR F vs vb vl vn vd s) (hn : s.bids.length ≤ 16) {vr : Value} {ring : List Int} (hx : Ints F vr ring) (lot : Int) : Ok Try.prog 41 [.agg #[vs, .int .i64 s.premium, .int .i64 s.fee, .int .i64 s.days, vb, vl, vn, vd], .int .i64 lot, vr].toArray F fun u F' => Nats F' u (biddingL s lot ring) := by
 refine Ok.intro Try.func41 rfl Try.ntmps41 rfl fun w0 => ?_
 have hL1 := hr.bids.plain.lt
 refine Ag <| Ai fun ds => Bm rfl (B9 (Ak rfl) rfl fun b1 hb1 nb1 => ?_)
 refine Aa rfl (Ae Ac) ?_
 refine Ah <| Ad <| Ag <| Ai fun ds => Aa rfl (Bg B8 (Al rfl <| Ab) rfl rfl (Bl 0 rfl)) ?_
 refine Aa rfl (Af (Ap rfl <| Al rfl <| Ak rfl)) ?_
 refine Aa rfl (Af (Ay rfl <| Ak rfl)) ?_
 refine Bw rfl (Bc bd_90 A0 (.cons (Ap rfl <| Ab) (.cons (Al rfl <| Ab) (.cons (Ab) (.cons Ac .nil)))) (refStrongest_ok hr hx lot false) (fun _ _ h => h.trans (by rw [memF]))) ?_
 refine Aa rfl (Ae (Ab)) ?_
 refine Ah <| Ad <| Ag <| Ai fun ds => Aa rfl (Ae Ac) ?_
 refine Ah <| Ad <| Ag <| Ag <| Ai fun ds => Aa rfl (Ae Ac) ?_
 refine Ah <| Ad <| A4 <| Bx [8, 9, 14, 15, 16, 17, 18, 19, 20, 21, 22, 23, 24, 25, 26, 27, 28, 29, 30, 31, 32, 33, 34, 35, 36, 37, 38, 39, 40, 41, 42, 43, 44, 45, 46, 47, 48] (fun m e σ => ∃ k : Nat, m + k = s.bids.length ∧ e 9 = .int .i64 (k : Int) ∧ ∃ v R, e 8 = v ∧ Own 3 1 v (bidTo s lot ring k).length ((bidTo s lot ring k).flatMap natE) R ∧ σ = ⟨F, (b1, bx 27 [vs, .int .i64 s.premium, .int .i64 s.fee, .int .i64 s.days, vb, vl, vn, vd]) :: R⟩) (s.bids.length) ?_ ?_
 · exact ⟨0, by omega, (Ab), _, _, (Al rfl <| Ab), Own.nil, rfl⟩
 ·
  rintro m e _ ⟨k, hm9, hs9, v8, R8, hs8, ho, rfl⟩; have hbl := bidTo_length (s := s) (lot := lot) (ring := ring) (k := k)
  by_cases hlt : k < s.bids.length
  ·
   refine Ag <| Ag <| Ai fun ds => Aa rfl (Af (As rfl hs9)) ?_
   refine Aa rfl (Aj Cy (Al rfl <| Ao rfl <| A9 rfl <| Ab)) ?_
   refine Aa rfl (Ar Dd (Ab) (Cell.own 0 rfl rfl)) ?_
   refine Aa rfl (Bi Dj (Ab) hr.bids.plain) ?_
   refine Aa rfl (Bt (Ap rfl <| Al rfl <| Ab) (Ab)) ?_
   refine Ah <| Ad <| Aq (Ab) (by first | rfl | exact decide_eq_true (by omega)) ?_
   by_cases hl : (s.bid k).lot = lot
   ·
    refine Aw <| Ad <| Ag <| A4 <| Ag <| Ai fun ds => Aa rfl (Aj Cy (Ay rfl <| Al rfl <| Ao rfl <| A9 rfl <| Ab)) ?_
    refine Aa rfl (Ar Dd (Ab) (Cell.own 0 rfl rfl)) ?_
    refine Aa rfl (Af (Ay rfl <| Ap rfl <| Al rfl <| As rfl hs9)) ?_
    refine Aa rfl (Bh  Dj (Al rfl <| Ab) hr.bids.plain (Ab) rfl hlt) ?_
    refine Aa rfl (B0 E7 (Ab)) ?_
    refine Aa rfl (Ar Bj (Ab) (hr.bids.cell hlt rfl)) ?_
    refine Aa rfl (Af (A9 rfl <| Ap rfl <| Al rfl <| Ao rfl <| A9 rfl <| Al rfl <| Ak rfl)) ?_
    refine Aa rfl (B7 (Al rfl <| Ab) (Ab)) ?_
    refine Aa rfl (Af (Ab)) ?_
    refine At rfl rfl (Ab) (decide_eq_true (by rw [Cg hlt]; exact hl)) ?_
    refine Aa rfl (Af (A9 rfl <| Ay rfl <| Ap rfl <| As rfl hs9)) ?_
    refine At rfl rfl (Al rfl <| Ab) (decide_eq_true (by rw [Cg hlt]; exact hl)) ?_
    refine Aa rfl (Af (A9 rfl <| Ay rfl <| Ap rfl <| Al rfl <| Ao rfl <| Ap rfl <| Ab)) ?_
    refine At rfl rfl (Ap rfl <| Ab) (decide_eq_true (by rw [Cg hlt]; exact hl)) ?_
    refine Aa rfl (B7 (Al rfl <| Ab) (Ab)) ?_
    refine At rfl rfl (Ap rfl <| Al rfl <| Ab) (decide_eq_true (by rw [Cg hlt]; exact hl)) ?_
    refine Aa rfl (Af (Ab)) ?_
    by_cases ht : (k : Int) = topS s lot (inRing ring)
    ·
     refine Au rfl rfl (Ab) (.inl (congrArg Value.bool (decide_eq_true ht))) rfl ?_
     refine Au rfl rfl (Al rfl <| Ab) (.inl (congrArg Value.bool (decide_eq_true ht))) rfl ?_
     refine Au rfl rfl (Ap rfl <| Ab) (.inl (congrArg Value.bool (decide_eq_true ht))) rfl ?_
     refine Au rfl rfl (Ap rfl <| Al rfl <| Ab) (.inl (congrArg Value.bool (decide_eq_true ht))) rfl ?_
     refine Au rfl rfl (Ay rfl <| Ab) (.inl (congrArg Value.bool (decide_eq_true ht))) rfl ?_
     refine Au rfl rfl (Ay rfl <| Al rfl <| Ab) (.inl (congrArg Value.bool (decide_eq_true ht))) rfl ?_
     refine Au rfl rfl (Ay rfl <| Ap rfl <| Ab) (.inl (congrArg Value.bool (decide_eq_true ht))) rfl ?_
     refine Au rfl rfl (Ay rfl <| Ap rfl <| Al rfl <| Ab) (.inl (congrArg Value.bool (decide_eq_true ht))) rfl ?_
     refine Au rfl rfl (A9 rfl <| Ab) (.inl (congrArg Value.bool (decide_eq_true ht))) rfl ?_
     refine At rfl rfl (A9 rfl <| Ay rfl <| Al rfl <| Ab) (decide_eq_true (by rw [Cg hlt]; exact hl)) ?_
     refine Aa rfl (A6 (A9 rfl <| Al rfl <| Ab) (decide_eq_true ht) Ac) ?_
     refine Aa rfl (A6 (A9 rfl <| Ay rfl <| Ap rfl <| Ab) (decide_eq_true (by rw [Cg hlt]; exact hl)) (Ab)) ?_
     refine Ah <| Ad <| Aq (Ab) rfl ?_
     refine Ai fun ds => Aa rfl (Af (Ba rfl <| A9 rfl <| Ay rfl <| Al rfl <| As rfl hs8)) ?_
     refine Aa rfl (Af (Ba rfl <| A9 rfl <| Ay rfl <| Ap rfl <| As rfl hs9)) ?_
     refine Bm rfl (Bz Bs C6 rfl (.cons (Ab) .nil) rfl rfl (by decide) (by simp [Value.oneCell']) fun b3 hb3 nb3 => ?_)
     refine Bm rfl (Ct Bs el_3 (Ap rfl <| Ab) ho (Ab) (C8 (s := 1) 0 rfl rfl (by simp [Value.oneCell'])) (by omega) (by omega) (.s <| .s <| .z) .last fun v4 R5 ho6 => ?_)
     have ho2 := ho6.snoc (x := k) rfl rfl
     refine Aa rfl (Ae (Ab)) ?_
     refine Ah <| Bf <| Ad <| Cd (fun _ _ h => h.drop (.cons _ <| .cons_cons _ <| .refl _)) ?_
     refine Ai fun ds => Aa rfl (Af (Bo rfl <| Ap rfl <| As rfl hs9)) ?_
     refine Aa rfl (Bp (Ab) Ac rfl (by omega) (by omega)) ?_
     refine Aa rfl (Ae (Ab)) ?_
     refine Ah <| Ad ⟨_, m - 1, Off.eq (Ey rfl <| Et rfl <| Ej rfl <| Bd), by omega, ?_⟩
     refine ⟨k + 1, by omega, (Ab), _, _, (Ap rfl <| Al rfl <| Ab), by rw [bidTo_succ, if_pos (show biddingP s lot ring k = true by unfold biddingP; simp [hl, ← ht])]; exact ho2, rfl⟩
    ·
     refine At rfl rfl (Ab) (decide_eq_false ht) ?_
     refine Aa rfl (Af (Ba rfl <| Ap rfl <| Ao rfl <| A9 rfl <| Al rfl <| Ak rfl)) ?_
     refine At rfl rfl (Al rfl <| Ab) (decide_eq_false ht) ?_
     refine Aa rfl (Aj Cy (Ba rfl <| Ap rfl <| Al rfl <| Ao rfl <| A9 rfl <| Ab)) ?_
     refine At rfl rfl (Ap rfl <| Ab) (decide_eq_false ht) ?_
     refine Aa rfl (Ar Dd (Ab) (Cell.own 0 rfl rfl)) ?_
     refine At rfl rfl (Ap rfl <| Al rfl <| Ab) (decide_eq_false ht) ?_
     refine Aa rfl (Af (Ba rfl <| Ay rfl <| Al rfl <| As rfl hs9)) ?_
     refine At rfl rfl (Ay rfl <| Ab) (decide_eq_false ht) ?_
     refine Aa rfl (Bh  Dj (Al rfl <| Ab) hr.bids.plain (Ab) rfl hlt) ?_
     refine At rfl rfl (Ay rfl <| Al rfl <| Ab) (decide_eq_false ht) ?_
     refine Aa rfl (B0 D5 (Ab)) ?_
     refine At rfl rfl (Ay rfl <| Ap rfl <| Ab) (decide_eq_false ht) ?_
     refine Aa rfl (Ar Bj (Ab) (hr.bids.cell hlt rfl)) ?_
     refine At rfl rfl (Ay rfl <| Ap rfl <| Al rfl <| Ab) (decide_eq_false ht) ?_
     refine Bw rfl (Bc bd_42 A0 (.cons (Ay rfl <| Ap rfl <| Ab) (.cons (Ab) .nil)) (has_ok hx _) (fun _ _ h => h)) ?_
     refine At rfl rfl (A9 rfl <| Ab) (decide_eq_false ht) ?_
     refine Aa rfl (Cu (Ab)) ?_
     refine At rfl rfl (A9 rfl <| Ay rfl <| Al rfl <| Ab) (decide_eq_true (by rw [Cg hlt]; exact hl)) ?_
     refine Aa rfl (A8 (A9 rfl <| Al rfl <| Ab) (decide_eq_false ht) (Ab)) ?_
     refine Aa rfl (A6 (A9 rfl <| Ay rfl <| Ap rfl <| Ab) (decide_eq_true (by rw [Cg hlt]; exact hl)) (Ab)) ?_
     refine Ah <| Ad ?_
     by_cases hin : inRing ring (s.bid k).bidder = true
     ·
      refine Am (Ab) (by rw [Cg hlt]; unfold inRing at hin; rw [hin]; rfl) ?_
      refine Aw <| Bf <| Ad <| Ai fun ds => Aa rfl (Af (Ba rfl <| A9 rfl <| Ay rfl <| Al rfl <| As rfl hs9)) ?_
      refine Aa rfl (Bp (Ab) Ac rfl (by omega) (by omega)) ?_
      refine Aa rfl (Ae (Ab)) ?_
      refine Ah <| Ad ⟨_, m - 1, Off.eq (Ey rfl <| Bd), by omega, ?_⟩
      refine ⟨k + 1, by omega, (Ab), _, _, (Bo rfl <| As rfl hs8), by rw [bidTo_succ, if_neg (show ¬ biddingP s lot ring k = true by unfold biddingP; simp [hl, ht, hin])]; exact ho, rfl⟩
     ·
      replace hin : inRing ring (s.bid k).bidder = false := by simpa using hin
      refine Aq (Ab) (by rw [Cg hlt]; unfold inRing at hin; rw [hin]; rfl) ?_
      refine Ai fun ds => Aa rfl (Af (Ba rfl <| A9 rfl <| Ay rfl <| Al rfl <| As rfl hs8)) ?_
      refine Aa rfl (Af (Ba rfl <| A9 rfl <| Ay rfl <| Ap rfl <| As rfl hs9)) ?_
      refine Bm rfl (Bz Bs C6 rfl (.cons (Ab) .nil) rfl rfl (by decide) (by simp [Value.oneCell']) fun b7 hb7 nb7 => ?_)
      refine Bm rfl (Ct Bs el_3 (Ap rfl <| Ab) ho (Ab) (C8 (s := 1) 0 rfl rfl (by simp [Value.oneCell'])) (by omega) (by omega) (.s <| .s <| .z) .last fun v8 R9 ho10 => ?_)
      have ho2 := ho10.snoc (x := k) rfl rfl
      refine Aa rfl (Ae (Ab)) ?_
      refine Ah <| Bf <| Ad <| Cd (fun _ _ h => h.drop (.cons _ <| .cons_cons _ <| .refl _)) ?_
      refine Ai fun ds => Aa rfl (Af (Bo rfl <| Ap rfl <| As rfl hs9)) ?_
      refine Aa rfl (Bp (Ab) Ac rfl (by omega) (by omega)) ?_
      refine Aa rfl (Ae (Ab)) ?_
      refine Ah <| Ad ⟨_, m - 1, Off.eq (Ey rfl <| Et rfl <| Ej rfl <| Bd), by omega, ?_⟩
      refine ⟨k + 1, by omega, (Ab), _, _, (Ap rfl <| Al rfl <| Ab), by rw [bidTo_succ, if_pos (show biddingP s lot ring k = true by unfold biddingP; simp [hl, hin])]; exact ho2, rfl⟩
   ·
    refine Aw <| Ad <| Ag <| A4 <| Ag <| Ai fun ds => Aa rfl (Aj Cy (Ay rfl <| Al rfl <| Ao rfl <| A9 rfl <| Ab)) ?_
    refine Aa rfl (Ar Dd (Ab) (Cell.own 0 rfl rfl)) ?_
    refine Aa rfl (Af (Ay rfl <| Ap rfl <| Al rfl <| As rfl hs9)) ?_
    refine Aa rfl (Bh  Dj (Al rfl <| Ab) hr.bids.plain (Ab) rfl hlt) ?_
    refine Aa rfl (B0 E7 (Ab)) ?_
    refine Aa rfl (Ar Bj (Ab) (hr.bids.cell hlt rfl)) ?_
    refine Aa rfl (Af (A9 rfl <| Ap rfl <| Al rfl <| Ao rfl <| A9 rfl <| Al rfl <| Ak rfl)) ?_
    refine Aa rfl (B7 (Al rfl <| Ab) (Ab)) ?_
    refine Aa rfl (Af (Ab)) ?_
    refine Au rfl rfl (Ab) (.inl (congrArg Value.bool (decide_eq_false (by rw [Cg hlt]; exact hl)))) rfl ?_
    refine Au rfl rfl (Al rfl <| Ab) (.inl (congrArg Value.bool (decide_eq_false (by rw [Cg hlt]; exact hl)))) rfl ?_
    refine Au rfl rfl (Ap rfl <| Ab) (.inl (congrArg Value.bool (decide_eq_false (by rw [Cg hlt]; exact hl)))) rfl ?_
    refine Au rfl rfl (Ap rfl <| Al rfl <| Ab) (.inl (congrArg Value.bool (decide_eq_false (by rw [Cg hlt]; exact hl)))) rfl ?_
    refine Au rfl rfl (Ab) (.inr rfl) rfl ?_
    refine Au rfl rfl (Al rfl <| Ab) (.inr rfl) rfl ?_
    refine Au rfl rfl (Ap rfl <| Ab) (.inr rfl) rfl ?_
    refine Au rfl rfl (Ap rfl <| Al rfl <| Ab) (.inr rfl) rfl ?_
    refine Au rfl rfl (Ay rfl <| Ab) (.inr rfl) rfl ?_
    refine Au rfl rfl (Ay rfl <| Al rfl <| Ab) (.inr rfl) rfl ?_
    refine Au rfl rfl (Ay rfl <| Ap rfl <| Ab) (.inr rfl) rfl ?_
    refine Au rfl rfl (Ay rfl <| Ap rfl <| Al rfl <| Ab) (.inr rfl) rfl ?_
    refine Au rfl rfl (A9 rfl <| Ab) (.inr rfl) rfl ?_
    refine Au rfl rfl (A9 rfl <| Ay rfl <| Al rfl <| Ab) (.inl (congrArg Value.bool (decide_eq_false (by rw [Cg hlt]; exact hl)))) rfl ?_
    refine Aa rfl (A8 (A9 rfl <| Ay rfl <| Ap rfl <| Ab) (decide_eq_false (by rw [Cg hlt]; exact hl)) Ac) ?_
    refine Ah <| Ad <| Am (Ab) rfl ?_
    refine Aw <| Bf <| Ad <| Ai fun ds => Aa rfl (Af (Ba rfl <| A9 rfl <| Ay rfl <| Al rfl <| As rfl hs9)) ?_
    refine Aa rfl (Bp (Ab) Ac rfl (by omega) (by omega)) ?_
    refine Aa rfl (Ae (Ab)) ?_
    refine Ah <| Ad ⟨_, m - 1, Off.eq (Ey rfl <| Bd), by omega, ?_⟩
    refine ⟨k + 1, by omega, (Ab), _, _, (Bo rfl <| As rfl hs8), by rw [bidTo_succ, if_neg (show ¬ biddingP s lot ring k = true by unfold biddingP; simp [hl])]; exact ho, rfl⟩
  ·
   refine Ag <| Ag <| Ai fun ds => Aa rfl (Af (As rfl hs9)) ?_
   refine Aa rfl (Aj Cy (Al rfl <| Ao rfl <| A9 rfl <| Ab)) ?_
   refine Aa rfl (Ar Dd (Ab) (Cell.own 0 rfl rfl)) ?_
   refine Aa rfl (Bi Dj (Ab) hr.bids.plain) ?_
   refine Aa rfl (Bt (Ap rfl <| Al rfl <| Ab) (Ab)) ?_
   refine Ah <| Ad <| Am (Ab) (by first | rfl | exact decide_eq_false (by omega)) ?_
   obtain rfl : k = s.bids.length := by omega
   refine Dm (σ := ⟨_, _⟩) (by rfl) ho (.s <| .z) .last fun F11 hF12 hz13 => ?_
   have hn2 := ho.sl (fun _ => rfl) hz13 (by omega)
   refine Bv ?_
   refine Bk <| Bk <| Bn <| Ad <| Ag <| Ai fun ds => Aa rfl (Af (Ay rfl <| Al rfl <| As rfl hs8)) ?_
   refine Aa rfl (Ae (Ab)) ?_
   refine Ah <| Ad <| A5 <| Ax rfl (.tmp (Ab) .nil) ?_
   exact hn2
theorem memT {ring : List Int} : (fun b => true || inRing ring b) = fun _ => true := by funext b; simp
def othTo (s : Sale) (one : Int) (l : List Nat) (k : Nat) : Int := othersL s one (l.take k)
theorem othTo_succ {s : Sale} {one : Int} {l : List Nat} {k : Nat} (hk : k < l.length) : othTo s one l (k + 1) = if (l[k] : Int) ≠ one then max (othTo s one l k) (s.bid l[k]).most else othTo s one l k := by
 unfold othTo othersL; rw [List.take_succ_eq_append_getElem hk, List.foldl_append]; rfl
theorem othTo_bound {s : Sale} (hv : ValidS s) {one : Int} {l : List Nat} (hl : ∀ i ∈ l, i < s.bids.length) {k : Nat} : 0 ≤ othTo s one l k ∧ othTo s one l k ≤ 100000 := othersL_bound hv fun i hi => hl i (List.mem_of_mem_take hi)
theorem bid_facts {s : Sale} (hv : ValidS s) {i : Nat} (h : i < s.bids.length) : s.bids[i] = s.bid i ∧ 1 ≤ (s.bid i).most ∧ (s.bid i).most ≤ 100000 ∧ 0 ≤ (s.bid i).bidder ∧ (s.bid i).bidder < s.bidders.length := by
 have := hv.bd i h
 exact ⟨Cg h, this.2.2.2.2.1, this.2.2.2.2.2, this.1, this.2.1⟩
theorem lot_facts {s : Sale} (hv : ValidS s) {l : Nat} (h : l < s.lots.length) : s.lots[l] = s.lot l ∧ 1 ≤ (s.lot l).reserve ∧ (s.lot l).reserve ≤ 100000 ∧ 0 ≤ (s.lot l).seller ∧ (s.lot l).seller < s.sellers.length := by
 have := hv.lo l h
 exact ⟨lot_at h, this.2.2.1, this.2.2.2, this.1, this.2.1⟩
theorem sold_none {s : Sale} {l : Nat} {ring : List Int} (h : topS s (l : Int) (fun _ => true) < 0) : soldS s l ring = ⟨-1, 0⟩ := if_pos (.inl h)
theorem sold_low {s : Sale} {l i : Nat} {ring : List Int} (h : topS s (l : Int) (fun _ => true) = (i : Int)) (h2 : (s.bid i).most < (s.lot l).reserve) : soldS s l ring = ⟨-1, 0⟩ := by
 unfold soldS; rw [h]; exact if_pos (.inr (by simpa using h2))
theorem sold_at {s : Sale} {l i : Nat} {ring : List Int} (h : topS s (l : Int) (fun _ => true) = (i : Int)) (h2 : ¬ (s.bid i).most < (s.lot l).reserve) : soldS s l ring = ⟨(s.bid i).bidder, climbS s (s.lot l).reserve (othersL s i (biddingL s l ring)) (s.bid i).most⟩ := by
 unfold soldS; rw [h]; simp only [Int.toNat_natCast]; exact if_neg (by omega)
set_option maxRecDepth 100000 in
theorem refSold_ok {F : Heap} {vs vb vl vn vd : Value} {s : Sale} (hr : SaleR F vs vb vl vn vd s) (hv : ValidS s) {vr : Value} {ring : List Int} (hx : Ints F vr ring) {l : Nat} (hl : l < s.lots.length) : Ok Try.prog 102 [.agg #[vs, .int .i64 s.premium, .int .i64 s.fee, .int .i64 s.days, vb, vl, vn, vd], .int .i64 (l : Int), vr].toArray F fun u _ => u = .agg (soldS s l ring).enc.toArray := by
 refine Ok.intro Try.func102 rfl Try.ntmps102 rfl fun w0 => ?_
 have hL1 := hr.bids.plain.lt
 have hL2 := hr.lots.plain.lt
 have hnd := hv.nd
 obtain ⟨e1, e2, e3, e4, e5⟩ := lot_facts hv hl
 have htl := topTo_lt (s := s) (lot := (l : Int)) (mem := fun _ => true) s.bids.length
 by_cases h0 : (topS s (l : Int) fun _ => true) < 0
 ·
  refine Ag <| Ai fun ds => Bm rfl (B9 (Ak rfl) rfl fun b1 hb1 nb1 => ?_)
  refine Bm rfl (B5 zr_63 rfl fun b2 hb2 nb2 => ?_)
  refine Ah <| Ad <| Ag <| Ai fun ds => Aa rfl (Bg B8 (Al rfl <| Ab) rfl rfl (Bl 1 rfl)) ?_
  refine Aa rfl (Af (Ap rfl <| Al rfl <| Ak rfl)) ?_
  refine Bw rfl (Bc bd_90 A0 (.cons (Al rfl <| Ab) (.cons (Ab) (.cons Ac (.cons Ac .nil)))) (refStrongest_ok hr (Sl.nil : Ints _ _ []) (l : Int) true) (fun _ _ h => h.trans (by rw [memT]))) ?_
  refine Aa rfl (Ae (Ab)) ?_
  refine Ah <| Ad <| Ag <| Ag <| Cf (.inl rfl) (fun _ _ h => h) (by kernel_rfl) (by kernel_rfl) fun ds => ?_
  refine Az rfl (Af (Ab)) ?_
  refine Az rfl (Bt (Ab) Ac) ?_
  refine Az rfl (Af (Ab)) ?_
  refine A1 rfl rfl (Ab) (.inl (congrArg Value.bool (decide_eq_true h0))) rfl ?_
  refine A1 rfl rfl (Al rfl <| Ab) (.inl (congrArg Value.bool (decide_eq_true h0))) rfl ?_
  refine A1 rfl rfl (Ap rfl <| Ab) (.inl (congrArg Value.bool (decide_eq_true h0))) rfl ?_
  refine A1 rfl rfl (Ap rfl <| Al rfl <| Ab) (.inl (congrArg Value.bool (decide_eq_true h0))) rfl ?_
  refine A1 rfl rfl (Ay rfl <| Ab) (.inl (congrArg Value.bool (decide_eq_true h0))) rfl ?_
  refine A1 rfl rfl (Ay rfl <| Al rfl <| Ab) (.inl (congrArg Value.bool (decide_eq_true h0))) rfl ?_
  refine A1 rfl rfl (Ay rfl <| Ap rfl <| Ab) (.inl (congrArg Value.bool (decide_eq_true h0))) rfl ?_
  refine A1 rfl rfl (Ay rfl <| Ap rfl <| Al rfl <| Ab) (.inl (congrArg Value.bool (decide_eq_true h0))) rfl ?_
  refine A1 rfl rfl (A9 rfl <| Ab) (.inl (congrArg Value.bool (decide_eq_true h0))) rfl ?_
  refine A1 rfl rfl (A9 rfl <| Al rfl <| Ab) (.inl (congrArg Value.bool (decide_eq_true h0))) rfl ?_
  refine A1 rfl rfl (A9 rfl <| Ap rfl <| Ab) (.inl (congrArg Value.bool (decide_eq_true h0))) rfl ?_
  refine A1 rfl rfl (A9 rfl <| Ap rfl <| Al rfl <| Ab) (.inl (congrArg Value.bool (decide_eq_true h0))) rfl ?_
  refine A1 rfl rfl (A9 rfl <| Ay rfl <| Ab) (.inl (congrArg Value.bool (decide_eq_true h0))) rfl ?_
  refine Az rfl (A6 (A9 rfl <| Ay rfl <| Al rfl <| Ab) (decide_eq_true h0) Ac) ?_
  refine Cb ?_
  refine Ad <| Aq (Ab) rfl ?_
  refine Ag <| Ai fun ds => Aa rfl (C9 bt_63 (.cons Ac rfl .nil) (.cons rfl rfl (Nat.le_of_ble_eq_true rfl) (.cons (.here) .nil) .nil)) ?_
  refine Cm (B4 sz_63 (Ba rfl <| Ay rfl <| Ap rfl <| Ab) (Ab) (i := 0) rfl rfl rfl rfl (by simp [Value.oneCell']) (.here) ?_)
  refine Ah <| Ad <| A5 <| A3 ?_
  refine Ax rfl (.agg En (Ba rfl <| Ay rfl <| Ap rfl <| Ab) rfl rfl (Bl 0 rfl) .nil) ?_
  show _ = _
  rw [sold_none h0]; rfl
 ·
  obtain ⟨i, hti⟩ := Int.eq_ofNat_of_zero_le (show 0 ≤ (topS s (l : Int) fun _ => true) by omega)
  have hi : i < s.bids.length := by unfold topS at hti; omega
  obtain ⟨d1, d2, d3, d4, d5⟩ := bid_facts hv hi
  refine Ag <| Ai fun ds => Bm rfl (B9 (Ak rfl) rfl fun b3 hb3 nb3 => ?_)
  refine Bm rfl (B5 zr_63 rfl fun b4 hb4 nb4 => ?_)
  refine Ah <| Ad <| Ag <| Ai fun ds => Aa rfl (Bg B8 (Al rfl <| Ab) rfl rfl (Bl 1 rfl)) ?_
  refine Aa rfl (Af (Ap rfl <| Al rfl <| Ak rfl)) ?_
  refine Bw rfl (Bc bd_90 A0 (.cons (Al rfl <| Ab) (.cons (Ab) (.cons Ac (.cons Ac .nil)))) (refStrongest_ok hr (Sl.nil : Ints _ _ []) (l : Int) true) (fun _ _ h => h.trans (by rw [memT, hti]))) ?_
  refine Aa rfl (Ae (Ab)) ?_
  refine Ah <| Ad <| Ag <| Ag <| Cf (.inl rfl) (fun _ _ h => h) (by kernel_rfl) (by kernel_rfl) fun ds => ?_
  refine Az rfl (Af (Ab)) ?_
  refine Az rfl (Bt (Ab) Ac) ?_
  refine Az rfl (Af (Ab)) ?_
  refine A7 rfl rfl (Ab) (decide_eq_false (by omega)) ?_
  refine Az rfl (Aj Cy (A9 rfl <| Ab)) ?_
  refine A7 rfl rfl (Al rfl <| Ab) (decide_eq_false (by omega)) ?_
  refine Az rfl (Ar Dd (Ab) (Cell.own 1 rfl rfl)) ?_
  refine A7 rfl rfl (Ap rfl <| Ab) (decide_eq_false (by omega)) ?_
  refine Az rfl (Af (Ay rfl <| Al rfl <| Ab)) ?_
  refine A7 rfl rfl (Ap rfl <| Al rfl <| Ab) (decide_eq_false (by omega)) ?_
  refine Az rfl (Bh (k := i) Dj (Al rfl <| Ab) hr.bids.plain (Ab) rfl hi) ?_
  refine A7 rfl rfl (Ay rfl <| Ab) (decide_eq_false (by omega)) ?_
  refine Az rfl (B0 E6 (Ab)) ?_
  refine A7 rfl rfl (Ay rfl <| Al rfl <| Ab) (decide_eq_false (by omega)) ?_
  refine Az rfl (Ar Bj (Ab) (hr.bids.cell hi rfl)) ?_
  refine A7 rfl rfl (Ay rfl <| Ap rfl <| Ab) (decide_eq_false (by omega)) ?_
  refine Az rfl (Aj Cw (A9 rfl <| Ay rfl <| Ap rfl <| Ab)) ?_
  refine A7 rfl rfl (Ay rfl <| Ap rfl <| Al rfl <| Ab) (decide_eq_false (by omega)) ?_
  refine Az rfl (Ar Da (Ab) (Cell.own 1 rfl rfl)) ?_
  refine A7 rfl rfl (A9 rfl <| Ab) (decide_eq_false (by omega)) ?_
  refine Az rfl (Af (Ba rfl <| Al rfl <| Ak rfl)) ?_
  refine A7 rfl rfl (A9 rfl <| Al rfl <| Ab) (decide_eq_false (by omega)) ?_
  refine Az rfl (Bh (k := l) Dc (Al rfl <| Ab) hr.lots.plain (Ab) rfl hl) ?_
  refine A7 rfl rfl (A9 rfl <| Ap rfl <| Ab) (decide_eq_false (by omega)) ?_
  refine Az rfl (B0 fd_69_2 (Ab)) ?_
  refine A7 rfl rfl (A9 rfl <| Ap rfl <| Al rfl <| Ab) (decide_eq_false (by omega)) ?_
  refine Az rfl (Ar Bj (Ab) (hr.lots.cell hl rfl)) ?_
  refine A7 rfl rfl (A9 rfl <| Ay rfl <| Ab) (decide_eq_false (by omega)) ?_
  refine Az rfl (Bt (Ay rfl <| Ap rfl <| Ab) (Ab)) ?_
  refine Az rfl (A8 (A9 rfl <| Ay rfl <| Al rfl <| Ab) (decide_eq_false (by omega)) (Ab)) ?_
  refine Cb ?_
  refine Ad ?_
  by_cases hlow : (s.bid i).most < (s.lot l).reserve
  ·
   refine Aq (Ab) (decide_eq_true (by rw [d1, e1]; exact hlow)) ?_
   refine Ag <| Ai fun ds => Aa rfl (C9 bt_63 (.cons Ac rfl .nil) (.cons rfl rfl (Nat.le_of_ble_eq_true rfl) (.cons (.here) .nil) .nil)) ?_
   refine Cm (B4 sz_63 (Ba rfl <| Ay rfl <| Ap rfl <| Ab) (Ab) (i := 0) rfl rfl rfl rfl (by simp [Value.oneCell']) (.here) ?_)
   refine Ah <| Ad <| A5 <| A3 ?_
   refine Ax rfl (.agg En (Ba rfl <| Ay rfl <| Ap rfl <| Ab) rfl rfl (Bl 0 rfl) .nil) ?_
   show _ = _
   rw [sold_low hti hlow]; rfl
  ·
   refine Am (Ab) (decide_eq_false (by rw [d1, e1]; exact hlow)) ?_
   have hbl := Fg (s := s) (lot := (l : Int)) (ring := ring)
   have hbln : (biddingL s l ring).length ≤ s.bids.length := bidTo_length
   refine Aw <| Ad <| Ag <| Ai fun ds => Aa rfl (Ae Ac) ?_
   refine Ah <| Ad <| Ag <| Ai fun ds => Aa rfl (Bg B8 (Ba rfl <| Ay rfl <| Ap rfl <| Al rfl <| Ab) rfl rfl (Bl 1 rfl)) ?_
   refine Aa rfl (Af (Ba rfl <| A9 rfl <| Al rfl <| Ak rfl)) ?_
   refine Aa rfl (Af (Ba rfl <| A9 rfl <| Ap rfl <| Ak rfl)) ?_
   refine Bm rfl (Ck bd_41 A0 (.cons (Ap rfl <| Ab) (.cons (Al rfl <| Ab) (.cons (Ab) .nil))) (refBidding_ok hr hnd hx (l : Int)) fun v5 F6 hr7 hF8 => ?_)
   replace hr := hr.mono hF8
   have hbd := hr7
   refine Aa rfl (Ae (Ab)) ?_
   refine Ah <| Ad <| Ag <| Ag <| Ai fun ds => Aa rfl (Ae Ac) ?_
   refine Ah <| Ad <| A4 <| Bx [8, 10, 36, 37, 38, 39, 40, 41, 42, 43, 44, 45, 46, 47, 48, 49, 50, 51, 52, 53, 54, 55, 56, 57, 58] (fun m e σ => ∃ k : Nat, m + k = (biddingL s l ring).length ∧ e 10 = .int .i64 (k : Int) ∧ e 8 = .int .i64 (othTo s i (biddingL s l ring) k) ∧ σ = ⟨F6, [(b4, bx 63 [.int .i64 0, .int .i64 0]), (b3, bx 27 [vs, .int .i64 s.premium, .int .i64 s.fee, .int .i64 s.days, vb, vl, vn, vd])]⟩) ((biddingL s l ring).length) ?_ ?_
   · exact ⟨0, by omega, (Ab), (Ay rfl <| Ap rfl <| Ab), rfl⟩
   ·
    rintro m e _ ⟨k, hm9, hs10, hs8, rfl⟩
    by_cases hlt : k < (biddingL s l ring).length
    ·
     have hbk := hbl _ (List.getElem_mem hlt)
     obtain ⟨c1, c2, c3, c4, c5⟩ := bid_facts hv hbk
     refine Ag <| Ag <| Ai fun ds => Aa rfl (Af (As rfl hs10)) ?_
     refine Aa rfl (Af (Al rfl <| Ao rfl <| Al rfl <| Ab)) ?_
     refine Aa rfl (Bi Bs (Ab) hbd.plain) ?_
     refine Aa rfl (Bt (Ap rfl <| Ab) (Ab)) ?_
     refine Ah <| Ad <| Aq (Ab) (by first | rfl | exact decide_eq_true (by omega)) ?_
     by_cases hne : ((biddingL s l ring)[k] : Int) ≠ (i : Int)
     ·
      refine Aw <| Ad <| Ag <| A4 <| Ag <| Ai fun ds => Aa rfl (Af (Ay rfl <| Ao rfl <| Al rfl <| Ab)) ?_
      refine Aa rfl (Af (Ay rfl <| Al rfl <| As rfl hs10)) ?_
      refine Aa rfl (Bh  Bs (Al rfl <| Ab) hbd.plain (Ab) rfl hlt) ?_
      refine Aa rfl (Ar Bj (Ab) (hbd.cell1 hlt rfl)) ?_
      refine Aa rfl (Af (A9 rfl <| Ao rfl <| Ba rfl <| A9 rfl <| Ab)) ?_
      refine Aa rfl (B6 (Al rfl <| Ab) (Ab)) ?_
      refine Ah <| Ad <| Aq (Ab) (decide_eq_true hne) ?_
      refine Cf (.inl rfl) (fun _ _ h => h) (by kernel_rfl) (by kernel_rfl) fun ds => ?_
      refine Az rfl (Af (A9 rfl <| Ap rfl <| As rfl hs8)) ?_
      refine Az rfl (Aj Cy (A9 rfl <| Ap rfl <| Al rfl <| Ao rfl <| Ba rfl <| A9 rfl <| Ay rfl <| Al rfl <| Ab)) ?_
      refine Az rfl (Ar Dd (Ab) (Cell.own 1 rfl rfl)) ?_
      refine Az rfl (Af (A9 rfl <| Ay rfl <| Al rfl <| Ao rfl <| Al rfl <| Ab)) ?_
      refine Az rfl (Af (A9 rfl <| Ay rfl <| Ap rfl <| As rfl hs10)) ?_
      refine Az rfl (Bh  Bs (Al rfl <| Ab) hbd.plain (Ab) rfl hlt) ?_
      refine Az rfl (Ar Bj (Ab) (hbd.cell1 hlt rfl)) ?_
      refine Az rfl (Bh  Dj (Ay rfl <| Ab) hr.bids.plain (Ab) rfl hbk) ?_
      refine Az rfl (B0 E6 (Ab)) ?_
      refine Az rfl (Ar Bj (Ab) (hr.bids.cell hbk rfl)) ?_
      refine Az rfl (q_max2 (A9 rfl <| Al rfl <| Ab) (Ab)) ?_
      refine Az rfl (Ae (Ab)) ?_
      refine Cb ?_
      refine Bf <| Ad <| Ai fun ds => Aa rfl (Af (Ba rfl <| Ay rfl <| Ap rfl <| As rfl hs10)) ?_
      refine Aa rfl (Bp (Ab) Ac rfl (by omega) (by omega)) ?_
      refine Aa rfl (Ae (Ab)) ?_
      refine Ah <| Ad ⟨_, m - 1, Off.eq (C5 rfl <| D7 rfl <| Ej rfl <| Bd), by omega, ?_⟩
      exact ⟨k + 1, by omega, (Ab), by rw [othTo_succ hlt, if_pos hne, ← c1]; exact (Ap rfl <| Al rfl <| Ab), rfl⟩
     ·
      refine Aw <| Ad <| Ag <| A4 <| Ag <| Ai fun ds => Aa rfl (Af (Ay rfl <| Ao rfl <| Al rfl <| Ab)) ?_
      refine Aa rfl (Af (Ay rfl <| Al rfl <| As rfl hs10)) ?_
      refine Aa rfl (Bh  Bs (Al rfl <| Ab) hbd.plain (Ab) rfl hlt) ?_
      refine Aa rfl (Ar Bj (Ab) (hbd.cell1 hlt rfl)) ?_
      refine Aa rfl (Af (A9 rfl <| Ao rfl <| Ba rfl <| A9 rfl <| Ab)) ?_
      refine Aa rfl (B6 (Al rfl <| Ab) (Ab)) ?_
      refine Ah <| Ad <| Am (Ab) (decide_eq_false hne) ?_
      refine Aw <| Bf <| Ad <| Ai fun ds => Aa rfl (Af (A9 rfl <| Ap rfl <| As rfl hs10)) ?_
      refine Aa rfl (Bp (Ab) Ac rfl (by omega) (by omega)) ?_
      refine Aa rfl (Ae (Ab)) ?_
      refine Ah <| Ad ⟨_, m - 1, Off.eq (D7 rfl <| Et rfl <| Ej rfl <| Bd), by omega, ?_⟩
      exact ⟨k + 1, by omega, (Ab), by rw [othTo_succ hlt, if_neg hne]; exact (A9 rfl <| Ay rfl <| Al rfl <| As rfl hs8), rfl⟩
    ·
     refine Ag <| Ag <| Ai fun ds => Aa rfl (Af (As rfl hs10)) ?_
     refine Aa rfl (Af (Al rfl <| Ao rfl <| Al rfl <| Ab)) ?_
     refine Aa rfl (Bi Bs (Ab) hbd.plain) ?_
     refine Aa rfl (Bt (Ap rfl <| Ab) (Ab)) ?_
     refine Ah <| Ad <| Am (Ab) (by first | rfl | exact decide_eq_false (by omega)) ?_
     have hob := othTo_bound hv (one := (i : Int)) hbl (k := k)
     refine Bv ?_
     refine Bk <| Bk <| Bn <| Ad <| Ag <| D6 (.inl rfl) (fun _ _ h => h) (.cons_cons _ <| .cons_cons _ <| .refl _) [22] (by kernel_rfl) fun ds => ?_
     refine Be 0 rfl (by kernel_rfl) (by kernel_rfl) (by kernel_rfl) (by kernel_rfl) rfl rfl (fun _ h => h.drop (.cons_cons _ <| .cons_cons _ <| .refl _)) (fun _ _ _ h => h) (Aj Cy (Ay rfl <| Ao rfl <| Ba rfl <| A9 rfl <| Ay rfl <| Al rfl <| Ab)) ?_
     refine Be 1 rfl (by kernel_rfl) (by kernel_rfl) (by kernel_rfl) (by kernel_rfl) rfl rfl (fun _ h => h.drop (.cons_cons _ <| .cons_cons _ <| .refl _)) (fun _ _ _ h => h) (Ar Dd (Ab) (Cell.own 1 rfl rfl)) ?_
     refine Be 2 rfl (by kernel_rfl) (by kernel_rfl) (by kernel_rfl) (by kernel_rfl) rfl rfl (fun _ h => h.drop (.cons_cons _ <| .cons_cons _ <| .refl _)) (fun _ _ _ h => h) (Af (Ay rfl <| Ap rfl <| Ao rfl <| Ba rfl <| A9 rfl <| Ab)) ?_
     refine Be 3 rfl (by kernel_rfl) (by kernel_rfl) (by kernel_rfl) (by kernel_rfl) rfl rfl (fun _ h => h.drop (.cons_cons _ <| .cons_cons _ <| .refl _)) (fun _ _ _ h => h) (Bh (k := i) Dj (Al rfl <| Ab) hr.bids.plain (Ab) rfl hi) ?_
     refine Be 4 rfl (by kernel_rfl) (by kernel_rfl) (by kernel_rfl) (by kernel_rfl) rfl rfl (fun _ h => h.drop (.cons_cons _ <| .cons_cons _ <| .refl _)) (fun _ _ _ h => h) (B0 D5 (Ab)) ?_
     refine Be 5 rfl (by kernel_rfl) (by kernel_rfl) (by kernel_rfl) (by kernel_rfl) rfl rfl (fun _ h => h.drop (.cons_cons _ <| .cons_cons _ <| .refl _)) (fun _ _ _ h => h) (Ar Bj (Ab) (hr.bids.cell hi rfl)) ?_
     refine Be 6 rfl (by kernel_rfl) (by kernel_rfl) (by kernel_rfl) (by kernel_rfl) rfl rfl (fun _ h => h.drop (.cons_cons _ <| .cons_cons _ <| .refl _)) (fun _ _ _ h => h) (Bg B8 (A9 rfl <| Ap rfl <| Ao rfl <| Ba rfl <| A9 rfl <| Ay rfl <| Al rfl <| Ab) rfl rfl (Bl 1 rfl)) ?_
     refine Be 7 rfl (by kernel_rfl) (by kernel_rfl) (by kernel_rfl) (by kernel_rfl) rfl rfl (fun _ h => h.drop (.cons_cons _ <| .cons_cons _ <| .refl _)) (fun _ _ _ h => h) (Aj Cw (A9 rfl <| Ap rfl <| Al rfl <| Ao rfl <| Ba rfl <| A9 rfl <| Ay rfl <| Al rfl <| Ab)) ?_
     refine Be 8 rfl (by kernel_rfl) (by kernel_rfl) (by kernel_rfl) (by kernel_rfl) rfl rfl (fun _ h => h.drop (.cons_cons _ <| .cons_cons _ <| .refl _)) (fun _ _ _ h => h) (Ar Da (Ab) (Cell.own 1 rfl rfl)) ?_
     refine Be 9 rfl (by kernel_rfl) (by kernel_rfl) (by kernel_rfl) (by kernel_rfl) rfl rfl (fun _ h => h.drop (.cons_cons _ <| .cons_cons _ <| .refl _)) (fun _ _ _ h => h) (Af (A9 rfl <| Ay rfl <| Al rfl <| Ao rfl <| Ba rfl <| A9 rfl <| Ay rfl <| Ap rfl <| Ak rfl)) ?_
     refine Be 10 rfl (by kernel_rfl) (by kernel_rfl) (by kernel_rfl) (by kernel_rfl) rfl rfl (fun _ h => h.drop (.cons_cons _ <| .cons_cons _ <| .refl _)) (fun _ _ _ h => h) (Bh (k := l) Dc (Al rfl <| Ab) hr.lots.plain (Ab) rfl hl) ?_
     refine Be 11 rfl (by kernel_rfl) (by kernel_rfl) (by kernel_rfl) (by kernel_rfl) rfl rfl (fun _ h => h.drop (.cons_cons _ <| .cons_cons _ <| .refl _)) (fun _ _ _ h => h) (B0 fd_69_2 (Ab)) ?_
     refine Be 12 rfl (by kernel_rfl) (by kernel_rfl) (by kernel_rfl) (by kernel_rfl) rfl rfl (fun _ h => h.drop (.cons_cons _ <| .cons_cons _ <| .refl _)) (fun _ _ _ h => h) (Ar Bj (Ab) (hr.lots.cell hl rfl)) ?_
     refine Be 13 rfl (by kernel_rfl) (by kernel_rfl) (by kernel_rfl) (by kernel_rfl) rfl rfl (fun _ h => h.drop (.cons_cons _ <| .cons_cons _ <| .refl _)) (fun _ _ _ h => h) (Af (Ba rfl <| Al rfl <| As rfl hs8)) ?_
     refine Be 14 rfl (by kernel_rfl) (by kernel_rfl) (by kernel_rfl) (by kernel_rfl) rfl rfl (fun _ h => h.drop (.cons_cons _ <| .cons_cons _ <| .refl _)) (fun _ _ _ h => h) (Aj Cy (Ba rfl <| Ap rfl <| Ao rfl <| Ba rfl <| A9 rfl <| Ay rfl <| Al rfl <| Ab)) ?_
     refine Be 15 rfl (by kernel_rfl) (by kernel_rfl) (by kernel_rfl) (by kernel_rfl) rfl rfl (fun _ h => h.drop (.cons_cons _ <| .cons_cons _ <| .refl _)) (fun _ _ _ h => h) (Ar Dd (Ab) (Cell.own 1 rfl rfl)) ?_
     refine Be 16 rfl (by kernel_rfl) (by kernel_rfl) (by kernel_rfl) (by kernel_rfl) rfl rfl (fun _ h => h.drop (.cons_cons _ <| .cons_cons _ <| .refl _)) (fun _ _ _ h => h) (Af (Ba rfl <| Ay rfl <| Ao rfl <| Ba rfl <| A9 rfl <| Ab)) ?_
     refine Be 17 rfl (by kernel_rfl) (by kernel_rfl) (by kernel_rfl) (by kernel_rfl) rfl rfl (fun _ h => h.drop (.cons_cons _ <| .cons_cons _ <| .refl _)) (fun _ _ _ h => h) (Bh (k := i) Dj (Al rfl <| Ab) hr.bids.plain (Ab) rfl hi) ?_
     refine Be 18 rfl (by kernel_rfl) (by kernel_rfl) (by kernel_rfl) (by kernel_rfl) rfl rfl (fun _ h => h.drop (.cons_cons _ <| .cons_cons _ <| .refl _)) (fun _ _ _ h => h) (B0 E6 (Ab)) ?_
     refine Be 19 rfl (by kernel_rfl) (by kernel_rfl) (by kernel_rfl) (by kernel_rfl) rfl rfl (fun _ h => h.drop (.cons_cons _ <| .cons_cons _ <| .refl _)) (fun _ _ _ h => h) (Ar Bj (Ab) (hr.bids.cell hi rfl)) ?_
     refine Dh 20 rfl (by kernel_rfl) rfl (Br (Bc bd_117 A0 (.cons (A9 rfl <| Ay rfl <| Al rfl <| Ab) (.cons (Ay rfl <| Ap rfl <| Al rfl <| Ab) (.cons (Ay rfl <| Ap rfl <| Ab) (.cons (Ab) .nil)))) (refClimb_ok hr hv (by rw [e1]; omega) (by rw [e1, d1]; omega) hob.1 hob.2 (by rw [d1]; omega)) (fun _ _ h => h)) ⟨fun _ _ => (fun _ h => h.drop (.cons_cons _ <| .cons_cons _ <| .refl _)), ?_⟩)
     refine Be 21 rfl (by kernel_rfl) (by kernel_rfl) (by kernel_rfl) (by kernel_rfl) rfl rfl (fun _ h => h.drop (.cons_cons _ <| .cons_cons _ <| .refl _)) (fun _ _ _ h => h) (C9 bt_63 (.cons (A9 rfl <| Ay rfl <| Ap rfl <| Al rfl <| Ab) rfl (.cons (Ab) rfl .nil)) (.cons rfl rfl (Nat.le_of_ble_eq_true rfl) (.cons (.here) .nil) (.cons rfl rfl (Nat.le_of_ble_eq_true rfl) (.cons (.next <| .here) .nil) .nil))) ?_
     refine WX_x0 22 rfl (by kernel_rfl) (B4 sz_63 (Ba rfl <| A9 rfl <| Ap rfl <| Ao rfl <| Ba rfl <| A9 rfl <| Ay rfl <| Ab) (Ab) (i := 0) rfl rfl rfl rfl (by simp [Value.oneCell']) (.here) ⟨(fun h => nomatch h), ?_⟩)
     refine Di (by kernel_rfl) ?_ _
     refine Ad <| A5 <| Ax rfl (.agg En (Ba rfl <| A9 rfl <| Ap rfl <| Ao rfl <| Ba rfl <| A9 rfl <| Ay rfl <| Ab) rfl rfl (Bl 0 rfl) .nil) ?_
     show _ = _
     rw [sold_at hti hlow, ← Cg hi, ← lot_at hl]; unfold othTo at hob ⊢; simp only [List.take_of_length_le (show (biddingL s l ring).length ≤ k by omega)]; rfl
end Go.Proofs.Ytaikojfonleccaa
namespace Go.Proofs.Ytaikojfonleccaa
open Go.RowKit
theorem bd_102 : Body Try.prog 102 := Bq (by kernel_rfl)
theorem bd_16 : Body Try.prog 16 := Bq (by kernel_rfl)
theorem bd_72 : Body Try.prog 72 := Bq (by kernel_rfl)
theorem el_63 : ElemT Try.prog 63 2 16 (.agg #[.int .i64 0, .int .i64 0]) := elemT_of (by kernel_rfl) rfl (by decide)
theorem Dp : SliceT Try.prog 34 63 2 := Es (by kernel_rfl)
def allTo (s : Sale) (ring : List Int) (k : Nat) : List Res := (List.range k).map fun i => soldS s i ring
theorem allTo_succ {s : Sale} {ring : List Int} {k : Nat} : allTo s ring (k + 1) = allTo s ring k ++ [soldS s k ring] := by unfold allTo; rw [List.range_succ, List.map_append]; rfl
theorem allTo_length {s : Sale} {ring : List Int} {k : Nat} : (allTo s ring k).length = k := by simp [allTo]
set_option maxRecDepth 100000 in
theorem refAll_ok {F : Heap} {vs vb vl vn vd : Value} {s : Sale} (hr : SaleR F vs vb vl vn vd s) (hv : ValidS s) {vr : Value} {ring : List Int} (hx : Ints F vr ring) : Ok Try.prog 72 [.agg #[vs, .int .i64 s.premium, .int .i64 s.fee, .int .i64 s.days, vb, vl, vn, vd], vr].toArray F fun u F' => Sl F' u 2 Res.enc (allS s ring) := by
 refine Ok.intro Try.func72 rfl Try.ntmps72 rfl fun w0 => ?_
 have hL1 := hr.lots.plain.lt
 have hnl := hv.nl
 refine Ag <| Ai fun ds => Bm rfl (B9 (Ak rfl) rfl fun b1 hb1 nb1 => ?_)
 refine Aa rfl (Ae Ac) ?_
 refine Ah <| Ad <| Ag <| Ai fun ds => Aa rfl (Ae Ac) ?_
 refine Ah <| Ad <| Ag <| Ag <| Ai fun ds => Aa rfl (Ae Ac) ?_
 refine Ah <| Ad <| A4 <| Bx [5, 6, 7, 8, 9, 10, 11, 12, 13, 14, 15, 16, 17, 18, 19, 20] (fun m e σ => ∃ k : Nat, m + k = s.lots.length ∧ e 6 = .int .i64 (k : Int) ∧ ∃ v R, e 5 = v ∧ Own 63 2 v (allTo s ring k).length ((allTo s ring k).flatMap Res.enc) R ∧ σ = ⟨F, (b1, bx 27 [vs, .int .i64 s.premium, .int .i64 s.fee, .int .i64 s.days, vb, vl, vn, vd]) :: R⟩) (s.lots.length) ?_ ?_
 · exact ⟨0, by omega, (Ab), _, _, (Al rfl <| Ab), Own.nil, rfl⟩
 ·
  rintro m e _ ⟨k, hm9, hs6, v5, R5, hs5, ho, rfl⟩; have hal := allTo_length (s := s) (ring := ring) (k := k)
  by_cases hlt : k < s.lots.length
  ·
   refine Ag <| Ag <| Ai fun ds => Aa rfl (Af (As rfl hs6)) ?_
   refine Aa rfl (Aj Cw (Al rfl <| Ao rfl <| Ap rfl <| Al rfl <| Ab)) ?_
   refine Aa rfl (Ar Da (Ab) (Cell.own 0 rfl rfl)) ?_
   refine Aa rfl (Bi Dc (Ab) hr.lots.plain) ?_
   refine Aa rfl (Bt (Ap rfl <| Al rfl <| Ab) (Ab)) ?_
   refine Ah <| Ad <| Aq (Ab) (by first | rfl | exact decide_eq_true (by omega)) ?_
   refine Aw <| Ad <| Ag <| A4 <| Ai fun ds => Aa rfl (Af (Ay rfl <| Al rfl <| As rfl hs5)) ?_
   refine Aa rfl (Bg B8 (Ay rfl <| Ap rfl <| Ao rfl <| Ap rfl <| Al rfl <| Ab) rfl rfl (Bl 0 rfl)) ?_
   refine Aa rfl (Af (Ay rfl <| Ap rfl <| Al rfl <| As rfl hs6)) ?_
   refine Aa rfl (Af (A9 rfl <| Ao rfl <| Ay rfl <| Ak rfl)) ?_
   refine Bw rfl (Bc bd_102 A0 (.cons (Ap rfl <| Ab) (.cons (Al rfl <| Ab) (.cons (Ab) .nil))) (refSold_ok hr hv hx hlt) (fun _ _ h => h)) ?_
   refine Bm rfl (Dr (offs := [(0, 2)]) (zl := [.int .i64 0, .int .i64 0]) Dp zr_63 rfl (.cons (Ab) rfl .nil) (by intro i p h; rcases i with _ | i <;> simp at h <;> subst h <;> rfl) (.cons rfl rfl (Nat.le_of_ble_eq_true rfl) (.cons (.here) (.cons (.next <| .here) .nil)) .nil) (by decide) (by decide) fun b3 hb3 nb3 => ?_)
   refine Bm rfl (Ct Dp el_63 (Ay rfl <| Al rfl <| Ab) ho (Ab) (C8 (s := 2) 0 rfl rfl (by simp [Value.oneCell'])) (by omega) (by omega) (.s <| .s <| .z) .last fun v4 R5 ho6 => ?_)
   have ho2 := ho6.snoc (x := soldS s k ring) rfl rfl
   refine Aa rfl (Ae (Ab)) ?_
   refine Ah <| Bf <| Ad <| Cd (fun _ _ h => h.drop (.cons _ <| .cons_cons _ <| .refl _)) ?_
   refine Ai fun ds => Aa rfl (Af (A9 rfl <| Ay rfl <| Al rfl <| As rfl hs6)) ?_
   refine Aa rfl (Bp (Ab) Ac rfl (by omega) (by omega)) ?_
   refine Aa rfl (Ae (Ab)) ?_
   refine Ah <| Ad ⟨_, m - 1, Off.eq (C5 rfl <| Bd), by omega, ?_⟩
   refine ⟨k + 1, by omega, (Ab), _, _, (Ap rfl <| Al rfl <| Ab), by rw [allTo_succ]; exact ho2, rfl⟩
  ·
   refine Ag <| Ag <| Ai fun ds => Aa rfl (Af (As rfl hs6)) ?_
   refine Aa rfl (Aj Cw (Al rfl <| Ao rfl <| Ap rfl <| Al rfl <| Ab)) ?_
   refine Aa rfl (Ar Da (Ab) (Cell.own 0 rfl rfl)) ?_
   refine Aa rfl (Bi Dc (Ab) hr.lots.plain) ?_
   refine Aa rfl (Bt (Ap rfl <| Al rfl <| Ab) (Ab)) ?_
   refine Ah <| Ad <| Am (Ab) (by first | rfl | exact decide_eq_false (by omega)) ?_
   obtain rfl : k = s.lots.length := by omega
   refine Dm (σ := ⟨_, _⟩) (by rfl) ho (.s <| .z) .last fun F7 hF8 hz9 => ?_
   have hn2 := ho.sl (fun _ => rfl) hz9 (by have := allTo_length (s := s) (ring := ring) (k := s.lots.length); omega)
   refine Bv ?_
   refine Bk <| Bk <| Bn <| Ad <| Ag <| Ai fun ds => Aa rfl (Af (Ay rfl <| Al rfl <| As rfl hs5)) ?_
   refine Aa rfl (Ae (Ab)) ?_
   refine Ah <| Ad <| A5 <| Ax rfl (.tmp (Ab) .nil) ?_
   exact hn2
theorem nextE_bad {s : Sale} {p : Int} (h : (checkS s).2.2 ≠ 0) : nextE s p = (0, (checkS s).2.2) := if_pos h
theorem nextE_range {s : Sale} {p : Int} (h : (checkS s).2.2 = 0) (h2 : inB 0 100000 p = false) : nextE s p = (0, 7) := by unfold nextE; rw [if_neg (fun k => k h), if_pos h2]
theorem nextE_ok {s : Sale} {p : Int} (h : (checkS s).2.2 = 0) (h2 : inB 0 100000 p = true) : nextE s p = (behindS s p, 0) := by unfold nextE; rw [if_neg (fun k => k h), if_neg (by rw [h2]; decide)]
theorem in_bounds {lo hi z : Int} (h : inB lo hi z = true) : lo ≤ z ∧ z ≤ hi := by simpa [inB] using h
theorem enterE_bad {s : Sale} {ring : List Int} (h : (checkS s).2.2 ≠ 0) : enterErr s ring = (checkS s).2.2 := if_pos h
theorem enterE_ring {s : Sale} {ring : List Int} (h : (checkS s).2.2 = 0) : enterErr s ring = ringErr s ring := if_neg (fun k => k h)
theorem enterE_ok {s : Sale} {ring : List Int} (h : enterErr s ring = 0) : (checkS s).2.2 = 0 ∧ ringErr s ring = 0 := by
 by_cases h0 : (checkS s).2.2 = 0
 · rw [enterE_ring h0] at h; exact ⟨h0, h⟩
 · rw [enterE_bad h0] at h; exact absurd h h0
def sellE (s : Sale) (ring : List Int) : List Res × Int := if enterErr s ring ≠ 0 then ([], enterErr s ring) else (allS s ring, 0)
theorem sellE_bad {s : Sale} {ring : List Int} {e : Int} (h : enterErr s ring = e) (he : e ≠ 0) : sellE s ring = ([], e) := by subst h; exact if_pos he
theorem sellE_ok {s : Sale} {ring : List Int} (h : enterErr s ring = 0) : sellE s ring = (allS s ring, 0) := if_neg (fun k => k h)
def SellR (F : Heap) (u : Value) (p : List Res × Int) : Prop := ∃ v, u = .tuple #[v, .int .i64 p.2] ∧ Sl F v 2 Res.enc p.1
theorem SellR.mono {F F' : Heap} {u : Value} {p : List Res × Int} (h : SellR F u p) (hF : F.le F') : SellR F' u p := by obtain ⟨v, h1, h2⟩ := h; exact ⟨v, h1, h2.mono hF⟩
end Go.Proofs.Ytaikojfonleccaa
namespace Go.Proofs.Ytaikojfonleccaa
open Go.RowKit
theorem zr_156 : ZeroT Try.prog 156 (.agg #[.slice none 0 0, .int .i64 0, .int .i64 0, .int .i64 0, .slice none 0 0, .slice none 0 0, .slice none 0 0, .slice none 0 0, .int .i64 0, .int .i64 0, .int .i64 0, .int .i64 0, .int .i64 0, .int .i64 0, .int .i64 0, .int .i64 0, .int .i64 0, .int .i64 0, .int .i64 0, .int .i64 0, .int .i64 0, .int .i64 0, .int .i64 0, .int .i64 0, .int .i64 0, .int .i64 0, .int .i64 0, .int .i64 0, .int .i64 0, .int .i64 0, .int .i64 0, .int .i64 0, .int .i64 0, .int .i64 0, .int .i64 0, .int .i64 0, .int .i64 0, .int .i64 0, .int .i64 0, .int .i64 0, .int .i64 0, .int .i64 0, .int .i64 0, .int .i64 0, .int .i64 0, .int .i64 0, .int .i64 0, .int .i64 0, .int .i64 0, .int .i64 0, .int .i64 0, .int .i64 0, .int .i64 0, .int .i64 0, .int .i64 0, .int .i64 0, .int .i64 0, .int .i64 0, .int .i64 0, .int .i64 0, .int .i64 0, .int .i64 0, .int .i64 0, .int .i64 0, .int .i64 0, .int .i64 0, .int .i64 0, .int .i64 0, .int .i64 0, .int .i64 0, .int .i64 0, .int .i64 0, .int .i64 0, .int .i64 0, .int .i64 0, .int .i64 0, .int .i64 0, .int .i64 0, .int .i64 0, .int .i64 0, .map none]) := Db (by kernel_rfl)
theorem bd_15 : Body Try.prog 15 := Bq (by kernel_rfl)
theorem bd_66 : Body Try.prog 66 := Bq (by kernel_rfl)
theorem bt_156 : BuildT Try.prog 156 [.slice none 0 0, .int .i64 0, .int .i64 0, .int .i64 0, .slice none 0 0, .slice none 0 0, .slice none 0 0, .slice none 0 0, .int .i64 0, .int .i64 0, .int .i64 0, .int .i64 0, .int .i64 0, .int .i64 0, .int .i64 0, .int .i64 0, .int .i64 0, .int .i64 0, .int .i64 0, .int .i64 0, .int .i64 0, .int .i64 0, .int .i64 0, .int .i64 0, .int .i64 0, .int .i64 0, .int .i64 0, .int .i64 0, .int .i64 0, .int .i64 0, .int .i64 0, .int .i64 0, .int .i64 0, .int .i64 0, .int .i64 0, .int .i64 0, .int .i64 0, .int .i64 0, .int .i64 0, .int .i64 0, .int .i64 0, .int .i64 0, .int .i64 0, .int .i64 0, .int .i64 0, .int .i64 0, .int .i64 0, .int .i64 0, .int .i64 0, .int .i64 0, .int .i64 0, .int .i64 0, .int .i64 0, .int .i64 0, .int .i64 0, .int .i64 0, .int .i64 0, .int .i64 0, .int .i64 0, .int .i64 0, .int .i64 0, .int .i64 0, .int .i64 0, .int .i64 0, .int .i64 0, .int .i64 0, .int .i64 0, .int .i64 0, .int .i64 0, .int .i64 0, .int .i64 0, .int .i64 0, .int .i64 0, .int .i64 0, .int .i64 0, .int .i64 0, .int .i64 0, .int .i64 0, .int .i64 0, .int .i64 0, .map none] [(0, 8), (8, 36), (44, 36), (80, 1)] := E2 zr_156 (by kernel_rfl) (by decide)
theorem sz_3 : SizeT Try.prog 3 1 := Dt (by kernel_rfl)
theorem mosts_len {s : Sale} {k : Nat} : (mosts s k).length = 36 := Cr
theorem places_len {s : Sale} {k : Nat} : (places s k).length = 36 := Cr
def LookR (F : Heap) (u : Value) (Hn : List (Nat × Obj)) (vs vb vl vn vd : Value) (s : Sale) : Prop := ∃ b kb, u = .tuple #[.pointer (some ⟨b, 0, none⟩), .int .i64 0] ∧ AucX 156 F b vs vb vl vn vd kb s ∧ Hn = [(kb, mapO [])]
set_option maxRecDepth 100000 in
theorem look_ok {F : Heap} {vs vb vl vn vd : Value} {s : Sale} (hr : SaleR F vs vb vl vn vd s) (hv : ValidS s) (h0 : (checkS s).2.2 = 0) : OkN Try.prog 66 [.agg #[vs, .int .i64 s.premium, .int .i64 s.fee, .int .i64 s.days, vb, vl, vn, vd]].toArray F fun u F' Hn => LookR F' u Hn vs vb vl vn vd s := by
 refine OkN.intro Try.func66 rfl Try.ntmps66 rfl fun w0 => ?_
 have hnb := hv.nb
 have hnl := hv.nl
 have hnd := hv.nd
 have hL1 := hr.bids.plain.lt
 have hL2 := hr.bidders.plain.lt
 have hL3 := hr.lots.plain.lt
 refine Ag <| Ai fun ds => Bm rfl (B9 (Ak rfl) rfl fun b1 hb1 nb1 => ?_)
 refine Aa rfl (Ae Ac) ?_
 refine Aa rfl (Ae Ac) ?_
 refine Ah <| Ad <| Ag <| Ag <| Ai fun ds => Aa rfl (Bg B8 (Ap rfl <| Ab) rfl rfl (Bl 0 rfl)) ?_
 refine Bw rfl (Bc bd_15 A0 (.cons (Ab) .nil) (checkS_ok hr) (fun _ _ h => h)) ?_
 refine Aa rfl (Af (Ab)) ?_
 refine Aa rfl (A2 (Ab) rfl) ?_
 refine Aa rfl (A2 (Al rfl <| Ab) rfl) ?_
 refine Aa rfl (A2 (Ap rfl <| Ab) rfl) ?_
 refine Aa rfl (Ae (Ap rfl <| Ab)) ?_
 refine Aa rfl (Ae (Ap rfl <| Ab)) ?_
 refine Aa rfl (Ae (Ap rfl <| Ab)) ?_
 refine Ah <| Ad <| Ag <| Ai fun ds => Aa rfl (Af (Ab)) ?_
 refine Aa rfl (B6 (Ab) Ac) ?_
 refine Ah <| Ad <| Am (Ab) (decide_eq_false (fun h => h h0)) ?_
 refine Aw <| Ad <| Ag <| Ai fun ds => Aa rfl (Bg B8 (A9 rfl <| Ay rfl <| Al rfl <| Ab) rfl rfl (Bl 0 rfl)) ?_
 refine Bm rfl (x_makeMap fun b2 hb2 nb2 => ?_)
 refine Aa rfl (C9 bt_156 (.cons (Al rfl <| Ab) rfl (.cons (Ab) rfl .nil)) (.cons rfl rfl (Nat.le_of_ble_eq_true rfl) (.cons (.here) (.cons (.next <| .here) (.cons (.next <| .next <| .here) (.cons (.next <| .next <| .next <| .here) (.cons (.next <| .next <| .next <| .next <| .here) (.cons (.next <| .next <| .next <| .next <| .next <| .here) (.cons (.next <| .next <| .next <| .next <| .next <| .next <| .here) (.cons (.next <| .next <| .next <| .next <| .next <| .next <| .next <| .here) .nil)))))))) (.cons rfl rfl (Nat.le_of_ble_eq_true rfl) (.cons (.next <| .next <| .next <| .next <| .next <| .next <| .next <| .next <| .next <| .next <| .next <| .next <| .next <| .next <| .next <| .next <| .next <| .next <| .next <| .next <| .next <| .next <| .next <| .next <| .next <| .next <| .next <| .next <| .next <| .next <| .next <| .next <| .next <| .next <| .next <| .next <| .next <| .next <| .next <| .next <| .next <| .next <| .next <| .next <| .next <| .next <| .next <| .next <| .next <| .next <| .next <| .next <| .next <| .next <| .next <| .next <| .next <| .next <| .next <| .next <| .next <| .next <| .next <| .next <| .next <| .next <| .next <| .next <| .next <| .next <| .next <| .next <| .next <| .next <| .next <| .next <| .next <| .next <| .next <| .next <| .here) .nil) .nil))) ?_
 refine Bm rfl (B9 (Ab) rfl fun b3 hb3 nb3 => ?_)
 refine Aa rfl (Ae (Ab)) ?_
 refine Ah <| Ad <| Ag <| Ag <| Ai fun ds => Aa rfl (Aj Cy (Ba rfl <| Ap rfl <| Ab)) ?_
 refine Aa rfl (Ar Dd (Ab) (Cell.own 2 rfl rfl)) ?_
 refine Aa rfl (Bi Dj (Ab) hr.bids.plain) ?_
 refine Aa rfl (Af Ac) ?_
 refine Ah <| Ad <| A4 <| Bx [8, 9, 26, 27, 28, 29, 30, 31, 32, 33, 34, 35, 36, 37, 38, 39, 40, 41, 42, 43, 44, 45, 46, 47, 48, 49, 50, 51, 52, 53] (fun m e σ => ∃ k : Nat, m + k = s.bids.length ∧ e 26 = .int .i64 (k : Int) ∧ σ = ⟨F, [(b3, bx 156 (aucCells s vs vb vl vn vd (mosts s k) (places s k) (.map (some b2)))), (b2, mapO []), (b1, bx 27 [vs, .int .i64 s.premium, .int .i64 s.fee, .int .i64 s.days, vb, vl, vn, vd])]⟩) (s.bids.length) ?_ ?_
 · (refine ⟨0, by omega, (Ab), ?_⟩; rw [mosts_zero, places_zero]; rfl)
 ·
  rintro m e _ ⟨k, hm9, hs26, rfl⟩
  by_cases hlt : k < s.bids.length
  ·
   have hbd := hv.bd k hlt
   obtain ⟨l, hl⟩ := Int.eq_ofNat_of_zero_le hbd.2.2.1
   obtain ⟨c, hc⟩ := Int.eq_ofNat_of_zero_le hbd.1
   have hl6 : l < 6 := by omega
   have hc6 : c < 6 := by omega
   refine Ag <| Ai fun ds => Aa rfl (Bt (As rfl hs26) (Ao rfl <| Al rfl <| Ab)) ?_
   refine Ah <| Ad <| Ag <| Aq (Ab) (by first | rfl | exact decide_eq_true (by omega)) ?_
   refine Aw <| Ad <| Ag <| A4 <| Ag <| Ai fun ds => Aa rfl (Af (Al rfl <| As rfl hs26)) ?_
   refine Aa rfl (Bh  Dj (Ap rfl <| Ao rfl <| Ap rfl <| Ab) hr.bids.plain (Ap rfl <| As rfl hs26) rfl hlt) ?_
   refine Aa rfl (Bg agg_72 (Ab) rfl rfl (hr.bids.whole hlt)) ?_
   refine Bm rfl (B5 zr_72 rfl fun b5 hb5 nb5 => ?_)
   refine Aa rfl (Ae (Ap rfl <| Al rfl <| Ab)) ?_
   refine Cm (B4 sz_72 (Al rfl <| Ab) (Ap rfl <| Ab) (i := 0) rfl rfl rfl rfl Bid.enc_one (.here) ?_)
   refine Ah <| Ad <| D6 (.inl rfl) (fun _ _ h => h) (.cons_cons _ <| .cons _ <| .cons_cons _ <| .cons_cons _ <| .refl _) [23] (by kernel_rfl) fun ds => ?_
   refine Be 0 rfl (by kernel_rfl) (by kernel_rfl) (by kernel_rfl) (by kernel_rfl) rfl rfl (fun _ h => h.drop (.cons_cons _ <| .cons _ <| .cons_cons _ <| .cons_cons _ <| .refl _)) (fun _ _ _ h => h) (Af (Ay rfl <| Ap rfl <| Ao rfl <| Ay rfl <| Ab)) ?_
   refine Be 1 rfl (by kernel_rfl) (by kernel_rfl) (by kernel_rfl) (by kernel_rfl) rfl rfl (fun _ h => h.drop (.cons_cons _ <| .cons _ <| .cons_cons _ <| .cons_cons _ <| .refl _)) (fun _ _ _ h => h) (Aj E7 (Ap rfl <| Ab)) ?_
   refine Be 2 rfl (by kernel_rfl) (by kernel_rfl) (by kernel_rfl) (by kernel_rfl) rfl rfl (fun _ h => h.drop (.cons_cons _ <| .cons _ <| .cons_cons _ <| .cons_cons _ <| .refl _)) (fun _ _ _ h => h) (Ar Bj (Ab) (Cell.own 0 rfl rfl)) ?_
   refine Be 3 rfl (by kernel_rfl) (by kernel_rfl) (by kernel_rfl) (by kernel_rfl) rfl rfl (fun _ h => h.drop (.cons_cons _ <| .cons _ <| .cons_cons _ <| .cons_cons _ <| .refl _)) (fun _ _ _ h => h) (Aj D5 (Ay rfl <| Ab)) ?_
   refine Be 4 rfl (by kernel_rfl) (by kernel_rfl) (by kernel_rfl) (by kernel_rfl) rfl rfl (fun _ h => h.drop (.cons_cons _ <| .cons _ <| .cons_cons _ <| .cons_cons _ <| .refl _)) (fun _ _ _ h => h) (Ar Bj (Ab) (Cell.own 0 rfl rfl)) ?_
   refine Be 5 rfl (by kernel_rfl) (by kernel_rfl) (by kernel_rfl) (by kernel_rfl) rfl rfl (fun _ h => h.drop (.cons_cons _ <| .cons _ <| .cons_cons _ <| .cons_cons _ <| .refl _)) (fun _ _ _ h => h) (Af (A9 rfl <| Ap rfl <| Al rfl <| Ao rfl <| Ay rfl <| Ab)) ?_
   refine Be 6 rfl (by kernel_rfl) (by kernel_rfl) (by kernel_rfl) (by kernel_rfl) rfl rfl (fun _ h => h.drop (.cons_cons _ <| .cons _ <| .cons_cons _ <| .cons_cons _ <| .refl _)) (fun _ _ _ h => h) (Aj E7 (Ay rfl <| Ap rfl <| Al rfl <| Ab)) ?_
   refine Be 7 rfl (by kernel_rfl) (by kernel_rfl) (by kernel_rfl) (by kernel_rfl) rfl rfl (fun _ h => h.drop (.cons_cons _ <| .cons _ <| .cons_cons _ <| .cons_cons _ <| .refl _)) (fun _ _ _ h => h) (Ar Bj (Ab) (Cell.own 0 rfl rfl)) ?_
   refine Be 8 rfl (by kernel_rfl) (by kernel_rfl) (by kernel_rfl) (by kernel_rfl) rfl rfl (fun _ h => h.drop (.cons_cons _ <| .cons _ <| .cons_cons _ <| .cons_cons _ <| .refl _)) (fun _ _ _ h => h) (Aj D5 (A9 rfl <| Al rfl <| Ab)) ?_
   refine Be 9 rfl (by kernel_rfl) (by kernel_rfl) (by kernel_rfl) (by kernel_rfl) rfl rfl (fun _ h => h.drop (.cons_cons _ <| .cons _ <| .cons_cons _ <| .cons_cons _ <| .refl _)) (fun _ _ _ h => h) (Ar Bj (Ab) (Cell.own 0 rfl rfl)) ?_
   refine Be 10 rfl (by kernel_rfl) (by kernel_rfl) (by kernel_rfl) (by kernel_rfl) rfl rfl (fun _ h => h.drop (.cons_cons _ <| .cons _ <| .cons_cons _ <| .cons_cons _ <| .refl _)) (fun _ _ _ h => h) (Aj E6 (A9 rfl <| Ap rfl <| Al rfl <| Ab)) ?_
   refine Be 11 rfl (by kernel_rfl) (by kernel_rfl) (by kernel_rfl) (by kernel_rfl) rfl rfl (fun _ h => h.drop (.cons_cons _ <| .cons _ <| .cons_cons _ <| .cons_cons _ <| .refl _)) (fun _ _ _ h => h) (Ar Bj (Ab) (Cell.own 0 rfl rfl)) ?_
   refine Be 12 rfl (by kernel_rfl) (by kernel_rfl) (by kernel_rfl) (by kernel_rfl) rfl rfl (fun _ h => h.drop (.cons_cons _ <| .cons _ <| .cons_cons _ <| .cons_cons _ <| .refl _)) (fun _ _ _ h => h) (Af (A9 rfl <| Ay rfl <| Ab)) ?_
   refine Be 13 rfl (by kernel_rfl) (by kernel_rfl) (by kernel_rfl) (by kernel_rfl) rfl rfl (fun _ h => h.drop (.cons_cons _ <| .cons _ <| .cons_cons _ <| .cons_cons _ <| .refl _)) (fun _ _ _ h => h) (Bp (Ab) Ac rfl (by omega) (by omega)) ?_
   refine Be 14 rfl (by kernel_rfl) (by kernel_rfl) (by kernel_rfl) (by kernel_rfl) rfl rfl (fun _ h => h.drop (.cons_cons _ <| .cons _ <| .cons_cons _ <| .cons_cons _ <| .refl _)) (fun _ _ _ h => h) (Cc (A9 rfl <| Ay rfl <| Al rfl <| Ab)) ?_
   refine Be 15 rfl (by kernel_rfl) (by kernel_rfl) (by kernel_rfl) (by kernel_rfl) rfl rfl (fun _ h => h.drop (.cons_cons _ <| .cons _ <| .cons_cons _ <| .cons_cons _ <| .refl _)) (fun _ _ _ h => h) (Aj Fk (Ab)) ?_
   refine Be 16 rfl (by kernel_rfl) (by kernel_rfl) (by kernel_rfl) (by kernel_rfl) rfl rfl (fun _ h => h.drop (.cons_cons _ <| .cons _ <| .cons_cons _ <| .cons_cons _ <| .refl _)) (fun _ _ _ h => h) (B3 (k := l) E3 (Ab) (A9 rfl <| Ay rfl <| Al rfl <| Ab) (by rw [Cg hlt]; exact hl) hl6) ?_
   refine Be 17 rfl (by kernel_rfl) (by kernel_rfl) (by kernel_rfl) (by kernel_rfl) rfl rfl (fun _ h => h.drop (.cons_cons _ <| .cons _ <| .cons_cons _ <| .cons_cons _ <| .refl _)) (fun _ _ _ h => h) (B3 (k := c) E4 (Ab) (A9 rfl <| Ay rfl <| Ab) (by rw [Cg hlt]; exact hc) hc6) ?_
   refine Be 19 rfl (by kernel_rfl) (by kernel_rfl) (by kernel_rfl) (by kernel_rfl) rfl rfl (fun _ h => h.drop (.cons_cons _ <| .cons _ <| .cons_cons _ <| .cons_cons _ <| .refl _)) (fun _ _ _ h => h) (Cc (A9 rfl <| Ay rfl <| Ab)) ?_
   refine Be 20 rfl (by kernel_rfl) (by kernel_rfl) (by kernel_rfl) (by kernel_rfl) rfl rfl (fun _ h => h.drop (.cons_cons _ <| .cons _ <| .cons_cons _ <| .cons_cons _ <| .refl _)) (fun _ _ _ h => h) (Aj fd_156_2 (Ab)) ?_
   refine Be 21 rfl (by kernel_rfl) (by kernel_rfl) (by kernel_rfl) (by kernel_rfl) rfl rfl (fun _ h => h.drop (.cons_cons _ <| .cons _ <| .cons_cons _ <| .cons_cons _ <| .refl _)) (fun _ _ _ h => h) (B3 (k := l) E3 (Ab) (A9 rfl <| Ay rfl <| Ab) (by rw [Cg hlt]; exact hl) hl6) ?_
   refine WX_x0 18 rfl (by kernel_rfl) (x_storeK sz_3 (Ap rfl <| Al rfl <| Ab) rfl (A9 rfl <| Al rfl <| Ab) (i := 1) rfl (by simp only [List.length_set, aucCells_length mosts_len places_len]; omega) rfl (.next <| .here) ⟨fun _ _ => (fun _ h => h.drop (.cons_cons _ <| .cons _ <| .cons_cons _ <| .cons_cons _ <| .refl _)), ?_⟩)
   refine Be 22 rfl (by kernel_rfl) (by kernel_rfl) (by kernel_rfl) (by kernel_rfl) rfl rfl (fun _ h => h.drop (.cons_cons _ <| .cons _ <| .cons_cons _ <| .cons_cons _ <| .refl _)) (fun _ _ _ h => h) (B3 (k := c) E4 (Ab) (A9 rfl <| Ap rfl <| Al rfl <| Ab) (by rw [Cg hlt]; exact hc) hc6) ?_
   refine WX_x0 23 rfl (by kernel_rfl) (x_storeK sz_3 (Ab) rfl (A9 rfl <| Ab) (i := 1) rfl (by simp only [List.length_set, aucCells_length mosts_len places_len]; omega) rfl (.next <| .here) ⟨(fun h => nomatch h), ?_⟩)
   refine Di (by kernel_rfl) ?_ _
   refine Bf <| Ad <| Cd (fun _ _ h => h.drop (.cons _ <| .cons_cons _ <| .cons_cons _ <| .cons_cons _ <| .refl _)) ?_
   refine Ai fun ds => Aa rfl (Bp (Ba rfl <| A9 rfl <| Ay rfl <| As rfl hs26) Ac rfl (by omega) (by omega)) ?_
   refine Aa rfl (Af (Ab)) ?_
   refine Ah <| Ad ⟨_, m - 1, Off.eq (C5 rfl <| D7 rfl <| Et rfl <| Eb rfl <| Bd), by omega, ?_⟩
   refine ⟨k + 1, by omega, (Ab), ?_⟩
   rw [← auc_set2 mosts_len hl6 hc6 hl hc, ← auc_set1 hl6 hc6 hl hc, ← Cg hlt]
  ·
   refine Ag <| Ai fun ds => Aa rfl (Bt (As rfl hs26) (Ao rfl <| Al rfl <| Ab)) ?_
   refine Ah <| Ad <| Ag <| Am (Ab) (by first | rfl | exact decide_eq_false (by omega)) ?_
   obtain rfl : k = s.bids.length := by omega
   refine Bv ?_
   refine Bk <| Bk <| Bn <| Ad <| Ag <| Cz (i := 0) rfl hb3 (.here) fun F6 hF7 hz => ?_
   replace hr := hr.mono hF7
   refine Ai fun ds => Aa rfl (Af (Al rfl <| Ao rfl <| Ay rfl <| Ab)) ?_
   refine Aa rfl (Ae (Ab)) ?_
   refine Aa rfl (Ae Ac) ?_
   refine Ah <| Ad <| A5 <| post_retN rfl (.tmp (Al rfl <| Ab) (.tmp (Ab) .nil)) (.cons_cons _ <| .cons _ <| .refl _) ?_
   exact ⟨_, _, rfl, ⟨hr, hz⟩, rfl⟩
set_option maxRecDepth 100000 in
theorem look_bad {F : Heap} {vs vb vl vn vd : Value} {s : Sale} (hr : SaleR F vs vb vl vn vd s) (h0 : (checkS s).2.2 ≠ 0) : Ok Try.prog 66 [.agg #[vs, .int .i64 s.premium, .int .i64 s.fee, .int .i64 s.days, vb, vl, vn, vd]].toArray F fun u _ => u = .tuple #[.pointer none, .int .i64 (checkS s).2.2] := by
 refine Ok.intro Try.func66 rfl Try.ntmps66 rfl fun w0 => ?_
 refine Ag <| Ai fun ds => Bm rfl (B9 (Ak rfl) rfl fun b1 hb1 nb1 => ?_)
 refine Aa rfl (Ae Ac) ?_
 refine Aa rfl (Ae Ac) ?_
 refine Ah <| Ad <| Ag <| Ag <| Ai fun ds => Aa rfl (Bg B8 (Ap rfl <| Ab) rfl rfl (Bl 0 rfl)) ?_
 refine Bw rfl (Bc bd_15 A0 (.cons (Ab) .nil) (checkS_ok hr) (fun _ _ h => h)) ?_
 refine Aa rfl (Af (Ab)) ?_
 refine Aa rfl (A2 (Ab) rfl) ?_
 refine Aa rfl (A2 (Al rfl <| Ab) rfl) ?_
 refine Aa rfl (A2 (Ap rfl <| Ab) rfl) ?_
 refine Aa rfl (Ae (Ap rfl <| Ab)) ?_
 refine Aa rfl (Ae (Ap rfl <| Ab)) ?_
 refine Aa rfl (Ae (Ap rfl <| Ab)) ?_
 refine Ah <| Ad <| Ag <| Ai fun ds => Aa rfl (Af (Ab)) ?_
 refine Aa rfl (B6 (Ab) Ac) ?_
 refine Ah <| Ad <| Aq (Ab) (decide_eq_true h0) ?_
 refine Ag <| Ai fun ds => Aa rfl (Af (Ap rfl <| Ab)) ?_
 refine Aa rfl (Ae Ac) ?_
 refine Aa rfl (Ae (Al rfl <| Ab)) ?_
 refine Ah <| Ad <| A5 <| A3 ?_
 refine Ax rfl (.tmp (Al rfl <| Ab) (.tmp (Ab) .nil)) ?_
 rfl
set_option maxRecDepth 100000 in
theorem next_ok {F : Heap} {vs vb vl vn vd : Value} {s : Sale} (hr : SaleR F vs vb vl vn vd s) (p : Int) : Ok Try.prog 17 [.agg #[vs, .int .i64 s.premium, .int .i64 s.fee, .int .i64 s.days, vb, vl, vn, vd], .int .i64 p].toArray F fun u _ => u = .tuple #[.int .i64 (nextE s p).1, .int .i64 (nextE s p).2] := by
 refine Ok.intro Try.func17 rfl Try.ntmps17 rfl fun w0 => ?_
 by_cases h0 : (checkS s).2.2 = 0
 ·
  refine Ag <| Ai fun ds => Bm rfl (B9 (Ak rfl) rfl fun b1 hb1 nb1 => ?_)
  refine Aa rfl (Ae Ac) ?_
  refine Aa rfl (Ae Ac) ?_
  refine Ah <| Ad <| Ag <| Ai fun ds => Aa rfl (Bg B8 (Ap rfl <| Ab) rfl rfl (Bl 0 rfl)) ?_
  refine Bm rfl (x_callN bd_66 A0 (.cons (Ab) .nil) (look_ok hr (C7 h0) h0) fun v2 F3 R6 hr4 hF5 => ?_)
  obtain ⟨ba, kb, rfl, hX, rfl⟩ := hr4
  refine Aa rfl (Af (Ab)) ?_
  refine Aa rfl (A2 (Ab) rfl) ?_
  refine Aa rfl (A2 (Al rfl <| Ab) rfl) ?_
  refine Aa rfl (Ae (Al rfl <| Ab)) ?_
  refine Aa rfl (Ae (Al rfl <| Ab)) ?_
  refine Ah <| Ad <| Ag <| A4 <| Ag <| Ai fun ds => Aa rfl (Af (Ab)) ?_
  refine Aa rfl (B6 (Ab) Ac) ?_
  refine Aa rfl (Ae (Ab)) ?_
  refine Ah <| Ad <| Am (Ab) (by decide) ?_
  by_cases hp : inB 0 100000 p = true
  ·
   refine Ag <| Ai fun ds => Aa rfl (Af (A9 rfl <| Ay rfl <| Al rfl <| Ak rfl)) ?_
   refine Bm rfl (Bz Bs C6 rfl (.cons (Ab) .nil) rfl rfl (by decide) (by simp [Value.oneCell']) fun b7 hb7 nb7 => ?_)
   refine Bu (i := 0) rfl hb7 .here fun F8 hF9 hz10 => ?_
   replace hX := hX.mono hF9
   have hsl11 := Cp hz10
   refine Bw rfl (Bc Dl A0 (.cons Ac (.cons Ac (.cons (Ab) .nil))) (B2 _ _ hsl11) (fun _ _ h => h)) ?_
   refine Aa rfl (Ae (Ab)) ?_
   refine Ah <| Ad <| Am (Ab) (by simp [hp]) ?_
   have hpb := in_bounds hp
   refine Aw <| Bf <| Ad <| Ag <| Ai fun ds => Aa rfl (Af (A9 rfl <| Ab)) ?_
   refine Aa rfl (Af (Ba rfl <| Ap rfl <| Ak rfl)) ?_
   refine Bw rfl (Bc bd_67 A0 (.cons (Al rfl <| Ab) (.cons (Ab) .nil)) (behind_ok hX (C7 h0) hpb.1 (by omega)) (fun _ _ h => h)) ?_
   refine Aa rfl (Ae (Ab)) ?_
   refine Aa rfl (Ae Ac) ?_
   refine Ah <| Ad <| A5 <| Ax rfl (.tmp (Al rfl <| Ab) (.tmp (Ab) .nil)) ?_
   show _ = _
   rw [nextE_ok h0 hp]; rfl
  ·
   replace hp : inB 0 100000 p = false := by simpa using hp
   refine Ag <| Ai fun ds => Aa rfl (Af (A9 rfl <| Ay rfl <| Al rfl <| Ak rfl)) ?_
   refine Bm rfl (Bz Bs C6 rfl (.cons (Ab) .nil) rfl rfl (by decide) (by simp [Value.oneCell']) fun b12 hb12 nb12 => ?_)
   refine Bu (i := 0) rfl hb12 .here fun F13 hF14 hz15 => ?_
   have hsl16 := Cp hz15
   refine Bw rfl (Bc Dl A0 (.cons Ac (.cons Ac (.cons (Ab) .nil))) (B2 _ _ hsl16) (fun _ _ h => h)) ?_
   refine Aa rfl (Ae (Ab)) ?_
   refine Ah <| Ad <| Aq (Ab) (by simp [hp]) ?_
   refine Ag <| Ai fun ds => Aa rfl (Ae Ac) ?_
   refine Aa rfl (Ae Ac) ?_
   refine Ah <| Ad <| A5 <| Bb (A3 ?_)
   refine Ax rfl (.tmp (Al rfl <| Ab) (.tmp (Ab) .nil)) ?_
   show _ = _
   rw [nextE_range h0 hp]; rfl
 ·
  refine Ag <| Ai fun ds => Bm rfl (B9 (Ak rfl) rfl fun b17 hb17 nb17 => ?_)
  refine Aa rfl (Ae Ac) ?_
  refine Aa rfl (Ae Ac) ?_
  refine Ah <| Ad <| Ag <| Ai fun ds => Aa rfl (Bg B8 (Ap rfl <| Ab) rfl rfl (Bl 0 rfl)) ?_
  refine Bw rfl (Bc bd_66 A0 (.cons (Ab) .nil) (look_bad hr h0) (fun _ _ h => h)) ?_
  refine Aa rfl (Af (Ab)) ?_
  refine Aa rfl (A2 (Ab) rfl) ?_
  refine Aa rfl (A2 (Al rfl <| Ab) rfl) ?_
  refine Aa rfl (Ae (Al rfl <| Ab)) ?_
  refine Aa rfl (Ae (Al rfl <| Ab)) ?_
  refine Ah <| Ad <| Ag <| A4 <| Ag <| Ai fun ds => Aa rfl (Af (Ab)) ?_
  refine Aa rfl (B6 (Ab) Ac) ?_
  refine Aa rfl (Ae (Ab)) ?_
  refine Ah <| Ad <| Aq (Ab) (decide_eq_true h0) ?_
  refine Ag <| Ai fun ds => Aa rfl (Af (Ap rfl <| Al rfl <| Ab)) ?_
  refine Aa rfl (Ae Ac) ?_
  refine Aa rfl (Ae (Al rfl <| Ab)) ?_
  refine Ah <| Ad <| A5 <| Bb (A3 ?_)
  refine Ax rfl (.tmp (Al rfl <| Ab) (.tmp (Ab) .nil)) ?_
  show _ = _
  rw [nextE_bad h0]; rfl
end Go.Proofs.Ytaikojfonleccaa
namespace Go.Proofs.Ytaikojfonleccaa
open Go.RowKit
theorem asc_not {xs : List Int} (h : notAsc xs = false) {i : Nat} (hi : i < xs.length) (h0 : 0 < i) : ¬ xs[i] ≤ xs[i - 1] := fun hle => by rw [notAsc_at h0 hi hle] at h; cases h
def SetOf (set : Nat) (ring : List Int) : Prop := ∀ t : Nat, set.testBit t = decide ((t : Int) ∈ ring)
def EnterR (F : Heap) (u : Value) (Hn : List (Nat × Obj)) (vs vb vl vn vd : Value) (s : Sale) (ring : List Int) : Prop := ∃ b kb set, u = .tuple #[.pointer (some ⟨b, 0, none⟩), .int .i64 ((set : Nat) : Int), .int .i64 0] ∧ AucX 156 F b vs vb vl vn vd kb s ∧ set < 64 ∧ SetOf set ring ∧ Hn = [(kb, mapO [])]
theorem ring_nat {s : Sale} (hv : ValidS s) {ring : List Int} (h : (ring.any fun z => !(inB 0 (s.bidders.length - 1) z)) = false) {k : Nat} (hk : k < ring.length) : ∃ c : Nat, ring[k] = (c : Int) ∧ c < s.bidders.length ∧ c < 6 := by
 have := in_bounds (in_of_any h hk)
 obtain ⟨c, hc⟩ := Int.eq_ofNat_of_zero_le this.1
 have := hv.nb
 exact ⟨c, hc, by omega, by omega⟩
set_option maxRecDepth 100000 in
theorem enter_ok {F : Heap} {vs vb vl vn vd : Value} {s : Sale} (hr : SaleR F vs vb vl vn vd s) {vr : Value} {ring : List Int} (hx : Ints F vr ring) (hok : enterErr s ring = 0) : OkN Try.prog 69 [.agg #[vs, .int .i64 s.premium, .int .i64 s.fee, .int .i64 s.days, vb, vl, vn, vd], vr].toArray F fun u F' Hn => EnterR F' u Hn vs vb vl vn vd s ring := by
 refine OkN.intro Try.func69 rfl Try.ntmps69 rfl fun w0 => ?_
 obtain ⟨h0, h1⟩ := enterE_ok hok
 obtain ⟨hany, hna, hl1⟩ := ringErr_ok h1
 have hL2 := hr.bidders.plain.lt
 have hlen := hx.plain.lt
 refine Ag <| Ai fun ds => Bm rfl (B9 (Ak rfl) rfl fun b1 hb1 nb1 => ?_)
 refine Aa rfl (Ae Ac) ?_
 refine Aa rfl (Ae Ac) ?_
 refine Aa rfl (Ae Ac) ?_
 refine Ah <| Ad <| Ag <| Ag <| Ai fun ds => Aa rfl (Bg B8 (Ap rfl <| Al rfl <| Ab) rfl rfl (Bl 0 rfl)) ?_
 refine Bm rfl (x_callN bd_66 A0 (.cons (Ab) .nil) (look_ok hr (C7 h0) h0) fun v2 F3 R6 hr4 hF5 => ?_)
 replace hr := hr.mono hF5
 replace hx := hx.mono hF5
 obtain ⟨ba, kb, rfl, hX, rfl⟩ := hr4
 refine Aa rfl (Af (Ab)) ?_
 refine Aa rfl (A2 (Ab) rfl) ?_
 refine Aa rfl (A2 (Al rfl <| Ab) rfl) ?_
 refine Aa rfl (Ae (Al rfl <| Ab)) ?_
 refine Aa rfl (Ae (Al rfl <| Ab)) ?_
 refine Ah <| Ad <| Ag <| Ai fun ds => Aa rfl (Af (Ab)) ?_
 refine Aa rfl (B6 (Ab) Ac) ?_
 refine Ah <| Ad <| Am (Ab) (by decide) ?_
 refine Aw <| Ad <| Ag <| Ag <| Ai fun ds => Aa rfl (Aj C4 (A9 rfl <| Ay rfl <| Ab)) ?_
 refine Aa rfl (Ar Cv (Ab) (Cell.own 0 rfl rfl)) ?_
 refine Aa rfl (Bi Cs (Ab) hr.bidders.plain) ?_
 refine Aa rfl (Cl (Ab) Ac rfl (by omega) (by omega)) ?_
 refine Aa rfl (Af (Ba rfl <| Al rfl <| Ak rfl)) ?_
 refine Bw rfl (Bc Dl A0 (.cons Ac (.cons (Al rfl <| Ab) (.cons (Ab) .nil))) (B2 _ _ hx) (fun _ _ h => h)) ?_
 refine Ah <| Ad <| Am (Ab) hany ?_
 refine Aw <| Ad <| Ag <| Ag <| Ai fun ds => Aa rfl (Af (Ba rfl <| Ap rfl <| Al rfl <| Ak rfl)) ?_
 refine Aa rfl (Bi Bs (Ab) hx.plain) ?_
 refine Aa rfl (Af Ac) ?_
 refine Ah <| Ad <| A4 <| Bx [4, 5, 6, 7, 8, 25, 26, 27, 28, 29, 30, 31, 32, 33, 34, 35, 36, 37, 38, 39, 40, 41, 42, 43, 44, 45] (fun m e σ => ∃ (k mset : Nat), m + k = ring.length ∧ e 25 = .int .i64 (k : Int) ∧ e 5 = .int .i64 (mset : Int) ∧ e 4 = .pointer (some ⟨ba, 0, none⟩) ∧ mset < 64 ∧ SetOf mset (ring.take k) ∧ (∀ i (hi : i < ring.length), i < k → 0 < i → ¬ ring[i] ≤ ring[i - 1]) ∧ σ = ⟨F3, [(b1, bx 27 [vs, .int .i64 s.premium, .int .i64 s.fee, .int .i64 s.days, vb, vl, vn, vd]), (kb, mapO [])]⟩) (ring.length) ?_ ?_
 · exact ⟨0, 0, by omega, (Ab), (Ba rfl <| Ap rfl <| Al rfl <| Ab), (A9 rfl <| Ay rfl <| Ab), by omega, fun t => by simp, fun i hi h h0 => absurd h (by omega), rfl⟩
 ·
  rintro m e _ ⟨k, mset, hm9, hs25, hs5, hs4, hm64, hbits, hasc, rfl⟩
  by_cases hlt : k < ring.length
  ·
   obtain ⟨c, hc, hcb, hc6⟩ := ring_nat (C7 h0) hany hlt
   have hcp := pow_lt hc6
   refine Ag <| Ai fun ds => Aa rfl (Bt (As rfl hs25) (Ao rfl <| Al rfl <| Ab)) ?_
   refine Ah <| Ad <| Ag <| Aq (Ab) (by first | rfl | exact decide_eq_true (by omega)) ?_
   by_cases hk0 : 0 < k
   ·
    refine Aw <| Ad <| Ag <| A4 <| Ag <| Ai fun ds => Aa rfl (Af (Al rfl <| As rfl hs25)) ?_
    refine Aa rfl (Bh  Bs (Ap rfl <| Ao rfl <| Ap rfl <| Ab) hx.plain (Ap rfl <| As rfl hs25) rfl hlt) ?_
    refine Aa rfl (Ar Bj (Ab) (hx.cell1 hlt rfl)) ?_
    refine Aa rfl (Ae (Ap rfl <| Ab)) ?_
    refine Aa rfl (Ae (Al rfl <| Ab)) ?_
    refine Ah <| Ad <| Ag <| Ag <| Ai fun ds => Aa rfl (Af (Al rfl <| Ab)) ?_
    refine Aa rfl (Cj (Ab) Ac) ?_
    refine Aa rfl (Af (Ab)) ?_
    refine At rfl rfl (Ab) (decide_eq_true (by omega)) ?_
    refine Aa rfl (Af (Ap rfl <| Al rfl <| Ab)) ?_
    refine At rfl rfl (Al rfl <| Ab) (decide_eq_true (by omega)) ?_
    refine Aa rfl (Af (A9 rfl <| Ap rfl <| Ao rfl <| Ba rfl <| Ay rfl <| Ap rfl <| Ak rfl)) ?_
    refine At rfl rfl (Ap rfl <| Ab) (decide_eq_true (by omega)) ?_
    refine Aa rfl (Af (Ay rfl <| Ap rfl <| Ab)) ?_
    refine At rfl rfl (Ap rfl <| Al rfl <| Ab) (decide_eq_true (by omega)) ?_
    refine Aa rfl (Cl (Ab) Ac rfl (by omega) (by omega)) ?_
    refine At rfl rfl (Ay rfl <| Ab) (decide_eq_true (by omega)) ?_
    refine Aa rfl (Bh (k := k - 1) Bs (Ap rfl <| Ab) hx.plain (Ab) (by omega) (by omega)) ?_
    refine At rfl rfl (Ay rfl <| Al rfl <| Ab) (decide_eq_true (by omega)) ?_
    refine Aa rfl (Ar Bj (Ab) (hx.cell1 (by omega) rfl)) ?_
    refine At rfl rfl (Ay rfl <| Ap rfl <| Ab) (decide_eq_true (by omega)) ?_
    refine Aa rfl (Du (Ay rfl <| Al rfl <| Ab) (Ab)) ?_
    refine Aa rfl (A6 (Ay rfl <| Ap rfl <| Al rfl <| Ab) (decide_eq_true (by omega)) (Ab)) ?_
    refine Ah <| Ad <| Am (Ab) (decide_eq_false (asc_not hna hlt (by omega))) ?_
    refine Aw <| Ad <| Ai fun ds => Aa rfl (Af (Ba rfl <| Al rfl <| As rfl hs5)) ?_
    refine Aa rfl (Af (A9 rfl <| Ay rfl <| Ab)) ?_
    refine Aa rfl (q_shl Ac (Ab) (k := c) hc (by omega) (show (1 : Int) * 2 ^ c = ((2 ^ c : Nat) : Int) by simp) (Int.le_trans (by decide) (Int.natCast_nonneg _)) (by omega)) ?_
    refine Aa rfl (q_or (Ap rfl <| Ab) (Ab) (m := mset) (k := 2 ^ c) rfl rfl (by omega) (by omega) rfl) ?_
    refine Aa rfl (Ae (Ab)) ?_
    refine Ah <| Bf <| Ad <| Ai fun ds => Aa rfl (Bp (Ba rfl <| Ay rfl <| Ap rfl <| As rfl hs25) Ac rfl (by omega) (by omega)) ?_
    refine Aa rfl (Af (Ab)) ?_
    refine Ah <| Ad ⟨_, m - 1, Off.eq (C5 rfl <| D7 rfl <| Bd), by omega, ?_⟩
    refine ⟨k + 1, mset ||| 2 ^ c, by omega, (Ab), (Ap rfl <| Ab), (Ba rfl <| A9 rfl <| As rfl hs4), mask_lt hm64 hc6, ?_, ?_, rfl⟩
    · rw [List.take_succ_eq_append_getElem hlt, hc]; exact mask_orI hbits
    · intro i hi hik h0
      rcases Nat.lt_succ_iff_lt_or_eq.1 hik with hik | rfl
      · exact hasc i hi hik h0
      · exact asc_not hna hi h0
   ·
    refine Aw <| Ad <| Ag <| A4 <| Ag <| Ai fun ds => Aa rfl (Af (Al rfl <| As rfl hs25)) ?_
    refine Aa rfl (Bh  Bs (Ap rfl <| Ao rfl <| Ap rfl <| Ab) hx.plain (Ap rfl <| As rfl hs25) rfl hlt) ?_
    refine Aa rfl (Ar Bj (Ab) (hx.cell1 hlt rfl)) ?_
    refine Aa rfl (Ae (Ap rfl <| Ab)) ?_
    refine Aa rfl (Ae (Al rfl <| Ab)) ?_
    refine Ah <| Ad <| Ag <| Ag <| Ai fun ds => Aa rfl (Af (Al rfl <| Ab)) ?_
    refine Aa rfl (Cj (Ab) Ac) ?_
    refine Aa rfl (Af (Ab)) ?_
    refine Au rfl rfl (Ab) (.inl (congrArg Value.bool (decide_eq_false (by omega)))) rfl ?_
    refine Au rfl rfl (Al rfl <| Ab) (.inl (congrArg Value.bool (decide_eq_false (by omega)))) rfl ?_
    refine Au rfl rfl (Ap rfl <| Ab) (.inl (congrArg Value.bool (decide_eq_false (by omega)))) rfl ?_
    refine Au rfl rfl (Ap rfl <| Al rfl <| Ab) (.inl (congrArg Value.bool (decide_eq_false (by omega)))) rfl ?_
    refine Au rfl rfl (Ay rfl <| Ab) (.inl (congrArg Value.bool (decide_eq_false (by omega)))) rfl ?_
    refine Au rfl rfl (Ay rfl <| Al rfl <| Ab) (.inl (congrArg Value.bool (decide_eq_false (by omega)))) rfl ?_
    refine Au rfl rfl (Ay rfl <| Ap rfl <| Ab) (.inl (congrArg Value.bool (decide_eq_false (by omega)))) rfl ?_
    refine Aa rfl (A8 (Ay rfl <| Ap rfl <| Al rfl <| Ab) (decide_eq_false (by omega)) Ac) ?_
    refine Ah <| Ad <| Am (Ab) rfl ?_
    refine Aw <| Ad <| Ai fun ds => Aa rfl (Af (Ba rfl <| Al rfl <| As rfl hs5)) ?_
    refine Aa rfl (Af (A9 rfl <| Ay rfl <| Ab)) ?_
    refine Aa rfl (q_shl Ac (Ab) (k := c) hc (by omega) (show (1 : Int) * 2 ^ c = ((2 ^ c : Nat) : Int) by simp) (Int.le_trans (by decide) (Int.natCast_nonneg _)) (by omega)) ?_
    refine Aa rfl (q_or (Ap rfl <| Ab) (Ab) (m := mset) (k := 2 ^ c) rfl rfl (by omega) (by omega) rfl) ?_
    refine Aa rfl (Ae (Ab)) ?_
    refine Ah <| Bf <| Ad <| Ai fun ds => Aa rfl (Bp (Ba rfl <| Ay rfl <| Ap rfl <| As rfl hs25) Ac rfl (by omega) (by omega)) ?_
    refine Aa rfl (Af (Ab)) ?_
    refine Ah <| Ad ⟨_, m - 1, Off.eq (C5 rfl <| D7 rfl <| Bd), by omega, ?_⟩
    refine ⟨k + 1, mset ||| 2 ^ c, by omega, (Ab), (Ap rfl <| Ab), (Ba rfl <| A9 rfl <| As rfl hs4), mask_lt hm64 hc6, ?_, ?_, rfl⟩
    · rw [List.take_succ_eq_append_getElem hlt, hc]; exact mask_orI hbits
    · intro i hi hik h0
      exact absurd h0 (by omega)
  ·
   refine Ag <| Ai fun ds => Aa rfl (Bt (As rfl hs25) (Ao rfl <| Al rfl <| Ab)) ?_
   refine Ah <| Ad <| Ag <| Am (Ab) (by first | rfl | exact decide_eq_false (by omega)) ?_
   refine Bv ?_
   refine Bk <| Bk <| Bn <| Ad <| Ag <| Ag <| Ai fun ds => Aa rfl (Af (Al rfl <| Ao rfl <| Ba rfl <| Ay rfl <| Ap rfl <| Ak rfl)) ?_
   refine Aa rfl (Bi Bs (Ab) hx.plain) ?_
   refine Aa rfl (B7 (Ab) Ac) ?_
   refine Ah <| Ad <| Am (Ab) (decide_eq_false (by omega)) ?_
   refine Aw <| Ad <| Ag <| Ai fun ds => Aa rfl (Af (Ay rfl <| As rfl hs4)) ?_
   refine Aa rfl (Af (Ay rfl <| Al rfl <| As rfl hs5)) ?_
   refine Aa rfl (Ae (Al rfl <| Ab)) ?_
   refine Aa rfl (Ae (Al rfl <| Ab)) ?_
   refine Aa rfl (Ae Ac) ?_
   refine Ah <| Ad <| A5 <| post_retN rfl (.tmp (Ap rfl <| Ab) (.tmp (Al rfl <| Ab) (.tmp (Ab) .nil))) (.cons _ <| .refl _) ?_
   exact ⟨_, _, _, rfl, hX, hm64, by rw [List.take_of_length_le (by omega)] at hbits; exact hbits, rfl⟩
set_option maxRecDepth 100000 in
theorem enter_bad {F : Heap} {vs vb vl vn vd : Value} {s : Sale} (hr : SaleR F vs vb vl vn vd s) {vr : Value} {ring : List Int} (hx : Ints F vr ring) (hbad : enterErr s ring ≠ 0) : Ok Try.prog 69 [.agg #[vs, .int .i64 s.premium, .int .i64 s.fee, .int .i64 s.days, vb, vl, vn, vd], vr].toArray F fun u _ => u = .tuple #[.pointer none, .int .i64 0, .int .i64 (enterErr s ring)] := by
 refine Ok.intro Try.func69 rfl Try.ntmps69 rfl fun w0 => ?_
 have hL2 := hr.bidders.plain.lt
 have hlen := hx.plain.lt
 by_cases h0 : (checkS s).2.2 = 0
 ·
  refine Ag <| Ai fun ds => Bm rfl (B9 (Ak rfl) rfl fun b1 hb1 nb1 => ?_)
  refine Aa rfl (Ae Ac) ?_
  refine Aa rfl (Ae Ac) ?_
  refine Aa rfl (Ae Ac) ?_
  refine Ah <| Ad <| Ag <| Ag <| Ai fun ds => Aa rfl (Bg B8 (Ap rfl <| Al rfl <| Ab) rfl rfl (Bl 0 rfl)) ?_
  refine Bm rfl (x_callN bd_66 A0 (.cons (Ab) .nil) (look_ok hr (C7 h0) h0) fun v2 F3 R6 hr4 hF5 => ?_)
  replace hr := hr.mono hF5
  replace hx := hx.mono hF5
  obtain ⟨ba, kb, rfl, hX, rfl⟩ := hr4
  refine Aa rfl (Af (Ab)) ?_
  refine Aa rfl (A2 (Ab) rfl) ?_
  refine Aa rfl (A2 (Al rfl <| Ab) rfl) ?_
  refine Aa rfl (Ae (Al rfl <| Ab)) ?_
  refine Aa rfl (Ae (Al rfl <| Ab)) ?_
  refine Ah <| Ad <| Ag <| Ai fun ds => Aa rfl (Af (Ab)) ?_
  refine Aa rfl (B6 (Ab) Ac) ?_
  refine Ah <| Ad <| Am (Ab) (by decide) ?_
  by_cases hany : (ring.any fun z => !(inB 0 (s.bidders.length - 1) z)) = true
  ·
   refine Aw <| Ad <| Ag <| Ag <| Ai fun ds => Aa rfl (Aj C4 (A9 rfl <| Ay rfl <| Ab)) ?_
   refine Aa rfl (Ar Cv (Ab) (Cell.own 0 rfl rfl)) ?_
   refine Aa rfl (Bi Cs (Ab) hr.bidders.plain) ?_
   refine Aa rfl (Cl (Ab) Ac rfl (by omega) (by omega)) ?_
   refine Aa rfl (Af (Ba rfl <| Al rfl <| Ak rfl)) ?_
   refine Bw rfl (Bc Dl A0 (.cons Ac (.cons (Al rfl <| Ab) (.cons (Ab) .nil))) (B2 _ _ hx) (fun _ _ h => h)) ?_
   refine Ah <| Ad <| Aq (Ab) hany ?_
   refine Ag <| Ai fun ds => Aa rfl (Ae Ac) ?_
   refine Aa rfl (Ae Ac) ?_
   refine Aa rfl (Ae Ac) ?_
   refine Ah <| Ad <| A5 <| A3 ?_
   refine Ax rfl (.tmp (Ap rfl <| Ab) (.tmp (Al rfl <| Ab) (.tmp (Ab) .nil))) ?_
   rw [enterE_ring h0, ringErr_4 hany]; rfl
  ·
   replace hany : (ring.any fun z => !(inB 0 (s.bidders.length - 1) z)) = false := by simpa using hany
   refine Aw <| Ad <| Ag <| Ag <| Ai fun ds => Aa rfl (Aj C4 (A9 rfl <| Ay rfl <| Ab)) ?_
   refine Aa rfl (Ar Cv (Ab) (Cell.own 0 rfl rfl)) ?_
   refine Aa rfl (Bi Cs (Ab) hr.bidders.plain) ?_
   refine Aa rfl (Cl (Ab) Ac rfl (by omega) (by omega)) ?_
   refine Aa rfl (Af (Ba rfl <| Al rfl <| Ak rfl)) ?_
   refine Bw rfl (Bc Dl A0 (.cons Ac (.cons (Al rfl <| Ab) (.cons (Ab) .nil))) (B2 _ _ hx) (fun _ _ h => h)) ?_
   refine Ah <| Ad <| Am (Ab) hany ?_
   refine Aw <| Ad <| Ag <| Ag <| Ai fun ds => Aa rfl (Af (Ba rfl <| Ap rfl <| Al rfl <| Ak rfl)) ?_
   refine Aa rfl (Bi Bs (Ab) hx.plain) ?_
   refine Aa rfl (Af Ac) ?_
   refine Ah <| Ad <| A4 <| Bx [4, 5, 6, 7, 8, 25, 26, 27, 28, 29, 30, 31, 32, 33, 34, 35, 36, 37, 38, 39, 40, 41, 42, 43, 44, 45] (fun m e σ => ∃ (k mset : Nat), m + k = ring.length ∧ e 25 = .int .i64 (k : Int) ∧ e 5 = .int .i64 (mset : Int) ∧ e 4 = .pointer (some ⟨ba, 0, none⟩) ∧ mset < 64 ∧ SetOf mset (ring.take k) ∧ (∀ i (hi : i < ring.length), i < k → 0 < i → ¬ ring[i] ≤ ring[i - 1]) ∧ σ = ⟨F3, [(b1, bx 27 [vs, .int .i64 s.premium, .int .i64 s.fee, .int .i64 s.days, vb, vl, vn, vd]), (kb, mapO [])]⟩) (ring.length) ?_ ?_
   · exact ⟨0, 0, by omega, (Ab), (Ba rfl <| Ap rfl <| Al rfl <| Ab), (A9 rfl <| Ay rfl <| Ab), by omega, fun t => by simp, fun i hi h h0 => absurd h (by omega), rfl⟩
   ·
    rintro m e _ ⟨k, mset, hm9, hs25, hs5, hs4, hm64, hbits, hasc, rfl⟩
    by_cases hlt : k < ring.length
    ·
     obtain ⟨c, hc, hcb, hc6⟩ := ring_nat (C7 h0) hany hlt
     have hcp := pow_lt hc6
     refine Ag <| Ai fun ds => Aa rfl (Bt (As rfl hs25) (Ao rfl <| Al rfl <| Ab)) ?_
     refine Ah <| Ad <| Ag <| Aq (Ab) (by first | rfl | exact decide_eq_true (by omega)) ?_
     by_cases hk0 : 0 < k
     ·
      refine Aw <| Ad <| Ag <| A4 <| Ag <| Ai fun ds => Aa rfl (Af (Al rfl <| As rfl hs25)) ?_
      refine Aa rfl (Bh  Bs (Ap rfl <| Ao rfl <| Ap rfl <| Ab) hx.plain (Ap rfl <| As rfl hs25) rfl hlt) ?_
      refine Aa rfl (Ar Bj (Ab) (hx.cell1 hlt rfl)) ?_
      refine Aa rfl (Ae (Ap rfl <| Ab)) ?_
      refine Aa rfl (Ae (Al rfl <| Ab)) ?_
      refine Ah <| Ad <| Ag <| Ag <| Ai fun ds => Aa rfl (Af (Al rfl <| Ab)) ?_
      refine Aa rfl (Cj (Ab) Ac) ?_
      refine Aa rfl (Af (Ab)) ?_
      refine At rfl rfl (Ab) (decide_eq_true (by omega)) ?_
      refine Aa rfl (Af (Ap rfl <| Al rfl <| Ab)) ?_
      refine At rfl rfl (Al rfl <| Ab) (decide_eq_true (by omega)) ?_
      refine Aa rfl (Af (A9 rfl <| Ap rfl <| Ao rfl <| Ba rfl <| Ay rfl <| Ap rfl <| Ak rfl)) ?_
      refine At rfl rfl (Ap rfl <| Ab) (decide_eq_true (by omega)) ?_
      refine Aa rfl (Af (Ay rfl <| Ap rfl <| Ab)) ?_
      refine At rfl rfl (Ap rfl <| Al rfl <| Ab) (decide_eq_true (by omega)) ?_
      refine Aa rfl (Cl (Ab) Ac rfl (by omega) (by omega)) ?_
      refine At rfl rfl (Ay rfl <| Ab) (decide_eq_true (by omega)) ?_
      refine Aa rfl (Bh (k := k - 1) Bs (Ap rfl <| Ab) hx.plain (Ab) (by omega) (by omega)) ?_
      refine At rfl rfl (Ay rfl <| Al rfl <| Ab) (decide_eq_true (by omega)) ?_
      refine Aa rfl (Ar Bj (Ab) (hx.cell1 (by omega) rfl)) ?_
      refine At rfl rfl (Ay rfl <| Ap rfl <| Ab) (decide_eq_true (by omega)) ?_
      refine Aa rfl (Du (Ay rfl <| Al rfl <| Ab) (Ab)) ?_
      refine Aa rfl (A6 (Ay rfl <| Ap rfl <| Al rfl <| Ab) (decide_eq_true (by omega)) (Ab)) ?_
      refine Ah <| Ad ?_
      by_cases hle : ring[k] ≤ ring[k - 1]
      ·
       refine Aq (Ab) (decide_eq_true hle) ?_
       refine Ag <| Ai fun ds => Aa rfl (Ae Ac) ?_
       refine Aa rfl (Ae Ac) ?_
       refine Aa rfl (Ae Ac) ?_
       refine Ah <| Ad <| A5 <| A3 (Bb (A3 (A3 (Bb (A3 ?_)))))
       refine Ax rfl (.tmp (Ap rfl <| Ab) (.tmp (Al rfl <| Ab) (.tmp (Ab) .nil))) ?_
       rw [enterE_ring h0, ringErr_2 hany (notAsc_at (by omega) hlt hle)]; rfl
      ·
       refine Am (Ab) (decide_eq_false hle) ?_
       refine Aw <| Ad <| Ai fun ds => Aa rfl (Af (Ba rfl <| Al rfl <| As rfl hs5)) ?_
       refine Aa rfl (Af (A9 rfl <| Ay rfl <| Ab)) ?_
       refine Aa rfl (q_shl Ac (Ab) (k := c) hc (by omega) (show (1 : Int) * 2 ^ c = ((2 ^ c : Nat) : Int) by simp) (Int.le_trans (by decide) (Int.natCast_nonneg _)) (by omega)) ?_
       refine Aa rfl (q_or (Ap rfl <| Ab) (Ab) (m := mset) (k := 2 ^ c) rfl rfl (by omega) (by omega) rfl) ?_
       refine Aa rfl (Ae (Ab)) ?_
       refine Ah <| Bf <| Ad <| Ai fun ds => Aa rfl (Bp (Ba rfl <| Ay rfl <| Ap rfl <| As rfl hs25) Ac rfl (by omega) (by omega)) ?_
       refine Aa rfl (Af (Ab)) ?_
       refine Ah <| Ad ⟨_, m - 1, Off.eq (C5 rfl <| D7 rfl <| Bd), by omega, ?_⟩
       refine ⟨k + 1, mset ||| 2 ^ c, by omega, (Ab), (Ap rfl <| Ab), (Ba rfl <| A9 rfl <| As rfl hs4), mask_lt hm64 hc6, ?_, ?_, rfl⟩
       · rw [List.take_succ_eq_append_getElem hlt, hc]; exact mask_orI hbits
       · intro i hi hik h0
         rcases Nat.lt_succ_iff_lt_or_eq.1 hik with hik | rfl
         · exact hasc i hi hik h0
         · exact hle
     ·
      refine Aw <| Ad <| Ag <| A4 <| Ag <| Ai fun ds => Aa rfl (Af (Al rfl <| As rfl hs25)) ?_
      refine Aa rfl (Bh  Bs (Ap rfl <| Ao rfl <| Ap rfl <| Ab) hx.plain (Ap rfl <| As rfl hs25) rfl hlt) ?_
      refine Aa rfl (Ar Bj (Ab) (hx.cell1 hlt rfl)) ?_
      refine Aa rfl (Ae (Ap rfl <| Ab)) ?_
      refine Aa rfl (Ae (Al rfl <| Ab)) ?_
      refine Ah <| Ad <| Ag <| Ag <| Ai fun ds => Aa rfl (Af (Al rfl <| Ab)) ?_
      refine Aa rfl (Cj (Ab) Ac) ?_
      refine Aa rfl (Af (Ab)) ?_
      refine Au rfl rfl (Ab) (.inl (congrArg Value.bool (decide_eq_false (by omega)))) rfl ?_
      refine Au rfl rfl (Al rfl <| Ab) (.inl (congrArg Value.bool (decide_eq_false (by omega)))) rfl ?_
      refine Au rfl rfl (Ap rfl <| Ab) (.inl (congrArg Value.bool (decide_eq_false (by omega)))) rfl ?_
      refine Au rfl rfl (Ap rfl <| Al rfl <| Ab) (.inl (congrArg Value.bool (decide_eq_false (by omega)))) rfl ?_
      refine Au rfl rfl (Ay rfl <| Ab) (.inl (congrArg Value.bool (decide_eq_false (by omega)))) rfl ?_
      refine Au rfl rfl (Ay rfl <| Al rfl <| Ab) (.inl (congrArg Value.bool (decide_eq_false (by omega)))) rfl ?_
      refine Au rfl rfl (Ay rfl <| Ap rfl <| Ab) (.inl (congrArg Value.bool (decide_eq_false (by omega)))) rfl ?_
      refine Aa rfl (A8 (Ay rfl <| Ap rfl <| Al rfl <| Ab) (decide_eq_false (by omega)) Ac) ?_
      refine Ah <| Ad <| Am (Ab) rfl ?_
      refine Aw <| Ad <| Ai fun ds => Aa rfl (Af (Ba rfl <| Al rfl <| As rfl hs5)) ?_
      refine Aa rfl (Af (A9 rfl <| Ay rfl <| Ab)) ?_
      refine Aa rfl (q_shl Ac (Ab) (k := c) hc (by omega) (show (1 : Int) * 2 ^ c = ((2 ^ c : Nat) : Int) by simp) (Int.le_trans (by decide) (Int.natCast_nonneg _)) (by omega)) ?_
      refine Aa rfl (q_or (Ap rfl <| Ab) (Ab) (m := mset) (k := 2 ^ c) rfl rfl (by omega) (by omega) rfl) ?_
      refine Aa rfl (Ae (Ab)) ?_
      refine Ah <| Bf <| Ad <| Ai fun ds => Aa rfl (Bp (Ba rfl <| Ay rfl <| Ap rfl <| As rfl hs25) Ac rfl (by omega) (by omega)) ?_
      refine Aa rfl (Af (Ab)) ?_
      refine Ah <| Ad ⟨_, m - 1, Off.eq (C5 rfl <| D7 rfl <| Bd), by omega, ?_⟩
      refine ⟨k + 1, mset ||| 2 ^ c, by omega, (Ab), (Ap rfl <| Ab), (Ba rfl <| A9 rfl <| As rfl hs4), mask_lt hm64 hc6, ?_, ?_, rfl⟩
      · rw [List.take_succ_eq_append_getElem hlt, hc]; exact mask_orI hbits
      · intro i hi hik h0
        exact absurd h0 (by omega)
    ·
     refine Ag <| Ai fun ds => Aa rfl (Bt (As rfl hs25) (Ao rfl <| Al rfl <| Ab)) ?_
     refine Ah <| Ad <| Ag <| Am (Ab) (by first | rfl | exact decide_eq_false (by omega)) ?_
     by_cases h1 : ring.length = 1
     ·
      refine Bv ?_
      refine Bk <| Bk <| Bn <| Ad <| Ag <| Ag <| Ai fun ds => Aa rfl (Af (Al rfl <| Ao rfl <| Ba rfl <| Ay rfl <| Ap rfl <| Ak rfl)) ?_
      refine Aa rfl (Bi Bs (Ab) hx.plain) ?_
      refine Aa rfl (B7 (Ab) Ac) ?_
      refine Ah <| Ad <| Aq (Ab) (decide_eq_true (by omega)) ?_
      refine Ag <| Ai fun ds => Aa rfl (Ae Ac) ?_
      refine Aa rfl (Ae Ac) ?_
      refine Aa rfl (Ae Ac) ?_
      refine Ah <| Ad <| A5 <| A3 ?_
      refine Ax rfl (.tmp (Ap rfl <| Ab) (.tmp (Al rfl <| Ab) (.tmp (Ab) .nil))) ?_
      rw [enterE_ring h0, ringErr_3 hany (asc_of fun i hi h0 => hasc i hi (by omega) h0) h1]; rfl
     ·
      refine Bv ?_
      refine Bk <| Bk <| Bn <| Ad <| Ag <| Ag <| Ai fun ds => Aa rfl (Af (Al rfl <| Ao rfl <| Ba rfl <| Ay rfl <| Ap rfl <| Ak rfl)) ?_
      refine Aa rfl (Bi Bs (Ab) hx.plain) ?_
      refine Aa rfl (B7 (Ab) Ac) ?_
      refine Ah <| Ad <| Am (Ab) (decide_eq_false (by omega)) ?_
      refine Aw <| Ad <| Ag <| Ai fun ds => Aa rfl (Af (Ay rfl <| As rfl hs4)) ?_
      refine Aa rfl (Af (Ay rfl <| Al rfl <| As rfl hs5)) ?_
      refine Aa rfl (Ae (Al rfl <| Ab)) ?_
      refine Aa rfl (Ae (Al rfl <| Ab)) ?_
      refine Aa rfl (Ae Ac) ?_
      refine Ah <| Ad <| A5 <| Ax rfl (.tmp (Ap rfl <| Ab) (.tmp (Al rfl <| Ab) (.tmp (Ab) .nil))) ?_
      exact absurd ((enterE_ring h0).trans (ringErr_0 hany (asc_of fun i hi h0 => hasc i hi (by omega) h0) h1)) hbad
 ·
  refine Ag <| Ai fun ds => Bm rfl (B9 (Ak rfl) rfl fun b8 hb8 nb8 => ?_)
  refine Aa rfl (Ae Ac) ?_
  refine Aa rfl (Ae Ac) ?_
  refine Aa rfl (Ae Ac) ?_
  refine Ah <| Ad <| Ag <| Ag <| Ai fun ds => Aa rfl (Bg B8 (Ap rfl <| Al rfl <| Ab) rfl rfl (Bl 0 rfl)) ?_
  refine Bw rfl (Bc bd_66 A0 (.cons (Ab) .nil) (look_bad hr h0) (fun _ _ h => h)) ?_
  refine Aa rfl (Af (Ab)) ?_
  refine Aa rfl (A2 (Ab) rfl) ?_
  refine Aa rfl (A2 (Al rfl <| Ab) rfl) ?_
  refine Aa rfl (Ae (Al rfl <| Ab)) ?_
  refine Aa rfl (Ae (Al rfl <| Ab)) ?_
  refine Ah <| Ad <| Ag <| Ai fun ds => Aa rfl (Af (Ab)) ?_
  refine Aa rfl (B6 (Ab) Ac) ?_
  refine Ah <| Ad <| Aq (Ab) (decide_eq_true h0) ?_
  refine Ag <| Ai fun ds => Aa rfl (Af (Ap rfl <| Ab)) ?_
  refine Aa rfl (Ae Ac) ?_
  refine Aa rfl (Ae Ac) ?_
  refine Aa rfl (Ae (Ap rfl <| Ab)) ?_
  refine Ah <| Ad <| A5 <| A3 ?_
  refine Ax rfl (.tmp (Ap rfl <| Ab) (.tmp (Al rfl <| Ab) (.tmp (Ab) .nil))) ?_
  rw [enterE_bad h0]; rfl
end Go.Proofs.Ytaikojfonleccaa
namespace Go.Proofs.Ytaikojfonleccaa
open Go.RowKit
theorem bd_100 : Body Try.prog 100 := Bq (by kernel_rfl)
theorem bd_101 : Body Try.prog 101 := Bq (by kernel_rfl)
theorem fd_156_3 : FieldT Try.prog 156 3 80 := Ch (by kernel_rfl)
theorem one_152 : OneT Try.prog 152 := Dy (by kernel_rfl)
theorem mapK : MapT Try.prog 152 3 34 (.slice none 0 0) := ⟨Try.underlying152, Db (by kernel_rfl), Go.Maps.int_keyed Try.underlying3⟩
theorem isKn {z : Nat} (h : z < 64) : IsK Try.prog 3 (.int .i64 (z : Int)) := isK_int Try.underlying3 (by omega) (by omega)
theorem Ed {m k : Nat} : decide ((((m / 2 ^ k) &&& 1 : Nat) : Int) = 0) = !(m.testBit k) := by
 rw [← Ea]
 have : (m / 2 ^ k) &&& 1 = 0 ∨ (m / 2 ^ k) &&& 1 = 1 := by
   have := Nat.and_one_is_mod (m / 2 ^ k); omega
 rcases this with h | h <;> rw [h] <;> rfl
theorem strong_or {s : Sale} {l : Nat} {mem : Nat → Bool} : strongP s l mem = -1 ∨ ∃ o : Nat, o < s.bidders.length ∧ strongP s l mem = (o : Int) := by
 rcases strong_spec (s := s) (l := l) (mem := mem) s.bidders.length with ⟨h, -⟩ | ⟨b, h1, -, h, -⟩
 · exact .inl h
 · exact .inr ⟨b, h1, h⟩
theorem sellP_none {s : Sale} {set l : Nat} (h : strongP s l (fun _ => true) = -1) : sellP s set l = ⟨-1, 0⟩ := if_pos (.inl (by omega))
theorem sellP_low {s : Sale} {set l o : Nat} (h : strongP s l (fun _ => true) = (o : Int)) (h2 : mostN s l o < (s.lot l).reserve) : sellP s set l = ⟨-1, 0⟩ := by
 unfold sellP; rw [h]; exact if_pos (.inr (by simpa using h2))
theorem sellP_at {s : Sale} {set l o : Nat} (h : strongP s l (fun _ => true) = (o : Int)) (h2 : ¬ mostN s l o < (s.lot l).reserve) : sellP s set l = ⟨o, climbS s (s.lot l).reserve (othersTo s l set o (strongP s l set.testBit) s.bidders.length) (mostN s l o)⟩ := by
 unfold sellP; rw [h]; simp only [Int.toNat_natCast]; exact if_neg (by omega)
def SoldR (F : Heap) (H' : List (Nat × Obj)) (u : Value) (kb : Nat) (s : Sale) (set : Nat) : Prop := ∃ es, H' = [(kb, mapO es)] ∧ KnownC Try.prog 3 F es s ∧ Sl F u 2 Res.enc (sellL s set s.lots.length)
set_option maxRecDepth 100000 in
theorem sell_ok {F : Heap} {b kb : Nat} {vs vb vl vn vd : Value} {s : Sale} (hX : AucX 156 F b vs vb vl vn vd kb s) (hv : ValidS s) {es : List (Value × Value)} (hK : KnownC Try.prog 3 F es s) {set : Nat} (hset : set < 64) : OkM Try.prog 70 [.pointer (some ⟨b, 0, none⟩), .int .i64 (set : Int)].toArray F [(kb, mapO es)] fun u F' H' => SoldR F' H' u kb s set := by
 refine OkM.intro Try.func70 rfl Try.ntmps70 rfl fun w0 => ?_
 have hL1 := hX.sale.lots.plain.lt
 have hL2 := hX.sale.bidders.plain.lt
 have hnl := hv.nl
 have hnb := hv.nb
 rcases keys_or (es := es) (.int .i64 (set : Int)) with hno | ⟨j, u, hj⟩
 ·
  refine Ag <| Ai fun ds => Aa rfl (Ae Ac) ?_
  refine Ah <| Ad <| Ag <| Ai fun ds => Aa rfl (Af (Al rfl <| Ak rfl)) ?_
  refine Aa rfl (Cc (Ab)) ?_
  refine Aa rfl (Aj fd_156_3 (Ab)) ?_
  refine Aa rfl (Ar one_152 (Ab) hX.known_cell.cell) ?_
  refine Aa rfl (Af (Ay rfl <| Al rfl <| Ak rfl)) ?_
  refine Aa rfl (q_lookup2N mapK (Al rfl <| Ab) (Ab) (i := 0) rfl (isKn hset) hK.keys hno) ?_
  refine Aa rfl (Af (Ab)) ?_
  refine Aa rfl (A2 (Ab) rfl) ?_
  refine Aa rfl (A2 (Al rfl <| Ab) rfl) ?_
  refine Aa rfl (Ae (Al rfl <| Ab)) ?_
  refine Aa rfl (Ae (Al rfl <| Ab)) ?_
  refine Ah <| Ad <| Ag <| Ag <| Ai fun ds => Aa rfl (Af (Ab)) ?_
  refine Ah <| Ad <| Am (Ab) rfl ?_
  refine Aw <| Ad <| Ag <| Ag <| Ai fun ds => Aa rfl (Af (A9 rfl <| Ay rfl <| Al rfl <| Ak rfl)) ?_
  refine Aa rfl (Cc (Ab)) ?_
  refine Aa rfl (Aj Fl (Ab)) ?_
  refine Aa rfl (Aj Cw (Ab)) ?_
  refine Aa rfl (Ar Da (Ab) (CellF.own hX.blk rfl).cell) ?_
  refine Aa rfl (Bi Dc (Ab) hX.sale.lots.plain) ?_
  refine Aa rfl (Af Ac) ?_
  refine Ah <| Ad <| A4 <| Bx [5, 7, 8, 9, 10, 11, 12, 30, 31, 32, 33, 34, 35, 36, 37, 38, 39, 40, 41, 42, 43, 44, 45, 46, 47, 48, 49, 50, 51, 52, 53, 54, 55, 56, 57, 58, 59, 60, 61, 62, 63, 64, 65, 66, 67, 68, 69, 70, 71, 72, 73, 74, 75, 76, 77, 78, 79, 80, 81, 82, 83, 84, 85, 86, 87, 88, 89, 90, 91, 92, 93, 94, 95, 96, 97, 98, 99, 100, 101, 102, 103, 104, 105, 106, 107, 108, 109, 110, 111, 112, 113, 114] (fun m e σ => ∃ k : Nat, m + k = s.lots.length ∧ e 30 = .int .i64 (k : Int) ∧ ∃ v R, e 5 = v ∧ Own 63 2 v (sellL s set k).length ((sellL s set k).flatMap Res.enc) R ∧ σ = ⟨F, (kb, mapO es) :: R⟩) (s.lots.length) ?_ ?_
  · exact ⟨0, by omega, (Ab), _, _, (A9 rfl <| Al rfl <| Ab), Own.nil, rfl⟩
  ·
   rintro m e _ ⟨k, hm9, hs30, v5, R5, hs5, ho, rfl⟩; have hsl := sellL_length (s := s) (set := set) (k := k)
   by_cases hlt : k < s.lots.length
   ·
    have hk6 : k < 6 := by omega
    obtain ⟨e1, e2, e3, e4, e5⟩ := lot_facts hv hlt
    refine Ag <| Ai fun ds => Aa rfl (Bt (As rfl hs30) (Ao rfl <| Al rfl <| Ab)) ?_
    refine Ah <| Ad <| Ag <| Aq (Ab) (by first | rfl | exact decide_eq_true (by omega)) ?_
    rcases strong_or (s := s) (l := k) (mem := fun _ => true) with hso | ⟨o, hob, hso⟩
    ·
     refine Aw <| Ad <| Ag <| A4 <| Ag <| Ai fun ds => Aa rfl (Af (Al rfl <| As rfl hs30)) ?_
     refine Aa rfl (Bh (k := k) Dc (Ap rfl <| Ao rfl <| Ap rfl <| Ab) hX.sale.lots.plain (Ap rfl <| As rfl hs30) rfl hlt) ?_
     refine Aa rfl (Bg agg_69 (Ab) rfl rfl (hX.sale.lots.whole hlt)) ?_
     refine Bm rfl (B5 zr_69 rfl fun b2 hb2 nb2 => ?_)
     refine Aa rfl (Ae (Ap rfl <| Al rfl <| Ab)) ?_
     refine Cm (B4 sz_69 (Al rfl <| Ab) (Ap rfl <| Ab) (i := 0) rfl rfl rfl rfl Lot.enc_one (.here) ?_)
     refine Ah <| Ad <| Ag <| Ai fun ds => Aa rfl (Af (Ay rfl <| Ap rfl <| Ao rfl <| Ba rfl <| Ay rfl <| Ak rfl)) ?_
     refine Aa rfl (Af (Al rfl <| Ab)) ?_
     refine Bw rfl (Bc bd_100 A0 (.cons (Al rfl <| Ab) (.cons (Ab) (.cons Ac .nil))) (strongest_all hX hv hk6) (fun _ _ h => h.trans (by rw [hso]))) ?_
     refine Aa rfl (Ae (Ab)) ?_
     refine Ah <| Ad <| Ag <| Ag <| Cf (.inl rfl) (fun _ _ h => h) (by kernel_rfl) (by kernel_rfl) fun ds => ?_
     refine Az rfl (Af (Ab)) ?_
     refine Az rfl (Bt (Ab) Ac) ?_
     refine Az rfl (Af (Ab)) ?_
     refine A1 rfl rfl (Ab) (.inl (congrArg Value.bool (by decide))) rfl ?_
     refine A1 rfl rfl (Al rfl <| Ab) (.inl (congrArg Value.bool (by decide))) rfl ?_
     refine A1 rfl rfl (Ap rfl <| Ab) (.inl (congrArg Value.bool (by decide))) rfl ?_
     refine A1 rfl rfl (Ap rfl <| Al rfl <| Ab) (.inl (congrArg Value.bool (by decide))) rfl ?_
     refine A1 rfl rfl (Ay rfl <| Ab) (.inl (congrArg Value.bool (by decide))) rfl ?_
     refine A1 rfl rfl (Ay rfl <| Al rfl <| Ab) (.inl (congrArg Value.bool (by decide))) rfl ?_
     refine A1 rfl rfl (Ay rfl <| Ap rfl <| Ab) (.inl (congrArg Value.bool (by decide))) rfl ?_
     refine A1 rfl rfl (Ay rfl <| Ap rfl <| Al rfl <| Ab) (.inl (congrArg Value.bool (by decide))) rfl ?_
     refine A1 rfl rfl (A9 rfl <| Ab) (.inl (congrArg Value.bool (by decide))) rfl ?_
     refine A1 rfl rfl (A9 rfl <| Al rfl <| Ab) (.inl (congrArg Value.bool (by decide))) rfl ?_
     refine A1 rfl rfl (A9 rfl <| Ap rfl <| Ab) (.inl (congrArg Value.bool (by decide))) rfl ?_
     refine Az rfl (A6 (A9 rfl <| Ap rfl <| Al rfl <| Ab) (by decide) Ac) ?_
     refine Cb ?_
     refine Ad <| Aq (Ab) rfl ?_
     have hP := sellP_none (set := set) hso
     refine Ag <| Ai fun ds => Aa rfl (Af (Ba rfl <| A9 rfl <| Al rfl <| As rfl hs5)) ?_
     refine Aa rfl (C9 bt_63 (.cons Ac rfl .nil) (.cons rfl rfl (Nat.le_of_ble_eq_true rfl) (.cons (.here) .nil) .nil)) ?_
     refine Bm rfl (Dr (offs := [(0, 2)]) (zl := [.int .i64 0, .int .i64 0]) Dp zr_63 rfl (.cons (Ab) rfl .nil) (by intro i p h; rcases i with _ | i <;> simp at h <;> subst h <;> rfl) (.cons rfl rfl (Nat.le_of_ble_eq_true rfl) (.cons (.here) (.cons (.next <| .here) .nil)) .nil) (by decide) (by decide) fun b3 hb3 nb3 => ?_)
     refine Bm rfl (Ct Dp el_63 (Ap rfl <| Ab) ho (Ab) (C8 (s := 2) 0 rfl rfl (by simp [Value.oneCell'])) (by omega) (by omega) (.s <| .s <| .s <| .z) .last fun v4 R5 ho6 => ?_)
     have ho2 := ho6.snoc (x := sellP s set k) rfl (by rw [hP]; rfl)
     refine Aa rfl (Ae (Ab)) ?_
     refine Ah <| Ad <| Bv ?_
     refine Bk (Bn ?_)
     refine Ad <| Cd (fun _ _ h => h.drop (.cons _ <| .cons _ <| .cons_cons _ <| .refl _)) ?_
     refine Ai fun ds => Aa rfl (Bp (Ba rfl <| A9 rfl <| Ay rfl <| Ap rfl <| As rfl hs30) Ac rfl (by omega) (by omega)) ?_
     refine Aa rfl (Af (Ab)) ?_
     refine Ah <| Ad ⟨_, m - 1, Off.eq (Ey rfl <| Bd), by omega, ?_⟩
     refine ⟨k + 1, by omega, (Ab), _, _, (Ap rfl <| Ab), by rw [sellL_succ]; exact ho2, rfl⟩
    ·
     have ho6 : o < 6 := by omega
     refine Aw <| Ad <| Ag <| A4 <| Ag <| Ai fun ds => Aa rfl (Af (Al rfl <| As rfl hs30)) ?_
     refine Aa rfl (Bh (k := k) Dc (Ap rfl <| Ao rfl <| Ap rfl <| Ab) hX.sale.lots.plain (Ap rfl <| As rfl hs30) rfl hlt) ?_
     refine Aa rfl (Bg agg_69 (Ab) rfl rfl (hX.sale.lots.whole hlt)) ?_
     refine Bm rfl (B5 zr_69 rfl fun b7 hb7 nb7 => ?_)
     refine Aa rfl (Ae (Ap rfl <| Al rfl <| Ab)) ?_
     refine Cm (B4 sz_69 (Al rfl <| Ab) (Ap rfl <| Ab) (i := 0) rfl rfl rfl rfl Lot.enc_one (.here) ?_)
     refine Ah <| Ad <| Ag <| Ai fun ds => Aa rfl (Af (Ay rfl <| Ap rfl <| Ao rfl <| Ba rfl <| Ay rfl <| Ak rfl)) ?_
     refine Aa rfl (Af (Al rfl <| Ab)) ?_
     refine Bw rfl (Bc bd_100 A0 (.cons (Al rfl <| Ab) (.cons (Ab) (.cons Ac .nil))) (strongest_all hX hv hk6) (fun _ _ h => h.trans (by rw [hso]))) ?_
     refine Aa rfl (Ae (Ab)) ?_
     refine Ah <| Ad <| Ag <| Ag <| Cf (.inl rfl) (fun _ _ h => h) (by kernel_rfl) (by kernel_rfl) fun ds => ?_
     refine Az rfl (Af (Ab)) ?_
     refine Az rfl (Bt (Ab) Ac) ?_
     refine Az rfl (Af (Ab)) ?_
     refine A7 rfl rfl (Ab) (decide_eq_false (by omega)) ?_
     refine Az rfl (Af (A9 rfl <| Ay rfl <| Al rfl <| Ao rfl <| Ba rfl <| Ay rfl <| Ak rfl)) ?_
     refine A7 rfl rfl (Al rfl <| Ab) (decide_eq_false (by omega)) ?_
     refine Az rfl (Af (A9 rfl <| Ab)) ?_
     refine A7 rfl rfl (Ap rfl <| Ab) (decide_eq_false (by omega)) ?_
     refine Az rfl (Af (Ay rfl <| Al rfl <| Ab)) ?_
     refine A7 rfl rfl (Ap rfl <| Al rfl <| Ab) (decide_eq_false (by omega)) ?_
     refine Az rfl (Cc (Ap rfl <| Ab)) ?_
     refine A7 rfl rfl (Ay rfl <| Ab) (decide_eq_false (by omega)) ?_
     refine Az rfl (Aj Fk (Ab)) ?_
     refine A7 rfl rfl (Ay rfl <| Al rfl <| Ab) (decide_eq_false (by omega)) ?_
     refine Az rfl (B3 (k := k) E3 (Ab) (Ap rfl <| Al rfl <| Ab) rfl (by omega)) ?_
     refine A7 rfl rfl (Ay rfl <| Ap rfl <| Ab) (decide_eq_false (by omega)) ?_
     refine Az rfl (B3 (k := o) E4 (Ab) (Ap rfl <| Al rfl <| Ab) rfl (by omega)) ?_
     refine A7 rfl rfl (Ay rfl <| Ap rfl <| Al rfl <| Ab) (decide_eq_false (by omega)) ?_
     refine Az rfl (Ar Bj (Ab) (hX.most_cell (by omega : k < 6) (by omega : o < 6)).cell) ?_
     refine A7 rfl rfl (A9 rfl <| Ab) (decide_eq_false (by omega)) ?_
     refine Az rfl (Aj fd_69_2 (Ba rfl <| Ab)) ?_
     refine A7 rfl rfl (A9 rfl <| Al rfl <| Ab) (decide_eq_false (by omega)) ?_
     refine Az rfl (Ar Bj (Ab) (Cell.own 0 rfl rfl)) ?_
     refine A7 rfl rfl (A9 rfl <| Ap rfl <| Ab) (decide_eq_false (by omega)) ?_
     refine Az rfl (Bt (Ap rfl <| Ab) (Ab)) ?_
     refine Az rfl (A8 (A9 rfl <| Ap rfl <| Al rfl <| Ab) (decide_eq_false (by omega)) (Ab)) ?_
     refine Cb ?_
     refine Ad ?_
     by_cases hlow : mostN s k o < (s.lot k).reserve
     ·
      refine Aq (Ab) (decide_eq_true (by rw [e1]; exact hlow)) ?_
      have hP := sellP_low (set := set) hso hlow
      refine Ag <| Ai fun ds => Aa rfl (Af (Ba rfl <| A9 rfl <| Al rfl <| As rfl hs5)) ?_
      refine Aa rfl (C9 bt_63 (.cons Ac rfl .nil) (.cons rfl rfl (Nat.le_of_ble_eq_true rfl) (.cons (.here) .nil) .nil)) ?_
      refine Bm rfl (Dr (offs := [(0, 2)]) (zl := [.int .i64 0, .int .i64 0]) Dp zr_63 rfl (.cons (Ab) rfl .nil) (by intro i p h; rcases i with _ | i <;> simp at h <;> subst h <;> rfl) (.cons rfl rfl (Nat.le_of_ble_eq_true rfl) (.cons (.here) (.cons (.next <| .here) .nil)) .nil) (by decide) (by decide) fun b8 hb8 nb8 => ?_)
      refine Bm rfl (Ct Dp el_63 (Ap rfl <| Ab) ho (Ab) (C8 (s := 2) 0 rfl rfl (by simp [Value.oneCell'])) (by omega) (by omega) (.s <| .s <| .s <| .z) .last fun v9 R10 ho11 => ?_)
      have ho2 := ho11.snoc (x := sellP s set k) rfl (by rw [hP]; rfl)
      refine Aa rfl (Ae (Ab)) ?_
      refine Ah <| Ad <| Bv ?_
      refine Bk (Bn ?_)
      refine Ad <| Cd (fun _ _ h => h.drop (.cons _ <| .cons _ <| .cons_cons _ <| .refl _)) ?_
      refine Ai fun ds => Aa rfl (Bp (Ba rfl <| A9 rfl <| Ay rfl <| Ap rfl <| As rfl hs30) Ac rfl (by omega) (by omega)) ?_
      refine Aa rfl (Af (Ab)) ?_
      refine Ah <| Ad ⟨_, m - 1, Off.eq (Ey rfl <| Bd), by omega, ?_⟩
      refine ⟨k + 1, by omega, (Ab), _, _, (Ap rfl <| Ab), by rw [sellL_succ]; exact ho2, rfl⟩
     ·
      refine Am (Ab) (decide_eq_false (by rw [e1]; exact hlow)) ?_
      refine Aw <| Ad <| Ag <| Ai fun ds => Aa rfl (Ae Ac) ?_
      refine Ah <| Ad <| Ag <| Ai fun ds => Aa rfl (Af (Ba rfl <| A9 rfl <| Ap rfl <| Ao rfl <| Ba rfl <| Ay rfl <| Ak rfl)) ?_
      refine Aa rfl (Af (Ba rfl <| Ay rfl <| Al rfl <| Ab)) ?_
      refine Aa rfl (Af (Ba rfl <| A9 rfl <| Ay rfl <| Ao rfl <| Ba rfl <| Ay rfl <| Ak rfl)) ?_
      refine Bw rfl (Bc bd_100 A0 (.cons (Ap rfl <| Ab) (.cons (Al rfl <| Ab) (.cons (Ab) .nil))) (strongest_set hX hv hk6 hset) (fun _ _ h => h)) ?_
      refine Aa rfl (Ae (Ab)) ?_
      refine Ah <| Ad <| Ag <| Ag <| Ai fun ds => Aa rfl (Af (Ba rfl <| A9 rfl <| Ay rfl <| Ap rfl <| Al rfl <| Ao rfl <| Ba rfl <| Ay rfl <| Ak rfl)) ?_
      refine Aa rfl (Cc (Ab)) ?_
      refine Aa rfl (Aj Fl (Ab)) ?_
      refine Aa rfl (Aj C4 (Ab)) ?_
      refine Aa rfl (Ar Cv (Ab) (CellF.own hX.blk rfl).cell) ?_
      refine Aa rfl (Bi Cs (Ab) hX.sale.bidders.plain) ?_
      refine Aa rfl (Af Ac) ?_
      refine Ah <| Ad <| A4 <| Bx [10, 12, 67, 68, 69, 70, 71, 72, 73, 74, 75, 76, 77, 78, 79, 80, 81, 82, 83, 84, 85, 86, 87, 88, 89, 90, 91, 92, 93, 94, 95] (fun m e σ => ∃ c : Nat, m + c = s.bidders.length ∧ e 67 = .int .i64 (c : Int) ∧ e 10 = .int .i64 (othersTo s k set (o : Int) (strongP s k set.testBit) c) ∧ σ = ⟨F, (b7, bx 69 s.lots[k].enc) :: (kb, mapO es) :: R5⟩) (s.bidders.length) ?_ ?_
      · exact ⟨0, by omega, (Ab), (A9 rfl <| Ay rfl <| Ab), rfl⟩
      ·
       rintro m2 e2 _ ⟨c, hm2, ht67, ht10, rfl⟩
       by_cases hlc : c < s.bidders.length
       ·
        have hc6 : c < 6 := by omega
        refine Ag <| Ai fun ds => Aa rfl (Bt (As rfl ht67) (Ao rfl <| Al rfl <| Ab)) ?_
        refine Ah <| Ad <| Ag <| Aq (Ab) (by first | rfl | exact decide_eq_true (by omega)) ?_
        by_cases hne : (c : Int) ≠ o
        ·
         refine Aw <| Ad <| Ag <| A4 <| Ag <| Ai fun ds => Aa rfl (Af (Al rfl <| As rfl ht67)) ?_
         refine Aa rfl (Ae (Ab)) ?_
         refine Ah <| Ad <| Ag <| Ai fun ds => Aa rfl (Af (Ab)) ?_
         refine Aa rfl (Af (Ay rfl <| Ao rfl <| Ba rfl <| A9 rfl <| Ay rfl <| Ab)) ?_
         refine Aa rfl (B6 (Al rfl <| Ab) (Ab)) ?_
         refine Aa rfl (Af (Ab)) ?_
         refine At rfl rfl (Ab) (decide_eq_true hne) ?_
         refine Aa rfl (Af (Ay rfl <| Ap rfl <| Al rfl <| Ao rfl <| Bo rfl <| Ay rfl <| Ap rfl <| Ao rfl <| Ba rfl <| Ay rfl <| Ak rfl)) ?_
         refine At rfl rfl (Al rfl <| Ab) (decide_eq_true hne) ?_
         refine Aa rfl (Af (Ay rfl <| Al rfl <| Ab)) ?_
         refine At rfl rfl (Ap rfl <| Ab) (decide_eq_true hne) ?_
         refine Aa rfl (q_shr (Al rfl <| Ab) (Ab) rfl (by show c < 64; omega) shr_nat) ?_
         refine At rfl rfl (Ap rfl <| Al rfl <| Ab) (decide_eq_true hne) ?_
         refine Aa rfl (q_and (Ab) Ac (m := set / 2 ^ c) (k := 1) rfl rfl (by have := Nat.div_le_self set (2 ^ c); omega) (by omega) rfl) ?_
         refine At rfl rfl (Ay rfl <| Ab) (decide_eq_true hne) ?_
         refine Aa rfl (B7 (Ab) Ac) ?_
         refine At rfl rfl (Ay rfl <| Al rfl <| Ab) (decide_eq_true hne) ?_
         refine Aa rfl (Af (Ab)) ?_
         by_cases hbit : set.testBit c = true
         ·
          refine At rfl rfl (Ab) (by first | (rw [Ed, hbit]; done) | (rw [Ed, hbit]; rfl)) ?_
          refine Aa rfl (Af (A9 rfl <| Ap rfl <| Ab)) ?_
          refine At rfl rfl (Al rfl <| Ab) (by first | (rw [Ed, hbit]; done) | (rw [Ed, hbit]; rfl)) ?_
          refine Aa rfl (Af (A9 rfl <| Ay rfl <| Ap rfl <| Ao rfl <| Ay rfl <| Ap rfl <| Al rfl <| Ab)) ?_
          refine At rfl rfl (Ap rfl <| Ab) (by first | (rw [Ed, hbit]; done) | (rw [Ed, hbit]; rfl)) ?_
          refine Aa rfl (B7 (Al rfl <| Ab) (Ab)) ?_
          refine At rfl rfl (A9 rfl <| Al rfl <| Ab) (decide_eq_true hne) ?_
          refine Aa rfl (A8 (Ap rfl <| Al rfl <| Ab) (by first | (rw [Ed, hbit]; done) | (rw [Ed, hbit]; rfl)) (Ab)) ?_
          refine Aa rfl (A6 (A9 rfl <| Ap rfl <| Ab) (decide_eq_true hne) (Ab)) ?_
          refine Ah <| Ad ?_
          by_cases hm : (c : Int) = (strongP s k set.testBit)
          ·
           refine Aq (Ab) (decide_eq_true hm) ?_
           refine Ai fun ds => Aa rfl (Af (Ba rfl <| Ap rfl <| As rfl ht10)) ?_
           refine Aa rfl (Af (Ba rfl <| Ap rfl <| Al rfl <| Ao rfl <| Bo rfl <| Ay rfl <| Ap rfl <| Ao rfl <| Ba rfl <| Ay rfl <| Ak rfl)) ?_
           refine Aa rfl (Af (Ba rfl <| Ay rfl <| Ao rfl <| Bo rfl <| Ab)) ?_
           refine Aa rfl (Af (Ba rfl <| Ap rfl <| Ab)) ?_
           refine Aa rfl (Cc (Ap rfl <| Ab)) ?_
           refine Aa rfl (Aj Fk (Ab)) ?_
           refine Aa rfl (B3 (k := k) E3 (Ab) (Ap rfl <| Al rfl <| Ab) rfl (by omega)) ?_
           refine Aa rfl (B3 (k := c) E4 (Ab) (Ap rfl <| Al rfl <| Ab) rfl (by omega)) ?_
           refine Aa rfl (Ar Bj (Ab) (hX.most_cell (by omega : k < 6) (by omega : c < 6)).cell) ?_
           refine Aa rfl (q_max2 (A9 rfl <| Ab) (Ab)) ?_
           refine Aa rfl (Ae (Ab)) ?_
           refine Ah <| Bf <| Ad <| Ai fun ds => Aa rfl (Bp (Ba rfl <| A9 rfl <| Ay rfl <| Al rfl <| As rfl ht67) Ac rfl (by omega) (by omega)) ?_
           refine Aa rfl (Af (Ab)) ?_
           refine Ah <| Ad ⟨_, m2 - 1, Off.eq (C5 rfl <| D7 rfl <| Et rfl <| Eb rfl <| Ej rfl <| Bd), by omega, ?_⟩
           exact ⟨c + 1, by omega, (Ab), by rw [othersTo_succ, if_pos (show otherOk set o (strongP s k set.testBit) c from ⟨hne, .inr hm⟩)]; exact (Ap rfl <| Ab), rfl⟩
          ·
           refine Am (Ab) (decide_eq_false hm) ?_
           refine Aw <| Bf <| Ad <| Ai fun ds => Aa rfl (Bp (Ba rfl <| Ap rfl <| As rfl ht67) Ac rfl (by omega) (by omega)) ?_
           refine Aa rfl (Af (Ab)) ?_
           refine Ah <| Ad ⟨_, m2 - 1, Off.eq (C5 rfl <| Et rfl <| Bd), by omega, ?_⟩
           exact ⟨c + 1, by omega, (Ab), by rw [othersTo_succ, if_neg (show ¬ otherOk set o (strongP s k set.testBit) c from fun h => h.2.elim (fun h => by rw [hbit] at h; cases h) hm)]; exact (Ba rfl <| Ay rfl <| As rfl ht10), rfl⟩
         ·
          replace hbit : set.testBit c = false := by simpa using hbit
          refine Au rfl rfl (Ab) (.inl (congrArg Value.bool (by first | (rw [Ed, hbit]; done) | (rw [Ed, hbit]; rfl)))) rfl ?_
          refine Au rfl rfl (Al rfl <| Ab) (.inl (congrArg Value.bool (by first | (rw [Ed, hbit]; done) | (rw [Ed, hbit]; rfl)))) rfl ?_
          refine Au rfl rfl (Ap rfl <| Ab) (.inl (congrArg Value.bool (by first | (rw [Ed, hbit]; done) | (rw [Ed, hbit]; rfl)))) rfl ?_
          refine At rfl rfl (A9 rfl <| Al rfl <| Ab) (decide_eq_true hne) ?_
          refine Aa rfl (A6 (Ap rfl <| Al rfl <| Ab) (by first | (rw [Ed, hbit]; done) | (rw [Ed, hbit]; rfl)) Ac) ?_
          refine Aa rfl (A6 (A9 rfl <| Ap rfl <| Ab) (decide_eq_true hne) (Ab)) ?_
          refine Ah <| Ad <| Aq (Ab) rfl ?_
          refine Ai fun ds => Aa rfl (Af (Ba rfl <| Ap rfl <| As rfl ht10)) ?_
          refine Aa rfl (Af (Ba rfl <| Ap rfl <| Al rfl <| Ao rfl <| Bo rfl <| Ay rfl <| Ap rfl <| Ao rfl <| Ba rfl <| Ay rfl <| Ak rfl)) ?_
          refine Aa rfl (Af (Ba rfl <| Ay rfl <| Ao rfl <| Bo rfl <| Ab)) ?_
          refine Aa rfl (Af (Ba rfl <| Ap rfl <| Ab)) ?_
          refine Aa rfl (Cc (Ap rfl <| Ab)) ?_
          refine Aa rfl (Aj Fk (Ab)) ?_
          refine Aa rfl (B3 (k := k) E3 (Ab) (Ap rfl <| Al rfl <| Ab) rfl (by omega)) ?_
          refine Aa rfl (B3 (k := c) E4 (Ab) (Ap rfl <| Al rfl <| Ab) rfl (by omega)) ?_
          refine Aa rfl (Ar Bj (Ab) (hX.most_cell (by omega : k < 6) (by omega : c < 6)).cell) ?_
          refine Aa rfl (q_max2 (A9 rfl <| Ab) (Ab)) ?_
          refine Aa rfl (Ae (Ab)) ?_
          refine Ah <| Bf <| Ad <| Ai fun ds => Aa rfl (Bp (Ba rfl <| A9 rfl <| Ay rfl <| Al rfl <| As rfl ht67) Ac rfl (by omega) (by omega)) ?_
          refine Aa rfl (Af (Ab)) ?_
          refine Ah <| Ad ⟨_, m2 - 1, Off.eq (C5 rfl <| D7 rfl <| Et rfl <| Eb rfl <| Ej rfl <| Bd), by omega, ?_⟩
          exact ⟨c + 1, by omega, (Ab), by rw [othersTo_succ, if_pos (show otherOk set o (strongP s k set.testBit) c from ⟨hne, .inl hbit⟩)]; exact (Ap rfl <| Ab), rfl⟩
        ·
         refine Aw <| Ad <| Ag <| A4 <| Ag <| Ai fun ds => Aa rfl (Af (Al rfl <| As rfl ht67)) ?_
         refine Aa rfl (Ae (Ab)) ?_
         refine Ah <| Ad <| Ag <| Ai fun ds => Aa rfl (Af (Ab)) ?_
         refine Aa rfl (Af (Ay rfl <| Ao rfl <| Ba rfl <| A9 rfl <| Ay rfl <| Ab)) ?_
         refine Aa rfl (B6 (Al rfl <| Ab) (Ab)) ?_
         refine Aa rfl (Af (Ab)) ?_
         refine Au rfl rfl (Ab) (.inl (congrArg Value.bool (decide_eq_false hne))) rfl ?_
         refine Au rfl rfl (Al rfl <| Ab) (.inl (congrArg Value.bool (decide_eq_false hne))) rfl ?_
         refine Au rfl rfl (Ap rfl <| Ab) (.inl (congrArg Value.bool (decide_eq_false hne))) rfl ?_
         refine Au rfl rfl (Ap rfl <| Al rfl <| Ab) (.inl (congrArg Value.bool (decide_eq_false hne))) rfl ?_
         refine Au rfl rfl (Ay rfl <| Ab) (.inl (congrArg Value.bool (decide_eq_false hne))) rfl ?_
         refine Au rfl rfl (Ay rfl <| Al rfl <| Ab) (.inl (congrArg Value.bool (decide_eq_false hne))) rfl ?_
         refine Au rfl rfl (Ab) (.inr rfl) rfl ?_
         refine Au rfl rfl (Al rfl <| Ab) (.inr rfl) rfl ?_
         refine Au rfl rfl (Ap rfl <| Ab) (.inr rfl) rfl ?_
         refine Au rfl rfl (A9 rfl <| Al rfl <| Ab) (.inl (congrArg Value.bool (decide_eq_false hne))) rfl ?_
         refine Aa rfl (A8 (A9 rfl <| Ap rfl <| Ab) (decide_eq_false hne) Ac) ?_
         refine Ah <| Ad <| Am (Ab) rfl ?_
         refine Aw <| Bf <| Ad <| Ai fun ds => Aa rfl (Bp (Ba rfl <| Ap rfl <| As rfl ht67) Ac rfl (by omega) (by omega)) ?_
         refine Aa rfl (Af (Ab)) ?_
         refine Ah <| Ad ⟨_, m2 - 1, Off.eq (C5 rfl <| Et rfl <| Bd), by omega, ?_⟩
         exact ⟨c + 1, by omega, (Ab), by rw [othersTo_succ, if_neg (show ¬ otherOk set o (strongP s k set.testBit) c from fun h => hne h.1)]; exact (Ba rfl <| Ay rfl <| As rfl ht10), rfl⟩
       ·
        refine Ag <| Ai fun ds => Aa rfl (Bt (As rfl ht67) (Ao rfl <| Al rfl <| Ab)) ?_
        refine Ah <| Ad <| Ag <| Am (Ab) (by first | rfl | exact decide_eq_false (by omega)) ?_
        obtain rfl : c = s.bidders.length := by omega
        have hob := othersTo_bound hv (l := k) (set := set) (one := (o : Int)) (member := (strongP s k set.testBit)) (k := s.bidders.length)
        have hmb := most_bound hv (l := k) (b := o) (Nat.le_refl _)
        refine Bv ?_
        refine Bk <| Bk <| Bn <| Ad <| D6 (.inl rfl) (fun _ _ h => h) (.cons_cons _ <| .cons_cons _ <| List.nil_sublist _) [] (by kernel_rfl) fun ds => ?_
        refine Be 0 rfl (by kernel_rfl) (by kernel_rfl) (by kernel_rfl) (by kernel_rfl) rfl rfl (fun _ h => h.drop (.cons_cons _ <| .cons_cons _ <| List.nil_sublist _)) (fun _ _ _ h => h) (Af (Al rfl <| Ao rfl <| Bo rfl <| Ay rfl <| Ap rfl <| As rfl hs5)) ?_
        refine Be 1 rfl (by kernel_rfl) (by kernel_rfl) (by kernel_rfl) (by kernel_rfl) rfl rfl (fun _ h => h.drop (.cons_cons _ <| .cons_cons _ <| List.nil_sublist _)) (fun _ _ _ h => h) (Af (Ap rfl <| Ao rfl <| Ba rfl <| A9 rfl <| Ay rfl <| Ab)) ?_
        refine Be 2 rfl (by kernel_rfl) (by kernel_rfl) (by kernel_rfl) (by kernel_rfl) rfl rfl (fun _ h => h.drop (.cons_cons _ <| .cons_cons _ <| List.nil_sublist _)) (fun _ _ _ h => h) (Af (Ap rfl <| Al rfl <| Ao rfl <| Bo rfl <| Ay rfl <| Ap rfl <| Ao rfl <| Ba rfl <| Ay rfl <| Ak rfl)) ?_
        refine Be 3 rfl (by kernel_rfl) (by kernel_rfl) (by kernel_rfl) (by kernel_rfl) rfl rfl (fun _ h => h.drop (.cons_cons _ <| .cons_cons _ <| List.nil_sublist _)) (fun _ _ _ h => h) (Aj fd_69_2 (Ay rfl <| Ao rfl <| Bo rfl <| Al rfl <| Ab)) ?_
        refine Be 4 rfl (by kernel_rfl) (by kernel_rfl) (by kernel_rfl) (by kernel_rfl) rfl rfl (fun _ h => h.drop (.cons_cons _ <| .cons_cons _ <| List.nil_sublist _)) (fun _ _ _ h => h) (Ar Bj (Ab) (Cell.own 0 rfl rfl)) ?_
        refine Be 5 rfl (by kernel_rfl) (by kernel_rfl) (by kernel_rfl) (by kernel_rfl) rfl rfl (fun _ h => h.drop (.cons_cons _ <| .cons_cons _ <| List.nil_sublist _)) (fun _ _ _ h => h) (Af (Ay rfl <| Ap rfl <| As rfl ht10)) ?_
        refine Be 6 rfl (by kernel_rfl) (by kernel_rfl) (by kernel_rfl) (by kernel_rfl) rfl rfl (fun _ h => h.drop (.cons_cons _ <| .cons_cons _ <| List.nil_sublist _)) (fun _ _ _ h => h) (Af (Ay rfl <| Ap rfl <| Al rfl <| Ao rfl <| Bo rfl <| Ay rfl <| Ap rfl <| Ao rfl <| Ba rfl <| Ay rfl <| Ak rfl)) ?_
        refine Be 7 rfl (by kernel_rfl) (by kernel_rfl) (by kernel_rfl) (by kernel_rfl) rfl rfl (fun _ h => h.drop (.cons_cons _ <| .cons_cons _ <| List.nil_sublist _)) (fun _ _ _ h => h) (Af (A9 rfl <| Ao rfl <| Bo rfl <| Ab)) ?_
        refine Be 8 rfl (by kernel_rfl) (by kernel_rfl) (by kernel_rfl) (by kernel_rfl) rfl rfl (fun _ h => h.drop (.cons_cons _ <| .cons_cons _ <| List.nil_sublist _)) (fun _ _ _ h => h) (Af (A9 rfl <| Al rfl <| Ao rfl <| Ba rfl <| A9 rfl <| Ay rfl <| Ab)) ?_
        refine Be 9 rfl (by kernel_rfl) (by kernel_rfl) (by kernel_rfl) (by kernel_rfl) rfl rfl (fun _ h => h.drop (.cons_cons _ <| .cons_cons _ <| List.nil_sublist _)) (fun _ _ _ h => h) (Cc (Ap rfl <| Ab)) ?_
        refine Be 10 rfl (by kernel_rfl) (by kernel_rfl) (by kernel_rfl) (by kernel_rfl) rfl rfl (fun _ h => h.drop (.cons_cons _ <| .cons_cons _ <| List.nil_sublist _)) (fun _ _ _ h => h) (Aj Fk (Ab)) ?_
        refine Be 11 rfl (by kernel_rfl) (by kernel_rfl) (by kernel_rfl) (by kernel_rfl) rfl rfl (fun _ h => h.drop (.cons_cons _ <| .cons_cons _ <| List.nil_sublist _)) (fun _ _ _ h => h) (B3 (k := k) E3 (Ab) (Ap rfl <| Al rfl <| Ab) rfl (by omega)) ?_
        refine Be 12 rfl (by kernel_rfl) (by kernel_rfl) (by kernel_rfl) (by kernel_rfl) rfl rfl (fun _ h => h.drop (.cons_cons _ <| .cons_cons _ <| List.nil_sublist _)) (fun _ _ _ h => h) (B3 (k := o) E4 (Ab) (Ap rfl <| Al rfl <| Ab) rfl (by omega)) ?_
        refine Be 13 rfl (by kernel_rfl) (by kernel_rfl) (by kernel_rfl) (by kernel_rfl) rfl rfl (fun _ h => h.drop (.cons_cons _ <| .cons_cons _ <| List.nil_sublist _)) (fun _ _ _ h => h) (Ar Bj (Ab) (hX.most_cell (by omega : k < 6) (by omega : o < 6)).cell) ?_
        refine Dh 14 rfl (by kernel_rfl) rfl (Br (Bc bd_101 A0 (.cons (A9 rfl <| Ap rfl <| Al rfl <| Ab) (.cons (A9 rfl <| Al rfl <| Ab) (.cons (A9 rfl <| Ab) (.cons (Ab) .nil)))) (price_ok hX hv (by rw [e1]; omega) (by rw [e1]; omega) hob.1 hob.2 hmb.1 hmb.2) (fun _ _ h => h)) ⟨fun _ _ => (fun _ h => h.drop (.cons_cons _ <| .cons_cons _ <| List.nil_sublist _)), ?_⟩)
        refine Be 15 rfl (by kernel_rfl) (by kernel_rfl) (by kernel_rfl) (by kernel_rfl) rfl rfl (fun _ h => h.drop (.cons_cons _ <| .cons_cons _ <| List.nil_sublist _)) (fun _ _ _ h => h) (C9 bt_63 (.cons (A9 rfl <| Ay rfl <| Al rfl <| Ab) rfl (.cons (Ab) rfl .nil)) (.cons rfl rfl (Nat.le_of_ble_eq_true rfl) (.cons (.here) .nil) (.cons rfl rfl (Nat.le_of_ble_eq_true rfl) (.cons (.next <| .here) .nil) .nil))) ?_
        refine Dh 16 rfl (by kernel_rfl) rfl (Dr (offs := [(0, 2)]) (zl := [.int .i64 0, .int .i64 0]) Dp zr_63 rfl (.cons (Ab) rfl .nil) (by intro i p h; rcases i with _ | i <;> simp at h <;> subst h <;> rfl) (.cons rfl rfl (Nat.le_of_ble_eq_true rfl) (.cons (.here) (.cons (.next <| .here) .nil)) .nil) (by decide) (by decide) fun b13 hb13 nb13 => ⟨fun _ _ => (fun _ h => h.drop (.cons _ <| .cons_cons _ <| .cons_cons _ <| List.nil_sublist _)), ?_⟩)
        refine Dh 17 rfl (by kernel_rfl) rfl (Ct Dp el_63 (Ba rfl <| Ab) ho (Ab) (C8 (s := 2) 0 rfl rfl (by simp [Value.oneCell'])) (by omega) (by omega) (.s <| .s <| .s <| .z) .last fun v14 R15 ho16 => ⟨fun _ _ => (fun _ h => h.drop (.cons _ <| .cons_cons _ <| .cons_cons _ <| List.nil_sublist _)), ?_⟩)
        have ho3 := ho16.snoc (x := sellP s set k) rfl (by rw [sellP_at hso hlow, ← e1]; rfl)
        refine Be 18 rfl (by kernel_rfl) (by kernel_rfl) (by kernel_rfl) (by kernel_rfl) rfl rfl (fun _ h => h.drop (.cons _ <| .cons_cons _ <| .cons_cons _ <| List.nil_sublist _)) (fun _ _ _ h => h) (Ae (Ab)) ?_
        refine Di (by kernel_rfl) ?_ _
        refine Bf <| Ad <| Cd (fun _ _ h => h.drop (.cons _ <| .cons _ <| .cons_cons _ <| .refl _)) ?_
        refine Ai fun ds => Aa rfl (Bp (Ba rfl <| Ay rfl <| Ao rfl <| Bo rfl <| Ay rfl <| Ap rfl <| As rfl hs30) Ac rfl (by omega) (by omega)) ?_
        refine Aa rfl (Af (Ab)) ?_
        refine Ah <| Ad ⟨_, m - 1, Off.eq (C5 rfl <| Et rfl <| Eb rfl <| off_in rfl <| Ey rfl <| Et rfl <| Eb rfl <| Bd), by omega, ?_⟩
        refine ⟨k + 1, by omega, (Ab), _, _, (Ap rfl <| Ab), by rw [sellL_succ]; exact ho3, rfl⟩
   ·
    refine Ag <| Ai fun ds => Aa rfl (Bt (As rfl hs30) (Ao rfl <| Al rfl <| Ab)) ?_
    refine Ah <| Ad <| Ag <| Am (Ab) (by first | rfl | exact decide_eq_false (by omega)) ?_
    obtain rfl : k = s.lots.length := by omega
    refine WC_freezeRM (σ := ⟨_, _⟩) (fun m hm => hm) ho (.s <| .z) .last fun F17 hF18 hz19 => ?_
    replace hX := hX.mono hF18
    replace hK := hK.mono hF18
    have hn2 := ho.sl (fun _ => rfl) hz19 (by have := sellL_length (s := s) (set := set) (k := s.lots.length); omega)
    refine Bv ?_
    refine Bk <| Bk <| Bn <| Ad <| Ag <| Ai fun ds => Aa rfl (Af (Al rfl <| Ao rfl <| Ba rfl <| Ay rfl <| Ak rfl)) ?_
    refine Aa rfl (Cc (Ab)) ?_
    refine Aa rfl (Aj fd_156_3 (Ab)) ?_
    refine Aa rfl (Ar one_152 (Ab) hX.known_cell.cell) ?_
    refine Aa rfl (Af (Ay rfl <| Al rfl <| Ao rfl <| Ba rfl <| Ay rfl <| Ak rfl)) ?_
    refine Aa rfl (Af (Ay rfl <| Ap rfl <| As rfl hs5)) ?_
    refine Cm (x_updateN mapK (Ap rfl <| Ab) (Al rfl <| Ab) (Ab) (i := 0) rfl (isKn hset) hK.keys hno (.here) ?_)
    refine Ah <| Ad <| Ag <| Ai fun ds => Aa rfl (Af (Ay rfl <| Ap rfl <| Al rfl <| As rfl hs5)) ?_
    refine Aa rfl (Ae (Ab)) ?_
    refine Ah <| Ad <| A5 <| post_retM rfl (.tmp (Ab) .nil) (.cons (.here) <| .nil) rfl ?_
    exact ⟨_, rfl, hK.snoc (isKn hset) hno hn2, hn2⟩
 ·
  refine Ag <| Ai fun ds => Aa rfl (Ae Ac) ?_
  refine Ah <| Ad <| Ag <| Ai fun ds => Aa rfl (Af (Al rfl <| Ak rfl)) ?_
  refine Aa rfl (Cc (Ab)) ?_
  refine Aa rfl (Aj fd_156_3 (Ab)) ?_
  refine Aa rfl (Ar one_152 (Ab) hX.known_cell.cell) ?_
  refine Aa rfl (Af (Ay rfl <| Al rfl <| Ak rfl)) ?_
  refine Aa rfl (q_lookup2S mapK (Al rfl <| Ab) (Ab) (i := 0) rfl (isKn hset) hK.keys hK.nodup hj) ?_
  refine Aa rfl (Af (Ab)) ?_
  refine Aa rfl (A2 (Ab) rfl) ?_
  refine Aa rfl (A2 (Al rfl <| Ab) rfl) ?_
  refine Aa rfl (Ae (Al rfl <| Ab)) ?_
  refine Aa rfl (Ae (Al rfl <| Ab)) ?_
  refine Ah <| Ad <| Ag <| Ag <| Ai fun ds => Aa rfl (Af (Ab)) ?_
  refine Ah <| Ad <| Aq (Ab) rfl ?_
  refine Ag <| Ai fun ds => Aa rfl (Af (Ap rfl <| Ab)) ?_
  refine Aa rfl (Ae (Ab)) ?_
  refine Ah <| Ad <| A5 <| A3 ?_
  refine post_retM rfl (.tmp (Ab) .nil) (.cons (.here) <| .nil) rfl ?_
  exact ⟨es, rfl, hK, hK.vals _ _ _ hj⟩
end Go.Proofs.Ytaikojfonleccaa
namespace Go.Proofs.Ytaikojfonleccaa
open Go.RowKit
theorem zr_77 : ZeroT Try.prog 77 (.agg #[.int .i64 0, .int .i64 0]) := Db (by kernel_rfl)
theorem agg_77 : AggT Try.prog 77 2 := aggT_of (by kernel_rfl)
theorem fd_63_0 : FieldT Try.prog 63 0 0 := Ch (by kernel_rfl)
theorem fd_69_3 : FieldT Try.prog 69 3 3 := Ch (by kernel_rfl)
theorem fd_77_0 : FieldT Try.prog 77 0 0 := Ch (by kernel_rfl)
theorem fd_77_1 : FieldT Try.prog 77 1 1 := Ch (by kernel_rfl)
theorem one_4 : OneT Try.prog 4 := Dy (by kernel_rfl)
theorem sl_40 : SliceT Try.prog 40 77 2 := Es (by kernel_rfl)
theorem sz_77 : SizeT Try.prog 77 2 := Dt (by kernel_rfl)
set_option maxRecDepth 100000 in
theorem part_ok {F : Heap} {p m : Int} (h0 : 0 ≤ p) (h1 : p ≤ 100000) (hm0 : 0 ≤ m) (hm : m ≤ 500) : Ok Try.prog 73 [.int .i64 p, .int .i64 m].toArray F fun r _ => r = .int .i64 (partP p m) := by
 refine Ok.intro Try.func73 rfl Try.ntmps73 rfl fun w0 => ?_
 have hm1 : 0 ≤ p * m := Int.mul_nonneg h0 hm0
 have hm2 : p * m ≤ 100000 * m := Int.mul_le_mul_of_nonneg_right h1 hm0
 refine Ag <| Ai fun ds => Aa rfl (Ae Ac) ?_
 refine Ah <| Ad <| Ag <| Ai fun ds => Aa rfl (Af (Al rfl <| Ak rfl)) ?_
 refine Aa rfl (Af (Ap rfl <| Ak rfl)) ?_
 refine Aa rfl (q_mul (Al rfl <| Ab) (Ab) rfl (by omega) (by omega)) ?_
 refine Aa rfl (Bp (Ab) Ac rfl (by omega) (by omega)) ?_
 refine Aa rfl (Eo (Ab) Ac (by omega) (by omega) (by omega)) ?_
 refine Aa rfl (Ae (Ab)) ?_
 refine Ah <| Ad <| A5 <| Ax rfl (.tmp (Ab) .nil) ?_
 rfl
end Go.Proofs.Ytaikojfonleccaa
