/-
  A part of a proof: SaleFewest returns true of any sale, catalogue, ring by bits, what is told of it and entries by bits, and leaves what it is handed as it was. No conditions.
-/
import Derived.Test.YtaikojfonleccaaPac
namespace Go.Proofs.Ytaikojfonleccaa
open Go.RowKit
theorem bd_42 : Body Try.prog 42 := Bt (by kernel_rfl)
set_option maxRecDepth 100000 in
theorem has_ok {F : Heap} {v : Value} {xs : List Int} (hx : Ints F v xs) (z : Int) : Ok Try.prog 42 [v, .int .i64 z].toArray F fun u _ => u = .bool (decide (z ∈ xs)) := by
 refine Ok.intro Try.func42 rfl Try.ntmps42 rfl fun w0 => ?_
 have hlen := hx.plain.lt
 refine Ag <| Ai fun ds => Aa rfl (Ae Ac) ?_
 refine Ah <| Ad <| Ag <| Ag <| Ai fun ds => Aa rfl (Ae Ac) ?_
 refine Ah <| Ad <| A4 <| Bz [4, 5, 6, 7, 8, 9, 10, 11, 12, 13, 14, 15, 16, 17] (fun m e σ => ∃ k : Nat, m + k = xs.length ∧ e 5 = .int .i64 (k : Int) ∧ σ = ⟨F, []⟩ ∧ ∀ j (hj : j < xs.length), j < k → xs[j] ≠ z) (xs.length) ?_ ?_
 · exact ⟨0, by omega, (Ab), rfl, fun j hj h => absurd h (by omega)⟩
 ·
  rintro m e _ ⟨k, hm, hs5, rfl, hno⟩
  by_cases hlt : k < xs.length
  ·
   refine Ag <| Ag <| Ai fun ds => Aa rfl (Af (As rfl hs5)) ?_
   refine Aa rfl (Af (Al rfl <| Ap rfl <| Ao rfl <| Ak rfl)) ?_
   refine Aa rfl (Bg Bq (Ab) hx.plain) ?_
   refine Aa rfl (Bs (Ao rfl <| Ab) (Ab)) ?_
   refine Ah <| Ad <| Ar (Ab) (by first | rfl | exact decide_eq_true (by omega)) ?_
   by_cases he : xs[k] = z
   ·
    refine Aw <| Ad <| Ag <| A4 <| Ag <| Ai fun ds => Aa rfl (Af (Az rfl <| Ap rfl <| Ao rfl <| Ak rfl)) ?_
    refine Aa rfl (Af (Az rfl <| Al rfl <| As rfl hs5)) ?_
    refine Aa rfl (Bj  Bq (Al rfl <| Ab) hx.plain (Ab) rfl hlt) ?_
    refine Aa rfl (Aq Bi (Ab) (hx.cell1 hlt rfl)) ?_
    refine Aa rfl (Af (Ba rfl <| Ap rfl <| Ao rfl <| Ak rfl)) ?_
    refine Aa rfl (B1 (Al rfl <| Ab) (Ab)) ?_
    refine Ah <| Ad <| Ar (Ab) (decide_eq_true he) ?_
    refine Ag <| Ai fun ds => Aa rfl (Ae Ac) ?_
    refine Ah <| Ad <| A9 <| Bd (A6 (A6 (Bd (A6 ?_))))
    refine Ay rfl (.tmp (Ab) .nil) ?_
    show _ = _
    rw [decide_eq_true (by rw [← he]; exact List.getElem_mem hlt : z ∈ xs)]; rfl
   ·
    refine Aw <| Ad <| Ag <| A4 <| Ag <| Ai fun ds => Aa rfl (Af (Az rfl <| Ap rfl <| Ao rfl <| Ak rfl)) ?_
    refine Aa rfl (Af (Az rfl <| Al rfl <| As rfl hs5)) ?_
    refine Aa rfl (Bj  Bq (Al rfl <| Ab) hx.plain (Ab) rfl hlt) ?_
    refine Aa rfl (Aq Bi (Ab) (hx.cell1 hlt rfl)) ?_
    refine Aa rfl (Af (Ba rfl <| Ap rfl <| Ao rfl <| Ak rfl)) ?_
    refine Aa rfl (B1 (Al rfl <| Ab) (Ab)) ?_
    refine Ah <| Ad <| Am (Ab) (decide_eq_false he) ?_
    refine Aw <| Bf <| Ad <| Ai fun ds => Aa rfl (Af (Ba rfl <| Ao rfl <| As rfl hs5)) ?_
    refine Aa rfl (Bp (Ab) Ac rfl (by omega) (by omega)) ?_
    refine Aa rfl (Ae (Ab)) ?_
    refine Ah <| Ad ⟨_, m - 1, Off.eq (Ed rfl <| E0 rfl <| El rfl <| Be), by omega, ?_⟩
    refine ⟨k + 1, by omega, (Ab), rfl, fun j hj hjk => ?_⟩
    rcases Nat.lt_succ_iff_lt_or_eq.1 hjk with hjk | rfl
    · exact hno j hj hjk
    · exact he
  ·
   refine Ag <| Ag <| Ai fun ds => Aa rfl (Af (As rfl hs5)) ?_
   refine Aa rfl (Af (Al rfl <| Ap rfl <| Ao rfl <| Ak rfl)) ?_
   refine Aa rfl (Bg Bq (Ab) hx.plain) ?_
   refine Aa rfl (Bs (Ao rfl <| Ab) (Ab)) ?_
   refine Ah <| Ad <| Am (Ab) (by first | rfl | exact decide_eq_false (by omega)) ?_
   refine Bv ?_
   refine Bm <| Bm <| Bo <| Ad <| Ag <| Ai fun ds => Aa rfl (Ae Ac) ?_
   refine Ah <| Ad <| A9 <| Ay rfl (.tmp (Ab) .nil) ?_
   show _ = _
   rw [decide_eq_false (fun h : z ∈ xs => by obtain ⟨j, hj, he⟩ := List.mem_iff_getElem.1 h; exact hno j hj (by omega) he)]; rfl
theorem ringErr_4 {s : Sale} {ring : List Int} (h : (ring.any fun z => !(inB 0 (s.bidders.length - 1) z)) = true) : ringErr s ring = 4 := if_pos h
theorem ringErr_2 {s : Sale} {ring : List Int} (h : (ring.any fun z => !(inB 0 (s.bidders.length - 1) z)) = false) (h2 : notAsc ring = true) : ringErr s ring = 2 := by unfold ringErr; rw [if_neg (by rw [h]; decide), if_pos h2]
theorem ringErr_3 {s : Sale} {ring : List Int} (h : (ring.any fun z => !(inB 0 (s.bidders.length - 1) z)) = false) (h2 : notAsc ring = false) (h3 : ring.length = 1) : ringErr s ring = 3 := by unfold ringErr; rw [if_neg (by rw [h]; decide), if_neg (by rw [h2]; decide), if_pos h3]
theorem ringErr_0 {s : Sale} {ring : List Int} (h : (ring.any fun z => !(inB 0 (s.bidders.length - 1) z)) = false) (h2 : notAsc ring = false) (h3 : ¬ ring.length = 1) : ringErr s ring = 0 := by unfold ringErr; rw [if_neg (by rw [h]; decide), if_neg (by rw [h2]; decide), if_neg h3]
theorem ringErr_ok {s : Sale} {ring : List Int} (h : ringErr s ring = 0) : (ring.any fun z => !(inB 0 (s.bidders.length - 1) z)) = false ∧ notAsc ring = false ∧ ¬ ring.length = 1 := by
 unfold ringErr at h
 split at h
 · cases h
 · rename_i h1
   split at h
   · cases h
   · rename_i h2
     split at h
     · cases h
     · rename_i h3; exact ⟨by simpa using h1, by simpa using h2, h3⟩
theorem topTo_lt {s : Sale} {lot : Int} {mem : Int → Bool} (k : Nat) : -1 ≤ topTo s lot mem k ∧ topTo s lot mem k < k ∨ k = 0 ∧ topTo s lot mem k = -1 := by
 rcases top_spec (s := s) (lot := lot) (mem := mem) k with ⟨h, -⟩ | ⟨b, h1, -, -, h, -⟩ <;> omega
set_option maxRecDepth 100000 in
theorem refStrongest_ok {F : Heap} {vs vb vl vn vd : Value} {s : Sale} (hr : SaleR F vs vb vl vn vd s) {vr : Value} {ring : List Int} (hx : Ints F vr ring) (lot : Int) (all : Bool) : Ok Try.prog 90 [.agg #[vs, .int .i64 s.premium, .int .i64 s.fee, .int .i64 s.days, vb, vl, vn, vd], .int .i64 lot, vr, .bool all].toArray F fun r _ => r = .int .i64 (topS s lot (fun b => all || inRing ring b)) := by
 refine Ok.intro Try.func90 rfl Try.ntmps90 rfl fun w0 => ?_
 have hL1 := hr.bids.plain.lt
 refine Ag <| Ai fun ds => Bn rfl (Cf (Ak rfl) rfl fun b1 hb1 nb1 => ?_)
 refine Aa rfl (Ae Ac) ?_
 refine Ah <| Ad <| Ag <| Ai fun ds => Aa rfl (Ae Ac) ?_
 refine Ah <| Ad <| Ag <| Ag <| Ai fun ds => Aa rfl (Ae Ac) ?_
 refine Ah <| Ad <| A4 <| Bz [9, 10, 11, 12, 13, 14, 15, 16, 17, 18, 19, 20, 21, 22, 23, 24, 25, 26, 27, 28, 29, 30, 31, 32, 33, 34, 35, 36, 37, 38, 39, 40, 41, 42, 43, 44, 45, 46, 47, 48, 49, 50, 51, 52] (fun m e σ => ∃ k : Nat, m + k = s.bids.length ∧ e 10 = .int .i64 (k : Int) ∧ e 9 = .int .i64 (topTo s lot (fun b => all || inRing ring b) k) ∧ σ = ⟨F, [(b1, bx 27 [vs, .int .i64 s.premium, .int .i64 s.fee, .int .i64 s.days, vb, vl, vn, vd])]⟩) (s.bids.length) ?_ ?_
 · exact ⟨0, by omega, (Ab), (Al rfl <| Ab), rfl⟩
 ·
  rintro m e _ ⟨k, hm9, hs10, hs9, rfl⟩
  by_cases hlt : k < s.bids.length
  ·
   have htl := topTo_lt (s := s) (lot := lot) (mem := (fun b => all || inRing ring b)) k
   refine Ag <| Ag <| Ai fun ds => Aa rfl (Af (As rfl hs10)) ?_
   refine Aa rfl (Aj Cy (Al rfl <| Ap rfl <| Ao rfl <| Al rfl <| Ab)) ?_
   refine Aa rfl (Aq Df (Ab) (Cell.own 0 rfl rfl)) ?_
   refine Aa rfl (Bg Dm (Ab) hr.bids.plain) ?_
   refine Aa rfl (Bs (Ao rfl <| Al rfl <| Ab) (Ab)) ?_
   refine Ah <| Ad <| Ar (Ab) (by first | rfl | exact decide_eq_true (by omega)) ?_
   by_cases hl : (s.bid k).lot = lot
   ·
    refine Aw <| Ad <| Ag <| A4 <| Ag <| Ai fun ds => Aa rfl (Aj Cy (Az rfl <| Al rfl <| Ap rfl <| Ao rfl <| Al rfl <| Ab)) ?_
    refine Aa rfl (Aq Df (Ab) (Cell.own 0 rfl rfl)) ?_
    refine Aa rfl (Af (Az rfl <| Ao rfl <| Al rfl <| As rfl hs10)) ?_
    refine Aa rfl (Bj  Dm (Al rfl <| Ab) hr.bids.plain (Ab) rfl hlt) ?_
    refine Aa rfl (Bh agg_72 (Ab) rfl rfl (hr.bids.whole hlt)) ?_
    refine Bn rfl (B6 zr_72 rfl fun b3 hb3 nb3 => ?_)
    refine Cl (B5 sz_72 (Ab) (Al rfl <| Ab) (i := 0) rfl rfl rfl rfl Bid.enc_one (.here) ?_)
    refine Ah <| Ad <| Ag <| Cb (.inl rfl) (fun _ _ h => h) (by kernel_rfl) (by kernel_rfl) fun ds => ?_
    refine A0 rfl (Aj Fa (Ab)) ?_
    refine A0 rfl (Aq Bi (Ab) (Cell.own 0 rfl rfl)) ?_
    refine A0 rfl (Af (Ba rfl <| Az rfl <| Al rfl <| Ap rfl <| Az rfl <| Ak rfl)) ?_
    refine A0 rfl (B1 (Al rfl <| Ab) (Ab)) ?_
    refine A0 rfl (Af (Ab)) ?_
    refine A1 rfl rfl (Ab) (decide_eq_true (by rw [Ch hlt]; exact hl)) ?_
    refine A0 rfl (Af (A8 rfl <| Ap rfl <| Az rfl <| Ak rfl)) ?_
    refine A1 rfl rfl (Al rfl <| Ab) (decide_eq_true (by rw [Ch hlt]; exact hl)) ?_
    refine A0 rfl (Af (Ab)) ?_
    rcases Bool.eq_false_or_eq_true all with ha | ha
    ·
     have hm : (fun b => all || inRing ring b) (s.bid k).bidder = true := by simp [ha]
     refine Ax rfl rfl (Ab) (.inl (congrArg Value.bool ha)) rfl ?_
     refine Ax rfl rfl (Al rfl <| Ab) (.inl (congrArg Value.bool ha)) rfl ?_
     refine Ax rfl rfl (Ao rfl <| Ab) (.inl (congrArg Value.bool ha)) rfl ?_
     refine Ax rfl rfl (Ao rfl <| Al rfl <| Ab) (.inl (congrArg Value.bool ha)) rfl ?_
     refine A1 rfl rfl (Az rfl <| Ao rfl <| Ab) (decide_eq_true (by rw [Ch hlt]; exact hl)) ?_
     refine A0 rfl (A3 (Az rfl <| Ab) ha Ac) ?_
     refine A0 rfl (A3 (Az rfl <| Ao rfl <| Al rfl <| Ab) (decide_eq_true (by rw [Ch hlt]; exact hl)) (Ab)) ?_
     refine A0 rfl (Af (Ab)) ?_
     refine A1 rfl rfl (Ab) rfl ?_
     refine A0 rfl (Af (A8 rfl <| Ba rfl <| Al rfl <| As rfl hs9)) ?_
     refine A1 rfl rfl (Al rfl <| Ab) rfl ?_
     refine A0 rfl (Bs (Ab) Ac) ?_
     refine A1 rfl rfl (Ao rfl <| Ab) rfl ?_
     refine A0 rfl (Af (Ab)) ?_
     by_cases h0 : (topTo s lot (fun b => all || inRing ring b) k) < 0
     ·
      refine Ax rfl rfl (Ab) (.inl (congrArg Value.bool (decide_eq_true h0))) rfl ?_
      refine Ax rfl rfl (Al rfl <| Ab) (.inl (congrArg Value.bool (decide_eq_true h0))) rfl ?_
      refine Ax rfl rfl (Ao rfl <| Ab) (.inl (congrArg Value.bool (decide_eq_true h0))) rfl ?_
      refine Ax rfl rfl (Ao rfl <| Al rfl <| Ab) (.inl (congrArg Value.bool (decide_eq_true h0))) rfl ?_
      refine Ax rfl rfl (Az rfl <| Ab) (.inl (congrArg Value.bool (decide_eq_true h0))) rfl ?_
      refine Ax rfl rfl (Az rfl <| Al rfl <| Ab) (.inl (congrArg Value.bool (decide_eq_true h0))) rfl ?_
      refine Ax rfl rfl (Az rfl <| Ao rfl <| Ab) (.inl (congrArg Value.bool (decide_eq_true h0))) rfl ?_
      refine Ax rfl rfl (Az rfl <| Ao rfl <| Al rfl <| Ab) (.inl (congrArg Value.bool (decide_eq_true h0))) rfl ?_
      refine Ax rfl rfl (Ba rfl <| Ab) (.inl (congrArg Value.bool (decide_eq_true h0))) rfl ?_
      refine A1 rfl rfl (Ba rfl <| Az rfl <| Ab) rfl ?_
      refine A0 rfl (A3 (Ba rfl <| Al rfl <| Ab) (decide_eq_true h0) Ac) ?_
      refine A0 rfl (A3 (Ba rfl <| Az rfl <| Al rfl <| Ab) rfl (Ab)) ?_
      refine B9 ?_
      refine Ad <| Ar (Ab) rfl ?_
      refine Ai fun ds => Aa rfl (Af (Bl rfl <| Az rfl <| Ao rfl <| Al rfl <| As rfl hs10)) ?_
      refine Aa rfl (Ae (Ab)) ?_
      refine Ah <| Bf <| Ad <| Cc (fun _ _ h => h.drop (.cons _ <| .cons_cons _ <| .refl _)) ?_
      refine Ai fun ds => Aa rfl (Af (Bl rfl <| Ba rfl <| Al rfl <| As rfl hs10)) ?_
      refine Aa rfl (Bp (Ab) Ac rfl (by omega) (by omega)) ?_
      refine Aa rfl (Ae (Ab)) ?_
      refine Ah <| Ad ⟨_, m - 1, Off.eq (D1 rfl <| Ed rfl <| E0 rfl <| Be), by omega, ?_⟩
      exact ⟨k + 1, by omega, (Ab), by rw [Ei, show topStep s lot (fun b => all || inRing ring b) (topTo s lot (fun b => all || inRing ring b) k) k = (k : Int) from if_pos ⟨hl, hm, .inl h0⟩]; exact (Ao rfl <| Al rfl <| Ab), rfl⟩
     ·
      obtain ⟨o, ho⟩ := Int.eq_ofNat_of_zero_le (show 0 ≤ (topTo s lot (fun b => all || inRing ring b) k) by omega)
      have hos : o < s.bids.length := by omega
      refine A1 rfl rfl (Ab) (decide_eq_false h0) ?_
      refine A0 rfl (Aj E9 (A8 rfl <| Al rfl <| Ab)) ?_
      refine A1 rfl rfl (Al rfl <| Ab) (decide_eq_false h0) ?_
      refine A0 rfl (Aq Bi (Ab) (Cell.own 0 rfl rfl)) ?_
      refine A1 rfl rfl (Ao rfl <| Ab) (decide_eq_false h0) ?_
      refine A0 rfl (Aj Cy (A8 rfl <| Ba rfl <| Az rfl <| Ao rfl <| Ap rfl <| Ao rfl <| Al rfl <| Ab)) ?_
      refine A1 rfl rfl (Ao rfl <| Al rfl <| Ab) (decide_eq_false h0) ?_
      refine A0 rfl (Aq Df (Ab) (Cell.own 1 rfl rfl)) ?_
      refine A1 rfl rfl (Az rfl <| Ab) (decide_eq_false h0) ?_
      refine A0 rfl (Af (Bl rfl <| As rfl hs9)) ?_
      refine A1 rfl rfl (Az rfl <| Al rfl <| Ab) (decide_eq_false h0) ?_
      refine A0 rfl (Bj (k := o) Dm (Al rfl <| Ab) hr.bids.plain (Ab) ho hos) ?_
      refine A1 rfl rfl (Az rfl <| Ao rfl <| Ab) (decide_eq_false h0) ?_
      refine A0 rfl (Bx E9 (Ab)) ?_
      refine A1 rfl rfl (Az rfl <| Ao rfl <| Al rfl <| Ab) (decide_eq_false h0) ?_
      refine A0 rfl (Aq Bi (Ab) (hr.bids.cell hos rfl)) ?_
      refine A1 rfl rfl (Ba rfl <| Ab) (decide_eq_false h0) ?_
      refine A0 rfl (Ck (Az rfl <| Ao rfl <| Ab) (Ab)) ?_
      refine A1 rfl rfl (Ba rfl <| Az rfl <| Ab) rfl ?_
      refine A0 rfl (A7 (Ba rfl <| Al rfl <| Ab) (decide_eq_false h0) (Ab)) ?_
      refine A0 rfl (A3 (Ba rfl <| Az rfl <| Al rfl <| Ab) rfl (Ab)) ?_
      refine B9 ?_
      refine Ad ?_
      by_cases hmo : (s.bid o).most < (s.bid k).most
      ·
       refine Ar (Ab) (decide_eq_true (by rw [Ch hlt, Ch hos]; exact hmo)) ?_
       refine Ai fun ds => Aa rfl (Af (Bl rfl <| Az rfl <| Ao rfl <| Al rfl <| As rfl hs10)) ?_
       refine Aa rfl (Ae (Ab)) ?_
       refine Ah <| Bf <| Ad <| Cc (fun _ _ h => h.drop (.cons _ <| .cons_cons _ <| .refl _)) ?_
       refine Ai fun ds => Aa rfl (Af (Bl rfl <| Ba rfl <| Al rfl <| As rfl hs10)) ?_
       refine Aa rfl (Bp (Ab) Ac rfl (by omega) (by omega)) ?_
       refine Aa rfl (Ae (Ab)) ?_
       refine Ah <| Ad ⟨_, m - 1, Off.eq (D1 rfl <| Ed rfl <| E0 rfl <| Be), by omega, ?_⟩
       exact ⟨k + 1, by omega, (Ab), by rw [Ei, show topStep s lot (fun b => all || inRing ring b) (topTo s lot (fun b => all || inRing ring b) k) k = (k : Int) from if_pos ⟨hl, hm, .inr (by rw [ho]; exact hmo)⟩]; exact (Ao rfl <| Al rfl <| Ab), rfl⟩
      ·
       refine Am (Ab) (decide_eq_false (by rw [Ch hlt, Ch hos]; exact hmo)) ?_
       refine Aw <| Bf <| Ad <| Cc (fun _ _ h => h.drop (.cons _ <| .cons_cons _ <| .refl _)) ?_
       refine Ai fun ds => Aa rfl (Af (Bl rfl <| Az rfl <| Ao rfl <| Al rfl <| As rfl hs10)) ?_
       refine Aa rfl (Bp (Ab) Ac rfl (by omega) (by omega)) ?_
       refine Aa rfl (Ae (Ab)) ?_
       refine Ah <| Ad ⟨_, m - 1, Off.eq (D1 rfl <| Ed rfl <| Eo rfl <| Be), by omega, ?_⟩
       exact ⟨k + 1, by omega, (Ab), by rw [Ei, show topStep s lot (fun b => all || inRing ring b) (topTo s lot (fun b => all || inRing ring b) k) k = (topTo s lot (fun b => all || inRing ring b) k) from if_neg fun h => h.2.2.elim h0 (fun h => hmo (by rw [ho] at h; exact h))]; exact (Bl rfl <| Ba rfl <| Ao rfl <| As rfl hs9), rfl⟩
    ·
     refine A1 rfl rfl (Ab) ha ?_
     refine A0 rfl (Af (A8 rfl <| Ao rfl <| Ap rfl <| Az rfl <| Ak rfl)) ?_
     refine A1 rfl rfl (Al rfl <| Ab) ha ?_
     refine A0 rfl (Aj D8 (Ba rfl <| Ab)) ?_
     refine A1 rfl rfl (Ao rfl <| Ab) ha ?_
     refine A0 rfl (Aq Bi (Ab) (Cell.own 0 rfl rfl)) ?_
     refine A1 rfl rfl (Ao rfl <| Al rfl <| Ab) ha ?_
     refine WQ_c rfl (Bc bd_42 A2 (.cons (Ao rfl <| Ab) (.cons (Ab) .nil)) (has_ok hx _) (fun _ _ h => h)) ?_
     refine A1 rfl rfl (Az rfl <| Ao rfl <| Ab) (decide_eq_true (by rw [Ch hlt]; exact hl)) ?_
     refine A0 rfl (A7 (Az rfl <| Ab) ha (Ab)) ?_
     refine A0 rfl (A3 (Az rfl <| Ao rfl <| Al rfl <| Ab) (decide_eq_true (by rw [Ch hlt]; exact hl)) (Ab)) ?_
     refine A0 rfl (Af (Ab)) ?_
     by_cases hin : inRing ring (s.bid k).bidder = true
     ·
      have hm : (fun b => all || inRing ring b) (s.bid k).bidder = true := by simp [hin]
      refine A1 rfl rfl (Ab) (by rw [Ch hlt]; exact hin) ?_
      refine A0 rfl (Af (A8 rfl <| Ba rfl <| Al rfl <| As rfl hs9)) ?_
      refine A1 rfl rfl (Al rfl <| Ab) (by rw [Ch hlt]; exact hin) ?_
      refine A0 rfl (Bs (Ab) Ac) ?_
      refine A1 rfl rfl (Ao rfl <| Ab) (by rw [Ch hlt]; exact hin) ?_
      refine A0 rfl (Af (Ab)) ?_
      by_cases h0 : (topTo s lot (fun b => all || inRing ring b) k) < 0
      ·
       refine Ax rfl rfl (Ab) (.inl (congrArg Value.bool (decide_eq_true h0))) rfl ?_
       refine Ax rfl rfl (Al rfl <| Ab) (.inl (congrArg Value.bool (decide_eq_true h0))) rfl ?_
       refine Ax rfl rfl (Ao rfl <| Ab) (.inl (congrArg Value.bool (decide_eq_true h0))) rfl ?_
       refine Ax rfl rfl (Ao rfl <| Al rfl <| Ab) (.inl (congrArg Value.bool (decide_eq_true h0))) rfl ?_
       refine Ax rfl rfl (Az rfl <| Ab) (.inl (congrArg Value.bool (decide_eq_true h0))) rfl ?_
       refine Ax rfl rfl (Az rfl <| Al rfl <| Ab) (.inl (congrArg Value.bool (decide_eq_true h0))) rfl ?_
       refine Ax rfl rfl (Az rfl <| Ao rfl <| Ab) (.inl (congrArg Value.bool (decide_eq_true h0))) rfl ?_
       refine Ax rfl rfl (Az rfl <| Ao rfl <| Al rfl <| Ab) (.inl (congrArg Value.bool (decide_eq_true h0))) rfl ?_
       refine Ax rfl rfl (Ba rfl <| Ab) (.inl (congrArg Value.bool (decide_eq_true h0))) rfl ?_
       refine A1 rfl rfl (Ba rfl <| Az rfl <| Ab) (by rw [Ch hlt]; exact hin) ?_
       refine A0 rfl (A3 (Ba rfl <| Al rfl <| Ab) (decide_eq_true h0) Ac) ?_
       refine A0 rfl (A3 (Ba rfl <| Az rfl <| Al rfl <| Ab) (by rw [Ch hlt]; exact hin) (Ab)) ?_
       refine B9 ?_
       refine Ad <| Ar (Ab) rfl ?_
       refine Ai fun ds => Aa rfl (Af (Bl rfl <| Az rfl <| Ao rfl <| Al rfl <| As rfl hs10)) ?_
       refine Aa rfl (Ae (Ab)) ?_
       refine Ah <| Bf <| Ad <| Cc (fun _ _ h => h.drop (.cons _ <| .cons_cons _ <| .refl _)) ?_
       refine Ai fun ds => Aa rfl (Af (Bl rfl <| Ba rfl <| Al rfl <| As rfl hs10)) ?_
       refine Aa rfl (Bp (Ab) Ac rfl (by omega) (by omega)) ?_
       refine Aa rfl (Ae (Ab)) ?_
       refine Ah <| Ad ⟨_, m - 1, Off.eq (D1 rfl <| Ed rfl <| E0 rfl <| Be), by omega, ?_⟩
       exact ⟨k + 1, by omega, (Ab), by rw [Ei, show topStep s lot (fun b => all || inRing ring b) (topTo s lot (fun b => all || inRing ring b) k) k = (k : Int) from if_pos ⟨hl, hm, .inl h0⟩]; exact (Ao rfl <| Al rfl <| Ab), rfl⟩
      ·
       obtain ⟨o, ho⟩ := Int.eq_ofNat_of_zero_le (show 0 ≤ (topTo s lot (fun b => all || inRing ring b) k) by omega)
       have hos : o < s.bids.length := by omega
       refine A1 rfl rfl (Ab) (decide_eq_false h0) ?_
       refine A0 rfl (Aj E9 (A8 rfl <| Al rfl <| Ab)) ?_
       refine A1 rfl rfl (Al rfl <| Ab) (decide_eq_false h0) ?_
       refine A0 rfl (Aq Bi (Ab) (Cell.own 0 rfl rfl)) ?_
       refine A1 rfl rfl (Ao rfl <| Ab) (decide_eq_false h0) ?_
       refine A0 rfl (Aj Cy (A8 rfl <| Ba rfl <| Az rfl <| Ao rfl <| Ap rfl <| Ao rfl <| Al rfl <| Ab)) ?_
       refine A1 rfl rfl (Ao rfl <| Al rfl <| Ab) (decide_eq_false h0) ?_
       refine A0 rfl (Aq Df (Ab) (Cell.own 1 rfl rfl)) ?_
       refine A1 rfl rfl (Az rfl <| Ab) (decide_eq_false h0) ?_
       refine A0 rfl (Af (Bl rfl <| As rfl hs9)) ?_
       refine A1 rfl rfl (Az rfl <| Al rfl <| Ab) (decide_eq_false h0) ?_
       refine A0 rfl (Bj (k := o) Dm (Al rfl <| Ab) hr.bids.plain (Ab) ho hos) ?_
       refine A1 rfl rfl (Az rfl <| Ao rfl <| Ab) (decide_eq_false h0) ?_
       refine A0 rfl (Bx E9 (Ab)) ?_
       refine A1 rfl rfl (Az rfl <| Ao rfl <| Al rfl <| Ab) (decide_eq_false h0) ?_
       refine A0 rfl (Aq Bi (Ab) (hr.bids.cell hos rfl)) ?_
       refine A1 rfl rfl (Ba rfl <| Ab) (decide_eq_false h0) ?_
       refine A0 rfl (Ck (Az rfl <| Ao rfl <| Ab) (Ab)) ?_
       refine A1 rfl rfl (Ba rfl <| Az rfl <| Ab) (by rw [Ch hlt]; exact hin) ?_
       refine A0 rfl (A7 (Ba rfl <| Al rfl <| Ab) (decide_eq_false h0) (Ab)) ?_
       refine A0 rfl (A3 (Ba rfl <| Az rfl <| Al rfl <| Ab) (by rw [Ch hlt]; exact hin) (Ab)) ?_
       refine B9 ?_
       refine Ad ?_
       by_cases hmo : (s.bid o).most < (s.bid k).most
       ·
        refine Ar (Ab) (decide_eq_true (by rw [Ch hlt, Ch hos]; exact hmo)) ?_
        refine Ai fun ds => Aa rfl (Af (Bl rfl <| Az rfl <| Ao rfl <| Al rfl <| As rfl hs10)) ?_
        refine Aa rfl (Ae (Ab)) ?_
        refine Ah <| Bf <| Ad <| Cc (fun _ _ h => h.drop (.cons _ <| .cons_cons _ <| .refl _)) ?_
        refine Ai fun ds => Aa rfl (Af (Bl rfl <| Ba rfl <| Al rfl <| As rfl hs10)) ?_
        refine Aa rfl (Bp (Ab) Ac rfl (by omega) (by omega)) ?_
        refine Aa rfl (Ae (Ab)) ?_
        refine Ah <| Ad ⟨_, m - 1, Off.eq (D1 rfl <| Ed rfl <| E0 rfl <| Be), by omega, ?_⟩
        exact ⟨k + 1, by omega, (Ab), by rw [Ei, show topStep s lot (fun b => all || inRing ring b) (topTo s lot (fun b => all || inRing ring b) k) k = (k : Int) from if_pos ⟨hl, hm, .inr (by rw [ho]; exact hmo)⟩]; exact (Ao rfl <| Al rfl <| Ab), rfl⟩
       ·
        refine Am (Ab) (decide_eq_false (by rw [Ch hlt, Ch hos]; exact hmo)) ?_
        refine Aw <| Bf <| Ad <| Cc (fun _ _ h => h.drop (.cons _ <| .cons_cons _ <| .refl _)) ?_
        refine Ai fun ds => Aa rfl (Af (Bl rfl <| Az rfl <| Ao rfl <| Al rfl <| As rfl hs10)) ?_
        refine Aa rfl (Bp (Ab) Ac rfl (by omega) (by omega)) ?_
        refine Aa rfl (Ae (Ab)) ?_
        refine Ah <| Ad ⟨_, m - 1, Off.eq (D1 rfl <| Ed rfl <| Eo rfl <| Be), by omega, ?_⟩
        exact ⟨k + 1, by omega, (Ab), by rw [Ei, show topStep s lot (fun b => all || inRing ring b) (topTo s lot (fun b => all || inRing ring b) k) k = (topTo s lot (fun b => all || inRing ring b) k) from if_neg fun h => h.2.2.elim h0 (fun h => hmo (by rw [ho] at h; exact h))]; exact (Bl rfl <| Ba rfl <| Ao rfl <| As rfl hs9), rfl⟩
     ·
      replace hin : inRing ring (s.bid k).bidder = false := by simpa using hin
      refine Ax rfl rfl (Ab) (.inl (congrArg Value.bool (by rw [Ch hlt]; exact hin))) rfl ?_
      refine Ax rfl rfl (Al rfl <| Ab) (.inl (congrArg Value.bool (by rw [Ch hlt]; exact hin))) rfl ?_
      refine Ax rfl rfl (Ao rfl <| Ab) (.inl (congrArg Value.bool (by rw [Ch hlt]; exact hin))) rfl ?_
      refine Ax rfl rfl (Ab) (.inr rfl) rfl ?_
      refine Ax rfl rfl (Al rfl <| Ab) (.inr rfl) rfl ?_
      refine Ax rfl rfl (Ao rfl <| Ab) (.inr rfl) rfl ?_
      refine Ax rfl rfl (Ao rfl <| Al rfl <| Ab) (.inr rfl) rfl ?_
      refine Ax rfl rfl (Az rfl <| Ab) (.inr rfl) rfl ?_
      refine Ax rfl rfl (Az rfl <| Al rfl <| Ab) (.inr rfl) rfl ?_
      refine Ax rfl rfl (Az rfl <| Ao rfl <| Ab) (.inr rfl) rfl ?_
      refine Ax rfl rfl (Az rfl <| Ao rfl <| Al rfl <| Ab) (.inr rfl) rfl ?_
      refine Ax rfl rfl (Ba rfl <| Ab) (.inr rfl) rfl ?_
      refine Ax rfl rfl (Ba rfl <| Az rfl <| Ab) (.inl (congrArg Value.bool (by rw [Ch hlt]; exact hin))) rfl ?_
      refine A0 rfl (A7 (Ba rfl <| Az rfl <| Al rfl <| Ab) (by rw [Ch hlt]; exact hin) Ac) ?_
      refine B9 ?_
      refine Ad <| Am (Ab) rfl ?_
      refine Aw <| Bf <| Ad <| Cc (fun _ _ h => h.drop (.cons _ <| .cons_cons _ <| .refl _)) ?_
      refine Ai fun ds => Aa rfl (Af (Bl rfl <| Az rfl <| Ao rfl <| Al rfl <| As rfl hs10)) ?_
      refine Aa rfl (Bp (Ab) Ac rfl (by omega) (by omega)) ?_
      refine Aa rfl (Ae (Ab)) ?_
      refine Ah <| Ad ⟨_, m - 1, Off.eq (D1 rfl <| Ed rfl <| Eo rfl <| Be), by omega, ?_⟩
      exact ⟨k + 1, by omega, (Ab), by rw [Ei, show topStep s lot (fun b => all || inRing ring b) (topTo s lot (fun b => all || inRing ring b) k) k = (topTo s lot (fun b => all || inRing ring b) k) from if_neg fun h => by have h2 := h.2.1; simp [ha, hin] at h2]; exact (Bl rfl <| Ba rfl <| Ao rfl <| As rfl hs9), rfl⟩
   ·
    refine Aw <| Ad <| Ag <| A4 <| Ag <| Ai fun ds => Aa rfl (Aj Cy (Az rfl <| Al rfl <| Ap rfl <| Ao rfl <| Al rfl <| Ab)) ?_
    refine Aa rfl (Aq Df (Ab) (Cell.own 0 rfl rfl)) ?_
    refine Aa rfl (Af (Az rfl <| Ao rfl <| Al rfl <| As rfl hs10)) ?_
    refine Aa rfl (Bj  Dm (Al rfl <| Ab) hr.bids.plain (Ab) rfl hlt) ?_
    refine Aa rfl (Bh agg_72 (Ab) rfl rfl (hr.bids.whole hlt)) ?_
    refine Bn rfl (B6 zr_72 rfl fun b4 hb4 nb4 => ?_)
    refine Cl (B5 sz_72 (Ab) (Al rfl <| Ab) (i := 0) rfl rfl rfl rfl Bid.enc_one (.here) ?_)
    refine Ah <| Ad <| Ag <| Cb (.inl rfl) (fun _ _ h => h) (by kernel_rfl) (by kernel_rfl) fun ds => ?_
    refine A0 rfl (Aj Fa (Ab)) ?_
    refine A0 rfl (Aq Bi (Ab) (Cell.own 0 rfl rfl)) ?_
    refine A0 rfl (Af (Ba rfl <| Az rfl <| Al rfl <| Ap rfl <| Az rfl <| Ak rfl)) ?_
    refine A0 rfl (B1 (Al rfl <| Ab) (Ab)) ?_
    refine A0 rfl (Af (Ab)) ?_
    refine Ax rfl rfl (Ab) (.inl (congrArg Value.bool (decide_eq_false (by rw [Ch hlt]; exact hl)))) rfl ?_
    refine Ax rfl rfl (Al rfl <| Ab) (.inl (congrArg Value.bool (decide_eq_false (by rw [Ch hlt]; exact hl)))) rfl ?_
    refine Ax rfl rfl (Ab) (.inr rfl) rfl ?_
    refine Ax rfl rfl (Al rfl <| Ab) (.inr rfl) rfl ?_
    refine Ax rfl rfl (Ao rfl <| Ab) (.inr rfl) rfl ?_
    refine Ax rfl rfl (Ao rfl <| Al rfl <| Ab) (.inr rfl) rfl ?_
    refine Ax rfl rfl (Az rfl <| Ao rfl <| Ab) (.inl (congrArg Value.bool (decide_eq_false (by rw [Ch hlt]; exact hl)))) rfl ?_
    refine A0 rfl (A7 (Az rfl <| Ao rfl <| Al rfl <| Ab) (decide_eq_false (by rw [Ch hlt]; exact hl)) Ac) ?_
    refine A0 rfl (Af (Ab)) ?_
    refine Ax rfl rfl (Ab) (.inl (congrArg Value.bool rfl)) rfl ?_
    refine Ax rfl rfl (Al rfl <| Ab) (.inl (congrArg Value.bool rfl)) rfl ?_
    refine Ax rfl rfl (Ao rfl <| Ab) (.inl (congrArg Value.bool rfl)) rfl ?_
    refine Ax rfl rfl (Ab) (.inr rfl) rfl ?_
    refine Ax rfl rfl (Al rfl <| Ab) (.inr rfl) rfl ?_
    refine Ax rfl rfl (Ao rfl <| Ab) (.inr rfl) rfl ?_
    refine Ax rfl rfl (Ao rfl <| Al rfl <| Ab) (.inr rfl) rfl ?_
    refine Ax rfl rfl (Az rfl <| Ab) (.inr rfl) rfl ?_
    refine Ax rfl rfl (Az rfl <| Al rfl <| Ab) (.inr rfl) rfl ?_
    refine Ax rfl rfl (Az rfl <| Ao rfl <| Ab) (.inr rfl) rfl ?_
    refine Ax rfl rfl (Az rfl <| Ao rfl <| Al rfl <| Ab) (.inr rfl) rfl ?_
    refine Ax rfl rfl (Ba rfl <| Ab) (.inr rfl) rfl ?_
    refine Ax rfl rfl (Ba rfl <| Az rfl <| Ab) (.inl (congrArg Value.bool rfl)) rfl ?_
    refine A0 rfl (A7 (Ba rfl <| Az rfl <| Al rfl <| Ab) rfl Ac) ?_
    refine B9 ?_
    refine Ad <| Am (Ab) rfl ?_
    refine Aw <| Bf <| Ad <| Cc (fun _ _ h => h.drop (.cons _ <| .cons_cons _ <| .refl _)) ?_
    refine Ai fun ds => Aa rfl (Af (Bl rfl <| Az rfl <| Ao rfl <| Al rfl <| As rfl hs10)) ?_
    refine Aa rfl (Bp (Ab) Ac rfl (by omega) (by omega)) ?_
    refine Aa rfl (Ae (Ab)) ?_
    refine Ah <| Ad ⟨_, m - 1, Off.eq (D1 rfl <| Ed rfl <| Eo rfl <| Be), by omega, ?_⟩
    exact ⟨k + 1, by omega, (Ab), by rw [Ei, show topStep s lot (fun b => all || inRing ring b) (topTo s lot (fun b => all || inRing ring b) k) k = (topTo s lot (fun b => all || inRing ring b) k) from if_neg fun h => hl h.1]; exact (Bl rfl <| Ba rfl <| Ao rfl <| As rfl hs9), rfl⟩
  ·
   refine Ag <| Ag <| Ai fun ds => Aa rfl (Af (As rfl hs10)) ?_
   refine Aa rfl (Aj Cy (Al rfl <| Ap rfl <| Ao rfl <| Al rfl <| Ab)) ?_
   refine Aa rfl (Aq Df (Ab) (Cell.own 0 rfl rfl)) ?_
   refine Aa rfl (Bg Dm (Ab) hr.bids.plain) ?_
   refine Aa rfl (Bs (Ao rfl <| Al rfl <| Ab) (Ab)) ?_
   refine Ah <| Ad <| Am (Ab) (by first | rfl | exact decide_eq_false (by omega)) ?_
   obtain rfl : k = s.bids.length := by omega
   refine Bv ?_
   refine Bm <| Bm <| Bo <| Ad <| Ag <| Ai fun ds => Aa rfl (Af (Az rfl <| Al rfl <| As rfl hs9)) ?_
   refine Aa rfl (Ae (Ab)) ?_
   refine Ah <| Ad <| A9 <| Ay rfl (.tmp (Ab) .nil) ?_
   rfl
end Go.Proofs.Ytaikojfonleccaa
namespace Go.Proofs.Ytaikojfonleccaa
open Go.RowKit
set_option maxRecDepth 100000 in
theorem refClimb_ok {F : Heap} {vs vb vl vn vd : Value} {s : Sale} (hr : SaleR F vs vb vl vn vd s) (hv : ValidS s) {p0 others most : Int} (h0 : 0 ≤ p0) (hp0 : p0 ≤ most) (ho : 0 ≤ others) (ho2 : others ≤ 100000) (hm2 : most ≤ 100000) : Ok Try.prog 117 [.agg #[vs, .int .i64 s.premium, .int .i64 s.fee, .int .i64 s.days, vb, vl, vn, vd], .int .i64 p0, .int .i64 others, .int .i64 most].toArray F fun r _ => r = .int .i64 (climbS s p0 others most) := by
 refine Ok.intro Try.func117 rfl Try.ntmps117 rfl fun w0 => ?_
 have hL1 := hr.steps.plain.lt
 refine Ag <| Ai fun ds => Bn rfl (Cf (Ak rfl) rfl fun b1 hb1 nb1 => ?_)
 refine Aa rfl (Ae Ac) ?_
 refine Ah <| Ad <| Ag <| Ag <| Ai fun ds => Aa rfl (Ae Ac) ?_
 refine Ah <| Ad <| A4 <| Bz [1, 8, 9, 10, 11, 12, 13, 14, 15, 16, 17, 18, 19, 20, 21, 22, 23, 24, 25, 26, 27, 28, 29, 30, 31, 32, 33, 34, 35, 36, 37, 38, 39, 40, 41, 42, 43, 44, 45, 46, 47, 48, 49, 50, 51, 52, 53, 54, 55, 56, 57, 58, 59, 60, 61, 62, 63, 64, 65, 66, 67, 68, 69, 70, 71, 72, 73, 74, 75, 76, 77, 78, 79, 80, 81, 82, 83, 84, 85] (fun m e σ => ∃ (k : Nat) (p : Int), m + k = s.steps.length ∧ e 9 = .int .i64 (k : Int) ∧ e 1 = .int .i64 p ∧ 0 ≤ p ∧ p ≤ most ∧ climbS s p others most = climbS s p0 others most ∧ (k < s.steps.length → (s.stp k).from_ ≤ p) ∧ (s.steps.length ≤ k → 300000 ≤ p) ∧ σ = ⟨F, [(b1, bx 27 [vs, .int .i64 s.premium, .int .i64 s.fee, .int .i64 s.days, vb, vl, vn, vd])]⟩) (s.steps.length) ?_ ?_
 · exact ⟨0, p0, by omega, (Ab), (Ao rfl <| Al rfl <| Ak rfl), h0, hp0, rfl, fun _ => by rw [hv.st0]; exact h0, fun h => absurd h (by have := hv.nst; omega), rfl⟩
 ·
  rintro m e _ ⟨k, p, hm9, hs9, hs1, h0p, hpm, hcl, hge, hbig, rfl⟩
  by_cases hlt : k < s.steps.length
  ·
   have hfr := hge hlt
   obtain ⟨f1, f2, f3, f4, f5⟩ := step_facts hv hlt
   refine Ag <| Ag <| Ai fun ds => Aa rfl (Af (As rfl hs9)) ?_
   refine Aa rfl (Aj Dh (Al rfl <| Ap rfl <| Ao rfl <| Ab)) ?_
   refine Aa rfl (Aq Dx (Ab) (Cell.own 0 rfl rfl)) ?_
   refine Aa rfl (Bg Dv (Ab) hr.steps.plain) ?_
   refine Aa rfl (Bs (Ao rfl <| Al rfl <| Ab) (Ab)) ?_
   refine Ah <| Ad <| Ar (Ab) (by first | rfl | exact decide_eq_true (by omega)) ?_
   by_cases hk1 : k + 1 < s.steps.length
   ·
    obtain ⟨g1, g2, g3, g4, g5⟩ := step_facts hv hk1
    have hse : stEnd s k = s.steps[k + 1].from_ := (if_pos hk1).trans g5.symm
    refine Aw <| Ad <| Ag <| A4 <| Ag <| Ai fun ds => Aa rfl (Aj Dh (Az rfl <| Al rfl <| Ap rfl <| Ao rfl <| Ab)) ?_
    refine Aa rfl (Aq Dx (Ab) (Cell.own 0 rfl rfl)) ?_
    refine Aa rfl (Af (Az rfl <| Ao rfl <| Al rfl <| As rfl hs9)) ?_
    refine Aa rfl (Bj  Dv (Al rfl <| Ab) hr.steps.plain (Ab) rfl hlt) ?_
    refine Aa rfl (Bx fd_98_1 (Ab)) ?_
    refine Aa rfl (Aq Bi (Ab) (hr.steps.cell hlt rfl)) ?_
    refine Aa rfl (Ae (Ab)) ?_
    refine Aa rfl (Ae Ac) ?_
    refine Ah <| Ad <| Ag <| Ag <| Ai fun ds => Aa rfl (Af (Ba rfl <| Az rfl <| Al rfl <| As rfl hs9)) ?_
    refine Aa rfl (Bp (Ab) Ac rfl (by omega) (by omega)) ?_
    refine Aa rfl (Aj Dh (Ba rfl <| Az rfl <| Ao rfl <| Al rfl <| Ap rfl <| Ao rfl <| Ab)) ?_
    refine Aa rfl (Aq Dx (Ab) (Cell.own 0 rfl rfl)) ?_
    refine Aa rfl (Bg Dv (Ab) hr.steps.plain) ?_
    refine Aa rfl (Bs (Ao rfl <| Al rfl <| Ab) (Ab)) ?_
    refine Ah <| Ad <| Ar (Ab) (decide_eq_true (by omega)) ?_
    by_cases hpe : p < s.steps[k + 1].from_
    ·
     refine Ai fun ds => Aa rfl (Aj Dh (A8 rfl <| Ao rfl <| Al rfl <| Ap rfl <| Ao rfl <| Ab)) ?_
     refine Aa rfl (Aq Dx (Ab) (Cell.own 0 rfl rfl)) ?_
     refine Aa rfl (Af (A8 rfl <| Az rfl <| Al rfl <| As rfl hs9)) ?_
     refine Aa rfl (Bp (Ab) Ac rfl (by omega) (by omega)) ?_
     refine Aa rfl (Bj (k := k + 1) Dv (Ao rfl <| Ab) hr.steps.plain (Ab) rfl hk1) ?_
     refine Aa rfl (Bx Ee (Ab)) ?_
     refine Aa rfl (Aq Bi (Ab) (hr.steps.cell hk1 rfl)) ?_
     refine Aa rfl (Ae (Ab)) ?_
     refine Ah <| Ad <| Ag <| Ag <| Ai fun ds => Aa rfl (Af (A8 rfl <| Ba rfl <| Ao rfl <| Al rfl <| As rfl hs1)) ?_
     refine Aa rfl (Af (Al rfl <| Ab)) ?_
     refine Aa rfl (Dr (Al rfl <| Ab) (Ab)) ?_
     refine Ah <| Ad <| Am (Ab) (decide_eq_false (by omega)) ?_
     by_cases hpo : p ≤ others
     ·
      have hab : abv p others s.steps[k].by_ = (others - p) / s.steps[k].by_ + 1 := if_pos hpo
      have hq0 := Int.ediv_nonneg (show 0 ≤ others - p by omega) (show 0 ≤ s.steps[k].by_ by omega)
      have hq1 := Int.ediv_le_self s.steps[k].by_ (show 0 ≤ others - p by omega)
      refine Aw <| Ad <| Ag <| Ai fun ds => Aa rfl (Ae Ac) ?_
      refine Ah <| Ad <| Ag <| Ag <| Ai fun ds => Aa rfl (Af (A8 rfl <| Ba rfl <| Az rfl <| Ao rfl <| Al rfl <| As rfl hs1)) ?_
      refine Aa rfl (Af (Bl rfl <| Ap rfl <| Ao rfl <| Al rfl <| Ak rfl)) ?_
      refine Aa rfl (Eh (Al rfl <| Ab) (Ab)) ?_
      refine Ah <| Ad <| Ar (Ab) (decide_eq_true hpo) ?_
      obtain ⟨n0, n1, n2, n3, n4, n5, n6⟩ := str_spec2 hv hlt (most := most) hse hab hfr hpm hm2 hpe
      have hq2 := Int.ediv_nonneg (show 0 ≤ s.steps[k + 1].from_ - p + s.steps[k].by_ - 1 by omega) (show 0 ≤ s.steps[k].by_ by omega)
      have hq3 := Int.ediv_le_self s.steps[k].by_ (show 0 ≤ s.steps[k + 1].from_ - p + s.steps[k].by_ - 1 by omega)
      have hq4 := Int.ediv_nonneg (show 0 ≤ most - p by omega) (show 0 ≤ s.steps[k].by_ by omega)
      by_cases hA : min ((others - p) / s.steps[k].by_ + 1) (min ((s.steps[k + 1].from_ - p + s.steps[k].by_ - 1) / s.steps[k].by_) ((most - p) / s.steps[k].by_)) = ((others - p) / s.steps[k].by_ + 1)
      ·
       refine Ai fun ds => Aa rfl (Af (Bl rfl <| Ao rfl <| Ap rfl <| Ao rfl <| Al rfl <| Ak rfl)) ?_
       refine Aa rfl (Af (Bl rfl <| Ao rfl <| Al rfl <| As rfl hs1)) ?_
       refine Aa rfl (Cj (Al rfl <| Ab) (Ab) rfl (by omega) (by omega)) ?_
       refine Aa rfl (Af (A8 rfl <| Ba rfl <| Al rfl <| Ab)) ?_
       refine Aa rfl (Ep (Al rfl <| Ab) (Ab) (by omega) (by omega) (by omega)) ?_
       refine Aa rfl (Bp (Ab) Ac rfl (by omega) (by omega)) ?_
       refine Aa rfl (Ae (Ab)) ?_
       refine Ah <| Ad <| Ag <| Cb (.inl rfl) (fun _ _ h => h) (by kernel_rfl) (by kernel_rfl) fun ds => ?_
       refine A0 rfl (Af (Ba rfl <| Az rfl <| Ao rfl <| Ab)) ?_
       refine A0 rfl (Af (Bl rfl <| Ba rfl <| Ao rfl <| As rfl hs1)) ?_
       refine A0 rfl (Cj (Al rfl <| Ab) (Ab) rfl (by omega) (by omega)) ?_
       refine A0 rfl (Af (Bl rfl <| Ab)) ?_
       refine A0 rfl (Bp (Al rfl <| Ab) (Ab) rfl (by omega) (by omega)) ?_
       refine A0 rfl (Cj (Ab) Ac rfl (by omega) (by omega)) ?_
       refine A0 rfl (Af (Bl rfl <| Ao rfl <| Al rfl <| Ab)) ?_
       refine A0 rfl (Ep (Al rfl <| Ab) (Ab) (by omega) (by omega) (by omega)) ?_
       refine A0 rfl (Af (Bl rfl <| A8 rfl <| Al rfl <| Ap rfl <| Ao rfl <| Al rfl <| Ak rfl)) ?_
       refine A0 rfl (Af (Bl rfl <| A8 rfl <| Ao rfl <| As rfl hs1)) ?_
       refine A0 rfl (Cj (Al rfl <| Ab) (Ab) rfl (by omega) (by omega)) ?_
       refine A0 rfl (Af (Bl rfl <| Ba rfl <| Ab)) ?_
       refine A0 rfl (Ep (Al rfl <| Ab) (Ab) (by omega) (by omega) (by omega)) ?_
       refine A0 rfl (Ae (Az rfl <| Al rfl <| Ab)) ?_
       refine A0 rfl (Ae (Al rfl <| Ab)) ?_
       refine B9 ?_
       refine Ad <| Ag <| Ai fun ds => Aa rfl (Af (Ba rfl <| Az rfl <| Ao rfl <| Al rfl <| Ab)) ?_
       refine Aa rfl (Af (Ao rfl <| Ab)) ?_
       refine Aa rfl (Af (Ao rfl <| Ab)) ?_
       refine Aa rfl (D0 (Al rfl <| Ab) (Ab)) ?_
       refine Aa rfl (D0 (Ao rfl <| Al rfl <| Ab) (Ab)) ?_
       refine Aa rfl (Ae (Ab)) ?_
       refine Ah <| Ad <| Ag <| Ai fun ds => Aa rfl (Af (Bl rfl <| A8 rfl <| Ba rfl <| Az rfl <| Ao rfl <| As rfl hs1)) ?_
       refine Aa rfl (Af (Al rfl <| Ab)) ?_
       refine Aa rfl (Af (Bl rfl <| A8 rfl <| Az rfl <| Ab)) ?_
       refine Aa rfl (q_mul (Al rfl <| Ab) (Ab) (show (min ((others - p) / s.steps[k].by_ + 1) (min ((s.steps[k + 1].from_ - p + s.steps[k].by_ - 1) / s.steps[k].by_) ((most - p) / s.steps[k].by_))) * s.steps[k].by_ = (min ((others - p) / s.steps[k].by_ + 1) (min ((s.steps[k + 1].from_ - p + s.steps[k].by_ - 1) / s.steps[k].by_) ((most - p) / s.steps[k].by_))) * s.steps[k].by_ from rfl) (by omega) (by omega)) ?_
       refine Aa rfl (Bp (Ao rfl <| Al rfl <| Ab) (Ab) rfl (by omega) (by omega)) ?_
       refine Aa rfl (Ae (Ab)) ?_
       refine Ah <| Ad <| Ag <| Ai fun ds => Aa rfl (Af (Az rfl <| Ao rfl <| Ab)) ?_
       refine Aa rfl (Af (A8 rfl <| Ba rfl <| Az rfl <| Ab)) ?_
       refine Aa rfl (B1 (Al rfl <| Ab) (Ab)) ?_
       refine Aa rfl (Af (Ab)) ?_
       refine Au rfl rfl (Ab) (.inl (congrArg Value.bool (decide_eq_true hA))) rfl ?_
       refine Au rfl rfl (Al rfl <| Ab) (.inl (congrArg Value.bool (decide_eq_true hA))) rfl ?_
       refine Au rfl rfl (Ao rfl <| Ab) (.inl (congrArg Value.bool (decide_eq_true hA))) rfl ?_
       refine Aa rfl (A3 (Ao rfl <| Al rfl <| Ab) (decide_eq_true hA) Ac) ?_
       refine Ah <| Ad <| Ar (Ab) rfl ?_
       refine Ag <| Ai fun ds => Aa rfl (Af (Ba rfl <| Ab)) ?_
       refine Aa rfl (Ae (Ab)) ?_
       refine Ah <| Ad <| A9 <| Bd (A6 (A6 (Bd (A6 ?_))))
       refine Ay rfl (.tmp (Ab) .nil) ?_
       show _ = _
       rw [← hcl, n5 (.inl hA)]; rfl
      ·
       refine Ai fun ds => Aa rfl (Af (Bl rfl <| Ao rfl <| Ap rfl <| Ao rfl <| Al rfl <| Ak rfl)) ?_
       refine Aa rfl (Af (Bl rfl <| Ao rfl <| Al rfl <| As rfl hs1)) ?_
       refine Aa rfl (Cj (Al rfl <| Ab) (Ab) rfl (by omega) (by omega)) ?_
       refine Aa rfl (Af (A8 rfl <| Ba rfl <| Al rfl <| Ab)) ?_
       refine Aa rfl (Ep (Al rfl <| Ab) (Ab) (by omega) (by omega) (by omega)) ?_
       refine Aa rfl (Bp (Ab) Ac rfl (by omega) (by omega)) ?_
       refine Aa rfl (Ae (Ab)) ?_
       refine Ah <| Ad <| Ag <| Cb (.inl rfl) (fun _ _ h => h) (by kernel_rfl) (by kernel_rfl) fun ds => ?_
       refine A0 rfl (Af (Ba rfl <| Az rfl <| Ao rfl <| Ab)) ?_
       refine A0 rfl (Af (Bl rfl <| Ba rfl <| Ao rfl <| As rfl hs1)) ?_
       refine A0 rfl (Cj (Al rfl <| Ab) (Ab) rfl (by omega) (by omega)) ?_
       refine A0 rfl (Af (Bl rfl <| Ab)) ?_
       refine A0 rfl (Bp (Al rfl <| Ab) (Ab) rfl (by omega) (by omega)) ?_
       refine A0 rfl (Cj (Ab) Ac rfl (by omega) (by omega)) ?_
       refine A0 rfl (Af (Bl rfl <| Ao rfl <| Al rfl <| Ab)) ?_
       refine A0 rfl (Ep (Al rfl <| Ab) (Ab) (by omega) (by omega) (by omega)) ?_
       refine A0 rfl (Af (Bl rfl <| A8 rfl <| Al rfl <| Ap rfl <| Ao rfl <| Al rfl <| Ak rfl)) ?_
       refine A0 rfl (Af (Bl rfl <| A8 rfl <| Ao rfl <| As rfl hs1)) ?_
       refine A0 rfl (Cj (Al rfl <| Ab) (Ab) rfl (by omega) (by omega)) ?_
       refine A0 rfl (Af (Bl rfl <| Ba rfl <| Ab)) ?_
       refine A0 rfl (Ep (Al rfl <| Ab) (Ab) (by omega) (by omega) (by omega)) ?_
       refine A0 rfl (Ae (Az rfl <| Al rfl <| Ab)) ?_
       refine A0 rfl (Ae (Al rfl <| Ab)) ?_
       refine B9 ?_
       refine Ad <| Ag <| Ai fun ds => Aa rfl (Af (Ba rfl <| Az rfl <| Ao rfl <| Al rfl <| Ab)) ?_
       refine Aa rfl (Af (Ao rfl <| Ab)) ?_
       refine Aa rfl (Af (Ao rfl <| Ab)) ?_
       refine Aa rfl (D0 (Al rfl <| Ab) (Ab)) ?_
       refine Aa rfl (D0 (Ao rfl <| Al rfl <| Ab) (Ab)) ?_
       refine Aa rfl (Ae (Ab)) ?_
       refine Ah <| Ad <| Ag <| Ai fun ds => Aa rfl (Af (Bl rfl <| A8 rfl <| Ba rfl <| Az rfl <| Ao rfl <| As rfl hs1)) ?_
       refine Aa rfl (Af (Al rfl <| Ab)) ?_
       refine Aa rfl (Af (Bl rfl <| A8 rfl <| Az rfl <| Ab)) ?_
       refine Aa rfl (q_mul (Al rfl <| Ab) (Ab) (show (min ((others - p) / s.steps[k].by_ + 1) (min ((s.steps[k + 1].from_ - p + s.steps[k].by_ - 1) / s.steps[k].by_) ((most - p) / s.steps[k].by_))) * s.steps[k].by_ = (min ((others - p) / s.steps[k].by_ + 1) (min ((s.steps[k + 1].from_ - p + s.steps[k].by_ - 1) / s.steps[k].by_) ((most - p) / s.steps[k].by_))) * s.steps[k].by_ from rfl) (by omega) (by omega)) ?_
       refine Aa rfl (Bp (Ao rfl <| Al rfl <| Ab) (Ab) rfl (by omega) (by omega)) ?_
       refine Aa rfl (Ae (Ab)) ?_
       refine Ah <| Ad <| Ag <| Ai fun ds => Aa rfl (Af (Az rfl <| Ao rfl <| Ab)) ?_
       refine Aa rfl (Af (A8 rfl <| Ba rfl <| Az rfl <| Ab)) ?_
       refine Aa rfl (B1 (Al rfl <| Ab) (Ab)) ?_
       refine Aa rfl (Af (Ab)) ?_
       refine At rfl rfl (Ab) (decide_eq_false hA) ?_
       refine Aa rfl (Af (Ba rfl <| Ao rfl <| Ab)) ?_
       refine At rfl rfl (Al rfl <| Ab) (decide_eq_false hA) ?_
       refine Aa rfl (Af (A8 rfl <| Ao rfl <| Ab)) ?_
       refine At rfl rfl (Ao rfl <| Ab) (decide_eq_false hA) ?_
       refine Aa rfl (Bs (Al rfl <| Ab) (Ab)) ?_
       refine Aa rfl (A7 (Ao rfl <| Al rfl <| Ab) (decide_eq_false hA) (Ab)) ?_
       refine Ah <| Ad ?_
       by_cases hB : min ((others - p) / s.steps[k].by_ + 1) (min ((s.steps[k + 1].from_ - p + s.steps[k].by_ - 1) / s.steps[k].by_) ((most - p) / s.steps[k].by_)) < (s.steps[k + 1].from_ - p + s.steps[k].by_ - 1) / s.steps[k].by_
       ·
        refine Ar (Ab) (decide_eq_true hB) ?_
        refine Ag <| Ai fun ds => Aa rfl (Af (Ba rfl <| Ab)) ?_
        refine Aa rfl (Ae (Ab)) ?_
        refine Ah <| Ad <| A9 <| Bd (A6 (A6 (Bd (A6 ?_))))
        refine Ay rfl (.tmp (Ab) .nil) ?_
        show _ = _
        rw [← hcl, n5 (.inr hB)]; rfl
       ·
        refine Am (Ab) (decide_eq_false hB) ?_
        have n7 := n6 hA hB
        refine Aw <| Bf <| Ad <| Ai fun ds => Aa rfl (Af (Bl rfl <| Bl rfl <| Ba rfl <| Az rfl <| As rfl hs9)) ?_
        refine Aa rfl (Bp (Ab) Ac rfl (by omega) (by omega)) ?_
        refine Aa rfl (Ae (Ab)) ?_
        refine Ah <| Ad ⟨_, m - 1, Off.eq (D1 rfl <| D1 rfl <| Ed rfl <| E0 rfl <| Eo rfl <| El rfl <| Be), by omega, ?_⟩
        refine ⟨k + 1, p + (min ((others - p) / s.steps[k].by_ + 1) (min ((s.steps[k + 1].from_ - p + s.steps[k].by_ - 1) / s.steps[k].by_) ((most - p) / s.steps[k].by_))) * s.steps[k].by_, by omega, (Ab), (Ba rfl <| Ao rfl <| Al rfl <| Ab), by omega, n3, by rw [← n4]; exact hcl, ?_, ?_, rfl⟩
        · intro _; omega
        · intro h; omega
     ·
      have hab : abv p others s.steps[k].by_ = 0 := if_neg hpo
      refine Aw <| Ad <| Ag <| Ai fun ds => Aa rfl (Ae Ac) ?_
      refine Ah <| Ad <| Ag <| Ag <| Ai fun ds => Aa rfl (Af (A8 rfl <| Ba rfl <| Az rfl <| Ao rfl <| Al rfl <| As rfl hs1)) ?_
      refine Aa rfl (Af (Bl rfl <| Ap rfl <| Ao rfl <| Al rfl <| Ak rfl)) ?_
      refine Aa rfl (Eh (Al rfl <| Ab) (Ab)) ?_
      refine Ah <| Ad <| Am (Ab) (decide_eq_false hpo) ?_
      obtain ⟨n0, n1, n2, n3, n4, n5, n6⟩ := str_spec2 hv hlt (most := most) hse hab hfr hpm hm2 hpe
      have hq2 := Int.ediv_nonneg (show 0 ≤ s.steps[k + 1].from_ - p + s.steps[k].by_ - 1 by omega) (show 0 ≤ s.steps[k].by_ by omega)
      have hq3 := Int.ediv_le_self s.steps[k].by_ (show 0 ≤ s.steps[k + 1].from_ - p + s.steps[k].by_ - 1 by omega)
      have hq4 := Int.ediv_nonneg (show 0 ≤ most - p by omega) (show 0 ≤ s.steps[k].by_ by omega)
      by_cases hA : min 0 (min ((s.steps[k + 1].from_ - p + s.steps[k].by_ - 1) / s.steps[k].by_) ((most - p) / s.steps[k].by_)) = 0
      ·
       refine Aw <| Ad <| Ag <| Cb (.inl rfl) (fun _ _ h => h) (by kernel_rfl) (by kernel_rfl) fun ds => ?_
       refine A0 rfl (Af (Az rfl <| Ao rfl <| Al rfl <| Ab)) ?_
       refine A0 rfl (Af (Bl rfl <| Ao rfl <| Al rfl <| As rfl hs1)) ?_
       refine A0 rfl (Cj (Al rfl <| Ab) (Ab) rfl (by omega) (by omega)) ?_
       refine A0 rfl (Af (A8 rfl <| Ba rfl <| Al rfl <| Ab)) ?_
       refine A0 rfl (Bp (Al rfl <| Ab) (Ab) rfl (by omega) (by omega)) ?_
       refine A0 rfl (Cj (Ab) Ac rfl (by omega) (by omega)) ?_
       refine A0 rfl (Af (A8 rfl <| Ba rfl <| Az rfl <| Ab)) ?_
       refine A0 rfl (Ep (Al rfl <| Ab) (Ab) (by omega) (by omega) (by omega)) ?_
       refine A0 rfl (Af (Bl rfl <| Ba rfl <| Ao rfl <| Ap rfl <| Ao rfl <| Al rfl <| Ak rfl)) ?_
       refine A0 rfl (Af (Bl rfl <| Ba rfl <| Ao rfl <| Al rfl <| As rfl hs1)) ?_
       refine A0 rfl (Cj (Al rfl <| Ab) (Ab) rfl (by omega) (by omega)) ?_
       refine A0 rfl (Af (Bl rfl <| Al rfl <| Ab)) ?_
       refine A0 rfl (Ep (Al rfl <| Ab) (Ab) (by omega) (by omega) (by omega)) ?_
       refine A0 rfl (Ae (Az rfl <| Al rfl <| Ab)) ?_
       refine A0 rfl (Ae (Al rfl <| Ab)) ?_
       refine B9 ?_
       refine Ad <| Ag <| Ai fun ds => Aa rfl (Af (A8 rfl <| Ao rfl <| Ab)) ?_
       refine Aa rfl (Af (Ao rfl <| Ab)) ?_
       refine Aa rfl (Af (Ao rfl <| Ab)) ?_
       refine Aa rfl (D0 (Al rfl <| Ab) (Ab)) ?_
       refine Aa rfl (D0 (Ao rfl <| Al rfl <| Ab) (Ab)) ?_
       refine Aa rfl (Ae (Ab)) ?_
       refine Ah <| Ad <| Ag <| Ai fun ds => Aa rfl (Af (Bl rfl <| A8 rfl <| Az rfl <| Ao rfl <| Al rfl <| As rfl hs1)) ?_
       refine Aa rfl (Af (Al rfl <| Ab)) ?_
       refine Aa rfl (Af (Bl rfl <| Ba rfl <| Az rfl <| Al rfl <| Ab)) ?_
       refine Aa rfl (q_mul (Al rfl <| Ab) (Ab) (show (min 0 (min ((s.steps[k + 1].from_ - p + s.steps[k].by_ - 1) / s.steps[k].by_) ((most - p) / s.steps[k].by_))) * s.steps[k].by_ = (min 0 (min ((s.steps[k + 1].from_ - p + s.steps[k].by_ - 1) / s.steps[k].by_) ((most - p) / s.steps[k].by_))) * s.steps[k].by_ from rfl) (by omega) (by omega)) ?_
       refine Aa rfl (Bp (Ao rfl <| Al rfl <| Ab) (Ab) rfl (by omega) (by omega)) ?_
       refine Aa rfl (Ae (Ab)) ?_
       refine Ah <| Ad <| Ag <| Ai fun ds => Aa rfl (Af (Az rfl <| Ao rfl <| Ab)) ?_
       refine Aa rfl (Af (A8 rfl <| Ba rfl <| Az rfl <| Ao rfl <| Al rfl <| Ab)) ?_
       refine Aa rfl (B1 (Al rfl <| Ab) (Ab)) ?_
       refine Aa rfl (Af (Ab)) ?_
       refine Au rfl rfl (Ab) (.inl (congrArg Value.bool (decide_eq_true hA))) rfl ?_
       refine Au rfl rfl (Al rfl <| Ab) (.inl (congrArg Value.bool (decide_eq_true hA))) rfl ?_
       refine Au rfl rfl (Ao rfl <| Ab) (.inl (congrArg Value.bool (decide_eq_true hA))) rfl ?_
       refine Aa rfl (A3 (Ao rfl <| Al rfl <| Ab) (decide_eq_true hA) Ac) ?_
       refine Ah <| Ad <| Ar (Ab) rfl ?_
       refine Ag <| Ai fun ds => Aa rfl (Af (Ba rfl <| Ab)) ?_
       refine Aa rfl (Ae (Ab)) ?_
       refine Ah <| Ad <| A9 <| Bd (A6 (A6 (Bd (A6 ?_))))
       refine Ay rfl (.tmp (Ab) .nil) ?_
       show _ = _
       rw [← hcl, n5 (.inl hA)]; rfl
      ·
       refine Aw <| Ad <| Ag <| Cb (.inl rfl) (fun _ _ h => h) (by kernel_rfl) (by kernel_rfl) fun ds => ?_
       refine A0 rfl (Af (Az rfl <| Ao rfl <| Al rfl <| Ab)) ?_
       refine A0 rfl (Af (Bl rfl <| Ao rfl <| Al rfl <| As rfl hs1)) ?_
       refine A0 rfl (Cj (Al rfl <| Ab) (Ab) rfl (by omega) (by omega)) ?_
       refine A0 rfl (Af (A8 rfl <| Ba rfl <| Al rfl <| Ab)) ?_
       refine A0 rfl (Bp (Al rfl <| Ab) (Ab) rfl (by omega) (by omega)) ?_
       refine A0 rfl (Cj (Ab) Ac rfl (by omega) (by omega)) ?_
       refine A0 rfl (Af (A8 rfl <| Ba rfl <| Az rfl <| Ab)) ?_
       refine A0 rfl (Ep (Al rfl <| Ab) (Ab) (by omega) (by omega) (by omega)) ?_
       refine A0 rfl (Af (Bl rfl <| Ba rfl <| Ao rfl <| Ap rfl <| Ao rfl <| Al rfl <| Ak rfl)) ?_
       refine A0 rfl (Af (Bl rfl <| Ba rfl <| Ao rfl <| Al rfl <| As rfl hs1)) ?_
       refine A0 rfl (Cj (Al rfl <| Ab) (Ab) rfl (by omega) (by omega)) ?_
       refine A0 rfl (Af (Bl rfl <| Al rfl <| Ab)) ?_
       refine A0 rfl (Ep (Al rfl <| Ab) (Ab) (by omega) (by omega) (by omega)) ?_
       refine A0 rfl (Ae (Az rfl <| Al rfl <| Ab)) ?_
       refine A0 rfl (Ae (Al rfl <| Ab)) ?_
       refine B9 ?_
       refine Ad <| Ag <| Ai fun ds => Aa rfl (Af (A8 rfl <| Ao rfl <| Ab)) ?_
       refine Aa rfl (Af (Ao rfl <| Ab)) ?_
       refine Aa rfl (Af (Ao rfl <| Ab)) ?_
       refine Aa rfl (D0 (Al rfl <| Ab) (Ab)) ?_
       refine Aa rfl (D0 (Ao rfl <| Al rfl <| Ab) (Ab)) ?_
       refine Aa rfl (Ae (Ab)) ?_
       refine Ah <| Ad <| Ag <| Ai fun ds => Aa rfl (Af (Bl rfl <| A8 rfl <| Az rfl <| Ao rfl <| Al rfl <| As rfl hs1)) ?_
       refine Aa rfl (Af (Al rfl <| Ab)) ?_
       refine Aa rfl (Af (Bl rfl <| Ba rfl <| Az rfl <| Al rfl <| Ab)) ?_
       refine Aa rfl (q_mul (Al rfl <| Ab) (Ab) (show (min 0 (min ((s.steps[k + 1].from_ - p + s.steps[k].by_ - 1) / s.steps[k].by_) ((most - p) / s.steps[k].by_))) * s.steps[k].by_ = (min 0 (min ((s.steps[k + 1].from_ - p + s.steps[k].by_ - 1) / s.steps[k].by_) ((most - p) / s.steps[k].by_))) * s.steps[k].by_ from rfl) (by omega) (by omega)) ?_
       refine Aa rfl (Bp (Ao rfl <| Al rfl <| Ab) (Ab) rfl (by omega) (by omega)) ?_
       refine Aa rfl (Ae (Ab)) ?_
       refine Ah <| Ad <| Ag <| Ai fun ds => Aa rfl (Af (Az rfl <| Ao rfl <| Ab)) ?_
       refine Aa rfl (Af (A8 rfl <| Ba rfl <| Az rfl <| Ao rfl <| Al rfl <| Ab)) ?_
       refine Aa rfl (B1 (Al rfl <| Ab) (Ab)) ?_
       refine Aa rfl (Af (Ab)) ?_
       refine At rfl rfl (Ab) (decide_eq_false hA) ?_
       refine Aa rfl (Af (Ba rfl <| Ao rfl <| Ab)) ?_
       refine At rfl rfl (Al rfl <| Ab) (decide_eq_false hA) ?_
       refine Aa rfl (Af (A8 rfl <| Ao rfl <| Ab)) ?_
       refine At rfl rfl (Ao rfl <| Ab) (decide_eq_false hA) ?_
       refine Aa rfl (Bs (Al rfl <| Ab) (Ab)) ?_
       refine Aa rfl (A7 (Ao rfl <| Al rfl <| Ab) (decide_eq_false hA) (Ab)) ?_
       refine Ah <| Ad ?_
       by_cases hB : min 0 (min ((s.steps[k + 1].from_ - p + s.steps[k].by_ - 1) / s.steps[k].by_) ((most - p) / s.steps[k].by_)) < (s.steps[k + 1].from_ - p + s.steps[k].by_ - 1) / s.steps[k].by_
       ·
        refine Ar (Ab) (decide_eq_true hB) ?_
        refine Ag <| Ai fun ds => Aa rfl (Af (Ba rfl <| Ab)) ?_
        refine Aa rfl (Ae (Ab)) ?_
        refine Ah <| Ad <| A9 <| Bd (A6 (A6 (Bd (A6 ?_))))
        refine Ay rfl (.tmp (Ab) .nil) ?_
        show _ = _
        rw [← hcl, n5 (.inr hB)]; rfl
       ·
        refine Am (Ab) (decide_eq_false hB) ?_
        have n7 := n6 hA hB
        refine Aw <| Bf <| Ad <| Ai fun ds => Aa rfl (Af (Bl rfl <| Bl rfl <| Az rfl <| Al rfl <| As rfl hs9)) ?_
        refine Aa rfl (Bp (Ab) Ac rfl (by omega) (by omega)) ?_
        refine Aa rfl (Ae (Ab)) ?_
        refine Ah <| Ad ⟨_, m - 1, Off.eq (D1 rfl <| D1 rfl <| Ed rfl <| Be), by omega, ?_⟩
        refine ⟨k + 1, p + (min 0 (min ((s.steps[k + 1].from_ - p + s.steps[k].by_ - 1) / s.steps[k].by_) ((most - p) / s.steps[k].by_))) * s.steps[k].by_, by omega, (Ab), (Ba rfl <| Ao rfl <| Al rfl <| Ab), by omega, n3, by rw [← n4]; exact hcl, ?_, ?_, rfl⟩
        · intro _; omega
        · intro h; omega
    ·
     refine Ai fun ds => Aa rfl (Aj Dh (A8 rfl <| Ao rfl <| Al rfl <| Ap rfl <| Ao rfl <| Ab)) ?_
     refine Aa rfl (Aq Dx (Ab) (Cell.own 0 rfl rfl)) ?_
     refine Aa rfl (Af (A8 rfl <| Az rfl <| Al rfl <| As rfl hs9)) ?_
     refine Aa rfl (Bp (Ab) Ac rfl (by omega) (by omega)) ?_
     refine Aa rfl (Bj (k := k + 1) Dv (Ao rfl <| Ab) hr.steps.plain (Ab) rfl hk1) ?_
     refine Aa rfl (Bx Ee (Ab)) ?_
     refine Aa rfl (Aq Bi (Ab) (hr.steps.cell hk1 rfl)) ?_
     refine Aa rfl (Ae (Ab)) ?_
     refine Ah <| Ad <| Ag <| Ag <| Ai fun ds => Aa rfl (Af (A8 rfl <| Ba rfl <| Ao rfl <| Al rfl <| As rfl hs1)) ?_
     refine Aa rfl (Af (Al rfl <| Ab)) ?_
     refine Aa rfl (Dr (Al rfl <| Ab) (Ab)) ?_
     refine Ah <| Ad <| Ar (Ab) (decide_eq_true (by omega)) ?_
     refine Bv ?_
     refine Bm (Bo ?_)
     refine Ad <| Ai fun ds => Aa rfl (Af (A8 rfl <| Ba rfl <| Az rfl <| Ao rfl <| As rfl hs9)) ?_
     refine Aa rfl (Bp (Ab) Ac rfl (by omega) (by omega)) ?_
     refine Aa rfl (Ae (Ab)) ?_
     refine Ah <| Ad ⟨_, m - 1, Off.eq (D1 rfl <| El rfl <| Be), by omega, ?_⟩
     refine ⟨k + 1, p, by omega, (Ab), (Bl rfl <| Al rfl <| As rfl hs1), h0p, hpm, hcl, ?_, ?_, rfl⟩
     · intro _; omega
     · intro h; omega
   ·
    have hse : stEnd s k = 300000 := if_neg hk1
    refine Aw <| Ad <| Ag <| A4 <| Ag <| Ai fun ds => Aa rfl (Aj Dh (Az rfl <| Al rfl <| Ap rfl <| Ao rfl <| Ab)) ?_
    refine Aa rfl (Aq Dx (Ab) (Cell.own 0 rfl rfl)) ?_
    refine Aa rfl (Af (Az rfl <| Ao rfl <| Al rfl <| As rfl hs9)) ?_
    refine Aa rfl (Bj  Dv (Al rfl <| Ab) hr.steps.plain (Ab) rfl hlt) ?_
    refine Aa rfl (Bx fd_98_1 (Ab)) ?_
    refine Aa rfl (Aq Bi (Ab) (hr.steps.cell hlt rfl)) ?_
    refine Aa rfl (Ae (Ab)) ?_
    refine Aa rfl (Ae Ac) ?_
    refine Ah <| Ad <| Ag <| Ag <| Ai fun ds => Aa rfl (Af (Ba rfl <| Az rfl <| Al rfl <| As rfl hs9)) ?_
    refine Aa rfl (Bp (Ab) Ac rfl (by omega) (by omega)) ?_
    refine Aa rfl (Aj Dh (Ba rfl <| Az rfl <| Ao rfl <| Al rfl <| Ap rfl <| Ao rfl <| Ab)) ?_
    refine Aa rfl (Aq Dx (Ab) (Cell.own 0 rfl rfl)) ?_
    refine Aa rfl (Bg Dv (Ab) hr.steps.plain) ?_
    refine Aa rfl (Bs (Ao rfl <| Al rfl <| Ab) (Ab)) ?_
    refine Ah <| Ad <| Am (Ab) (decide_eq_false (by omega)) ?_
    by_cases hpe : p < 300000
    ·
     refine Aw <| Ad <| Ag <| Ag <| Ai fun ds => Aa rfl (Af (A8 rfl <| Ao rfl <| Al rfl <| As rfl hs1)) ?_
     refine Aa rfl (Af (Az rfl <| Ao rfl <| Al rfl <| Ab)) ?_
     refine Aa rfl (Dr (Al rfl <| Ab) (Ab)) ?_
     refine Ah <| Ad <| Am (Ab) (decide_eq_false (by omega)) ?_
     by_cases hpo : p ≤ others
     ·
      have hab : abv p others s.steps[k].by_ = (others - p) / s.steps[k].by_ + 1 := if_pos hpo
      have hq0 := Int.ediv_nonneg (show 0 ≤ others - p by omega) (show 0 ≤ s.steps[k].by_ by omega)
      have hq1 := Int.ediv_le_self s.steps[k].by_ (show 0 ≤ others - p by omega)
      refine Aw <| Ad <| Ag <| Ai fun ds => Aa rfl (Ae Ac) ?_
      refine Ah <| Ad <| Ag <| Ag <| Ai fun ds => Aa rfl (Af (A8 rfl <| Az rfl <| Ao rfl <| Al rfl <| As rfl hs1)) ?_
      refine Aa rfl (Af (A8 rfl <| Ba rfl <| Ap rfl <| Ao rfl <| Al rfl <| Ak rfl)) ?_
      refine Aa rfl (Eh (Al rfl <| Ab) (Ab)) ?_
      refine Ah <| Ad <| Ar (Ab) (decide_eq_true hpo) ?_
      obtain ⟨n0, n1, n2, n3, n4, n5, n6⟩ := str_spec2 hv hlt (most := most) hse hab hfr hpm hm2 hpe
      have hq2 := Int.ediv_nonneg (show 0 ≤ 300000 - p + s.steps[k].by_ - 1 by omega) (show 0 ≤ s.steps[k].by_ by omega)
      have hq3 := Int.ediv_le_self s.steps[k].by_ (show 0 ≤ 300000 - p + s.steps[k].by_ - 1 by omega)
      have hq4 := Int.ediv_nonneg (show 0 ≤ most - p by omega) (show 0 ≤ s.steps[k].by_ by omega)
      by_cases hA : min ((others - p) / s.steps[k].by_ + 1) (min ((300000 - p + s.steps[k].by_ - 1) / s.steps[k].by_) ((most - p) / s.steps[k].by_)) = ((others - p) / s.steps[k].by_ + 1)
      ·
       refine Ai fun ds => Aa rfl (Af (A8 rfl <| Ba rfl <| Ao rfl <| Ap rfl <| Ao rfl <| Al rfl <| Ak rfl)) ?_
       refine Aa rfl (Af (A8 rfl <| Ba rfl <| Ao rfl <| Al rfl <| As rfl hs1)) ?_
       refine Aa rfl (Cj (Al rfl <| Ab) (Ab) rfl (by omega) (by omega)) ?_
       refine Aa rfl (Af (A8 rfl <| Al rfl <| Ab)) ?_
       refine Aa rfl (Ep (Al rfl <| Ab) (Ab) (by omega) (by omega) (by omega)) ?_
       refine Aa rfl (Bp (Ab) Ac rfl (by omega) (by omega)) ?_
       refine Aa rfl (Ae (Ab)) ?_
       refine Ah <| Ad <| Ag <| Cb (.inl rfl) (fun _ _ h => h) (by kernel_rfl) (by kernel_rfl) fun ds => ?_
       refine A0 rfl (Af (A8 rfl <| Az rfl <| Ab)) ?_
       refine A0 rfl (Af (Bl rfl <| Ao rfl <| As rfl hs1)) ?_
       refine A0 rfl (Cj (Al rfl <| Ab) (Ab) rfl (by omega) (by omega)) ?_
       refine A0 rfl (Af (A8 rfl <| Ba rfl <| Ab)) ?_
       refine A0 rfl (Bp (Al rfl <| Ab) (Ab) rfl (by omega) (by omega)) ?_
       refine A0 rfl (Cj (Ab) Ac rfl (by omega) (by omega)) ?_
       refine A0 rfl (Af (A8 rfl <| Ba rfl <| Ao rfl <| Al rfl <| Ab)) ?_
       refine A0 rfl (Ep (Al rfl <| Ab) (Ab) (by omega) (by omega) (by omega)) ?_
       refine A0 rfl (Af (Bl rfl <| Ba rfl <| Al rfl <| Ap rfl <| Ao rfl <| Al rfl <| Ak rfl)) ?_
       refine A0 rfl (Af (Bl rfl <| Ba rfl <| Ao rfl <| As rfl hs1)) ?_
       refine A0 rfl (Cj (Al rfl <| Ab) (Ab) rfl (by omega) (by omega)) ?_
       refine A0 rfl (Af (Bl rfl <| Ab)) ?_
       refine A0 rfl (Ep (Al rfl <| Ab) (Ab) (by omega) (by omega) (by omega)) ?_
       refine A0 rfl (Ae (Az rfl <| Al rfl <| Ab)) ?_
       refine A0 rfl (Ae (Al rfl <| Ab)) ?_
       refine B9 ?_
       refine Ad <| Ag <| Ai fun ds => Aa rfl (Af (Ba rfl <| Az rfl <| Ao rfl <| Al rfl <| Ab)) ?_
       refine Aa rfl (Af (Ao rfl <| Ab)) ?_
       refine Aa rfl (Af (Ao rfl <| Ab)) ?_
       refine Aa rfl (D0 (Al rfl <| Ab) (Ab)) ?_
       refine Aa rfl (D0 (Ao rfl <| Al rfl <| Ab) (Ab)) ?_
       refine Aa rfl (Ae (Ab)) ?_
       refine Ah <| Ad <| Ag <| Ai fun ds => Aa rfl (Af (Bl rfl <| A8 rfl <| Az rfl <| Ao rfl <| As rfl hs1)) ?_
       refine Aa rfl (Af (Al rfl <| Ab)) ?_
       refine Aa rfl (Af (Bl rfl <| Ba rfl <| Az rfl <| Ab)) ?_
       refine Aa rfl (q_mul (Al rfl <| Ab) (Ab) (show (min ((others - p) / s.steps[k].by_ + 1) (min ((300000 - p + s.steps[k].by_ - 1) / s.steps[k].by_) ((most - p) / s.steps[k].by_))) * s.steps[k].by_ = (min ((others - p) / s.steps[k].by_ + 1) (min ((300000 - p + s.steps[k].by_ - 1) / s.steps[k].by_) ((most - p) / s.steps[k].by_))) * s.steps[k].by_ from rfl) (by omega) (by omega)) ?_
       refine Aa rfl (Bp (Ao rfl <| Al rfl <| Ab) (Ab) rfl (by omega) (by omega)) ?_
       refine Aa rfl (Ae (Ab)) ?_
       refine Ah <| Ad <| Ag <| Ai fun ds => Aa rfl (Af (Az rfl <| Ao rfl <| Ab)) ?_
       refine Aa rfl (Af (A8 rfl <| Ba rfl <| Az rfl <| Ab)) ?_
       refine Aa rfl (B1 (Al rfl <| Ab) (Ab)) ?_
       refine Aa rfl (Af (Ab)) ?_
       refine Au rfl rfl (Ab) (.inl (congrArg Value.bool (decide_eq_true hA))) rfl ?_
       refine Au rfl rfl (Al rfl <| Ab) (.inl (congrArg Value.bool (decide_eq_true hA))) rfl ?_
       refine Au rfl rfl (Ao rfl <| Ab) (.inl (congrArg Value.bool (decide_eq_true hA))) rfl ?_
       refine Aa rfl (A3 (Ao rfl <| Al rfl <| Ab) (decide_eq_true hA) Ac) ?_
       refine Ah <| Ad <| Ar (Ab) rfl ?_
       refine Ag <| Ai fun ds => Aa rfl (Af (Ba rfl <| Ab)) ?_
       refine Aa rfl (Ae (Ab)) ?_
       refine Ah <| Ad <| A9 <| Bd (A6 (A6 (Bd (A6 ?_))))
       refine Ay rfl (.tmp (Ab) .nil) ?_
       show _ = _
       rw [← hcl, n5 (.inl hA)]; rfl
      ·
       refine Ai fun ds => Aa rfl (Af (A8 rfl <| Ba rfl <| Ao rfl <| Ap rfl <| Ao rfl <| Al rfl <| Ak rfl)) ?_
       refine Aa rfl (Af (A8 rfl <| Ba rfl <| Ao rfl <| Al rfl <| As rfl hs1)) ?_
       refine Aa rfl (Cj (Al rfl <| Ab) (Ab) rfl (by omega) (by omega)) ?_
       refine Aa rfl (Af (A8 rfl <| Al rfl <| Ab)) ?_
       refine Aa rfl (Ep (Al rfl <| Ab) (Ab) (by omega) (by omega) (by omega)) ?_
       refine Aa rfl (Bp (Ab) Ac rfl (by omega) (by omega)) ?_
       refine Aa rfl (Ae (Ab)) ?_
       refine Ah <| Ad <| Ag <| Cb (.inl rfl) (fun _ _ h => h) (by kernel_rfl) (by kernel_rfl) fun ds => ?_
       refine A0 rfl (Af (A8 rfl <| Az rfl <| Ab)) ?_
       refine A0 rfl (Af (Bl rfl <| Ao rfl <| As rfl hs1)) ?_
       refine A0 rfl (Cj (Al rfl <| Ab) (Ab) rfl (by omega) (by omega)) ?_
       refine A0 rfl (Af (A8 rfl <| Ba rfl <| Ab)) ?_
       refine A0 rfl (Bp (Al rfl <| Ab) (Ab) rfl (by omega) (by omega)) ?_
       refine A0 rfl (Cj (Ab) Ac rfl (by omega) (by omega)) ?_
       refine A0 rfl (Af (A8 rfl <| Ba rfl <| Ao rfl <| Al rfl <| Ab)) ?_
       refine A0 rfl (Ep (Al rfl <| Ab) (Ab) (by omega) (by omega) (by omega)) ?_
       refine A0 rfl (Af (Bl rfl <| Ba rfl <| Al rfl <| Ap rfl <| Ao rfl <| Al rfl <| Ak rfl)) ?_
       refine A0 rfl (Af (Bl rfl <| Ba rfl <| Ao rfl <| As rfl hs1)) ?_
       refine A0 rfl (Cj (Al rfl <| Ab) (Ab) rfl (by omega) (by omega)) ?_
       refine A0 rfl (Af (Bl rfl <| Ab)) ?_
       refine A0 rfl (Ep (Al rfl <| Ab) (Ab) (by omega) (by omega) (by omega)) ?_
       refine A0 rfl (Ae (Az rfl <| Al rfl <| Ab)) ?_
       refine A0 rfl (Ae (Al rfl <| Ab)) ?_
       refine B9 ?_
       refine Ad <| Ag <| Ai fun ds => Aa rfl (Af (Ba rfl <| Az rfl <| Ao rfl <| Al rfl <| Ab)) ?_
       refine Aa rfl (Af (Ao rfl <| Ab)) ?_
       refine Aa rfl (Af (Ao rfl <| Ab)) ?_
       refine Aa rfl (D0 (Al rfl <| Ab) (Ab)) ?_
       refine Aa rfl (D0 (Ao rfl <| Al rfl <| Ab) (Ab)) ?_
       refine Aa rfl (Ae (Ab)) ?_
       refine Ah <| Ad <| Ag <| Ai fun ds => Aa rfl (Af (Bl rfl <| A8 rfl <| Az rfl <| Ao rfl <| As rfl hs1)) ?_
       refine Aa rfl (Af (Al rfl <| Ab)) ?_
       refine Aa rfl (Af (Bl rfl <| Ba rfl <| Az rfl <| Ab)) ?_
       refine Aa rfl (q_mul (Al rfl <| Ab) (Ab) (show (min ((others - p) / s.steps[k].by_ + 1) (min ((300000 - p + s.steps[k].by_ - 1) / s.steps[k].by_) ((most - p) / s.steps[k].by_))) * s.steps[k].by_ = (min ((others - p) / s.steps[k].by_ + 1) (min ((300000 - p + s.steps[k].by_ - 1) / s.steps[k].by_) ((most - p) / s.steps[k].by_))) * s.steps[k].by_ from rfl) (by omega) (by omega)) ?_
       refine Aa rfl (Bp (Ao rfl <| Al rfl <| Ab) (Ab) rfl (by omega) (by omega)) ?_
       refine Aa rfl (Ae (Ab)) ?_
       refine Ah <| Ad <| Ag <| Ai fun ds => Aa rfl (Af (Az rfl <| Ao rfl <| Ab)) ?_
       refine Aa rfl (Af (A8 rfl <| Ba rfl <| Az rfl <| Ab)) ?_
       refine Aa rfl (B1 (Al rfl <| Ab) (Ab)) ?_
       refine Aa rfl (Af (Ab)) ?_
       refine At rfl rfl (Ab) (decide_eq_false hA) ?_
       refine Aa rfl (Af (Ba rfl <| Ao rfl <| Ab)) ?_
       refine At rfl rfl (Al rfl <| Ab) (decide_eq_false hA) ?_
       refine Aa rfl (Af (A8 rfl <| Ao rfl <| Ab)) ?_
       refine At rfl rfl (Ao rfl <| Ab) (decide_eq_false hA) ?_
       refine Aa rfl (Bs (Al rfl <| Ab) (Ab)) ?_
       refine Aa rfl (A7 (Ao rfl <| Al rfl <| Ab) (decide_eq_false hA) (Ab)) ?_
       refine Ah <| Ad ?_
       by_cases hB : min ((others - p) / s.steps[k].by_ + 1) (min ((300000 - p + s.steps[k].by_ - 1) / s.steps[k].by_) ((most - p) / s.steps[k].by_)) < (300000 - p + s.steps[k].by_ - 1) / s.steps[k].by_
       ·
        refine Ar (Ab) (decide_eq_true hB) ?_
        refine Ag <| Ai fun ds => Aa rfl (Af (Ba rfl <| Ab)) ?_
        refine Aa rfl (Ae (Ab)) ?_
        refine Ah <| Ad <| A9 <| Bd (A6 (A6 (Bd (A6 ?_))))
        refine Ay rfl (.tmp (Ab) .nil) ?_
        show _ = _
        rw [← hcl, n5 (.inr hB)]; rfl
       ·
        refine Am (Ab) (decide_eq_false hB) ?_
        have n7 := n6 hA hB
        refine Aw <| Bf <| Ad <| Ai fun ds => Aa rfl (Af (Bl rfl <| Bl rfl <| Az rfl <| As rfl hs9)) ?_
        refine Aa rfl (Bp (Ab) Ac rfl (by omega) (by omega)) ?_
        refine Aa rfl (Ae (Ab)) ?_
        refine Ah <| Ad ⟨_, m - 1, Off.eq (D1 rfl <| D1 rfl <| E0 rfl <| Eo rfl <| El rfl <| Be), by omega, ?_⟩
        refine ⟨k + 1, p + (min ((others - p) / s.steps[k].by_ + 1) (min ((300000 - p + s.steps[k].by_ - 1) / s.steps[k].by_) ((most - p) / s.steps[k].by_))) * s.steps[k].by_, by omega, (Ab), (Ba rfl <| Ao rfl <| Al rfl <| Ab), by omega, n3, by rw [← n4]; exact hcl, ?_, ?_, rfl⟩
        · intro h; exact absurd h hk1
        · intro _; exact n7
     ·
      have hab : abv p others s.steps[k].by_ = 0 := if_neg hpo
      refine Aw <| Ad <| Ag <| Ai fun ds => Aa rfl (Ae Ac) ?_
      refine Ah <| Ad <| Ag <| Ag <| Ai fun ds => Aa rfl (Af (A8 rfl <| Az rfl <| Ao rfl <| Al rfl <| As rfl hs1)) ?_
      refine Aa rfl (Af (A8 rfl <| Ba rfl <| Ap rfl <| Ao rfl <| Al rfl <| Ak rfl)) ?_
      refine Aa rfl (Eh (Al rfl <| Ab) (Ab)) ?_
      refine Ah <| Ad <| Am (Ab) (decide_eq_false hpo) ?_
      obtain ⟨n0, n1, n2, n3, n4, n5, n6⟩ := str_spec2 hv hlt (most := most) hse hab hfr hpm hm2 hpe
      have hq2 := Int.ediv_nonneg (show 0 ≤ 300000 - p + s.steps[k].by_ - 1 by omega) (show 0 ≤ s.steps[k].by_ by omega)
      have hq3 := Int.ediv_le_self s.steps[k].by_ (show 0 ≤ 300000 - p + s.steps[k].by_ - 1 by omega)
      have hq4 := Int.ediv_nonneg (show 0 ≤ most - p by omega) (show 0 ≤ s.steps[k].by_ by omega)
      by_cases hA : min 0 (min ((300000 - p + s.steps[k].by_ - 1) / s.steps[k].by_) ((most - p) / s.steps[k].by_)) = 0
      ·
       refine Aw <| Ad <| Ag <| Cb (.inl rfl) (fun _ _ h => h) (by kernel_rfl) (by kernel_rfl) fun ds => ?_
       refine A0 rfl (Af (Ba rfl <| Az rfl <| Al rfl <| Ab)) ?_
       refine A0 rfl (Af (A8 rfl <| Ba rfl <| Ao rfl <| Al rfl <| As rfl hs1)) ?_
       refine A0 rfl (Cj (Al rfl <| Ab) (Ab) rfl (by omega) (by omega)) ?_
       refine A0 rfl (Af (A8 rfl <| Al rfl <| Ab)) ?_
       refine A0 rfl (Bp (Al rfl <| Ab) (Ab) rfl (by omega) (by omega)) ?_
       refine A0 rfl (Cj (Ab) Ac rfl (by omega) (by omega)) ?_
       refine A0 rfl (Af (A8 rfl <| Az rfl <| Ab)) ?_
       refine A0 rfl (Ep (Al rfl <| Ab) (Ab) (by omega) (by omega) (by omega)) ?_
       refine A0 rfl (Af (Bl rfl <| Ao rfl <| Ap rfl <| Ao rfl <| Al rfl <| Ak rfl)) ?_
       refine A0 rfl (Af (Bl rfl <| Ao rfl <| Al rfl <| As rfl hs1)) ?_
       refine A0 rfl (Cj (Al rfl <| Ab) (Ab) rfl (by omega) (by omega)) ?_
       refine A0 rfl (Af (A8 rfl <| Ba rfl <| Al rfl <| Ab)) ?_
       refine A0 rfl (Ep (Al rfl <| Ab) (Ab) (by omega) (by omega) (by omega)) ?_
       refine A0 rfl (Ae (Az rfl <| Al rfl <| Ab)) ?_
       refine A0 rfl (Ae (Al rfl <| Ab)) ?_
       refine B9 ?_
       refine Ad <| Ag <| Ai fun ds => Aa rfl (Af (A8 rfl <| Ao rfl <| Ab)) ?_
       refine Aa rfl (Af (Ao rfl <| Ab)) ?_
       refine Aa rfl (Af (Ao rfl <| Ab)) ?_
       refine Aa rfl (D0 (Al rfl <| Ab) (Ab)) ?_
       refine Aa rfl (D0 (Ao rfl <| Al rfl <| Ab) (Ab)) ?_
       refine Aa rfl (Ae (Ab)) ?_
       refine Ah <| Ad <| Ag <| Ai fun ds => Aa rfl (Af (Bl rfl <| Ba rfl <| Az rfl <| Ao rfl <| Al rfl <| As rfl hs1)) ?_
       refine Aa rfl (Af (Al rfl <| Ab)) ?_
       refine Aa rfl (Af (Bl rfl <| Az rfl <| Al rfl <| Ab)) ?_
       refine Aa rfl (q_mul (Al rfl <| Ab) (Ab) (show (min 0 (min ((300000 - p + s.steps[k].by_ - 1) / s.steps[k].by_) ((most - p) / s.steps[k].by_))) * s.steps[k].by_ = (min 0 (min ((300000 - p + s.steps[k].by_ - 1) / s.steps[k].by_) ((most - p) / s.steps[k].by_))) * s.steps[k].by_ from rfl) (by omega) (by omega)) ?_
       refine Aa rfl (Bp (Ao rfl <| Al rfl <| Ab) (Ab) rfl (by omega) (by omega)) ?_
       refine Aa rfl (Ae (Ab)) ?_
       refine Ah <| Ad <| Ag <| Ai fun ds => Aa rfl (Af (Az rfl <| Ao rfl <| Ab)) ?_
       refine Aa rfl (Af (A8 rfl <| Ba rfl <| Az rfl <| Ao rfl <| Al rfl <| Ab)) ?_
       refine Aa rfl (B1 (Al rfl <| Ab) (Ab)) ?_
       refine Aa rfl (Af (Ab)) ?_
       refine Au rfl rfl (Ab) (.inl (congrArg Value.bool (decide_eq_true hA))) rfl ?_
       refine Au rfl rfl (Al rfl <| Ab) (.inl (congrArg Value.bool (decide_eq_true hA))) rfl ?_
       refine Au rfl rfl (Ao rfl <| Ab) (.inl (congrArg Value.bool (decide_eq_true hA))) rfl ?_
       refine Aa rfl (A3 (Ao rfl <| Al rfl <| Ab) (decide_eq_true hA) Ac) ?_
       refine Ah <| Ad <| Ar (Ab) rfl ?_
       refine Ag <| Ai fun ds => Aa rfl (Af (Ba rfl <| Ab)) ?_
       refine Aa rfl (Ae (Ab)) ?_
       refine Ah <| Ad <| A9 <| Bd (A6 (A6 (Bd (A6 ?_))))
       refine Ay rfl (.tmp (Ab) .nil) ?_
       show _ = _
       rw [← hcl, n5 (.inl hA)]; rfl
      ·
       refine Aw <| Ad <| Ag <| Cb (.inl rfl) (fun _ _ h => h) (by kernel_rfl) (by kernel_rfl) fun ds => ?_
       refine A0 rfl (Af (Ba rfl <| Az rfl <| Al rfl <| Ab)) ?_
       refine A0 rfl (Af (A8 rfl <| Ba rfl <| Ao rfl <| Al rfl <| As rfl hs1)) ?_
       refine A0 rfl (Cj (Al rfl <| Ab) (Ab) rfl (by omega) (by omega)) ?_
       refine A0 rfl (Af (A8 rfl <| Al rfl <| Ab)) ?_
       refine A0 rfl (Bp (Al rfl <| Ab) (Ab) rfl (by omega) (by omega)) ?_
       refine A0 rfl (Cj (Ab) Ac rfl (by omega) (by omega)) ?_
       refine A0 rfl (Af (A8 rfl <| Az rfl <| Ab)) ?_
       refine A0 rfl (Ep (Al rfl <| Ab) (Ab) (by omega) (by omega) (by omega)) ?_
       refine A0 rfl (Af (Bl rfl <| Ao rfl <| Ap rfl <| Ao rfl <| Al rfl <| Ak rfl)) ?_
       refine A0 rfl (Af (Bl rfl <| Ao rfl <| Al rfl <| As rfl hs1)) ?_
       refine A0 rfl (Cj (Al rfl <| Ab) (Ab) rfl (by omega) (by omega)) ?_
       refine A0 rfl (Af (A8 rfl <| Ba rfl <| Al rfl <| Ab)) ?_
       refine A0 rfl (Ep (Al rfl <| Ab) (Ab) (by omega) (by omega) (by omega)) ?_
       refine A0 rfl (Ae (Az rfl <| Al rfl <| Ab)) ?_
       refine A0 rfl (Ae (Al rfl <| Ab)) ?_
       refine B9 ?_
       refine Ad <| Ag <| Ai fun ds => Aa rfl (Af (A8 rfl <| Ao rfl <| Ab)) ?_
       refine Aa rfl (Af (Ao rfl <| Ab)) ?_
       refine Aa rfl (Af (Ao rfl <| Ab)) ?_
       refine Aa rfl (D0 (Al rfl <| Ab) (Ab)) ?_
       refine Aa rfl (D0 (Ao rfl <| Al rfl <| Ab) (Ab)) ?_
       refine Aa rfl (Ae (Ab)) ?_
       refine Ah <| Ad <| Ag <| Ai fun ds => Aa rfl (Af (Bl rfl <| Ba rfl <| Az rfl <| Ao rfl <| Al rfl <| As rfl hs1)) ?_
       refine Aa rfl (Af (Al rfl <| Ab)) ?_
       refine Aa rfl (Af (Bl rfl <| Az rfl <| Al rfl <| Ab)) ?_
       refine Aa rfl (q_mul (Al rfl <| Ab) (Ab) (show (min 0 (min ((300000 - p + s.steps[k].by_ - 1) / s.steps[k].by_) ((most - p) / s.steps[k].by_))) * s.steps[k].by_ = (min 0 (min ((300000 - p + s.steps[k].by_ - 1) / s.steps[k].by_) ((most - p) / s.steps[k].by_))) * s.steps[k].by_ from rfl) (by omega) (by omega)) ?_
       refine Aa rfl (Bp (Ao rfl <| Al rfl <| Ab) (Ab) rfl (by omega) (by omega)) ?_
       refine Aa rfl (Ae (Ab)) ?_
       refine Ah <| Ad <| Ag <| Ai fun ds => Aa rfl (Af (Az rfl <| Ao rfl <| Ab)) ?_
       refine Aa rfl (Af (A8 rfl <| Ba rfl <| Az rfl <| Ao rfl <| Al rfl <| Ab)) ?_
       refine Aa rfl (B1 (Al rfl <| Ab) (Ab)) ?_
       refine Aa rfl (Af (Ab)) ?_
       refine At rfl rfl (Ab) (decide_eq_false hA) ?_
       refine Aa rfl (Af (Ba rfl <| Ao rfl <| Ab)) ?_
       refine At rfl rfl (Al rfl <| Ab) (decide_eq_false hA) ?_
       refine Aa rfl (Af (A8 rfl <| Ao rfl <| Ab)) ?_
       refine At rfl rfl (Ao rfl <| Ab) (decide_eq_false hA) ?_
       refine Aa rfl (Bs (Al rfl <| Ab) (Ab)) ?_
       refine Aa rfl (A7 (Ao rfl <| Al rfl <| Ab) (decide_eq_false hA) (Ab)) ?_
       refine Ah <| Ad ?_
       by_cases hB : min 0 (min ((300000 - p + s.steps[k].by_ - 1) / s.steps[k].by_) ((most - p) / s.steps[k].by_)) < (300000 - p + s.steps[k].by_ - 1) / s.steps[k].by_
       ·
        refine Ar (Ab) (decide_eq_true hB) ?_
        refine Ag <| Ai fun ds => Aa rfl (Af (Ba rfl <| Ab)) ?_
        refine Aa rfl (Ae (Ab)) ?_
        refine Ah <| Ad <| A9 <| Bd (A6 (A6 (Bd (A6 ?_))))
        refine Ay rfl (.tmp (Ab) .nil) ?_
        show _ = _
        rw [← hcl, n5 (.inr hB)]; rfl
       ·
        refine Am (Ab) (decide_eq_false hB) ?_
        have n7 := n6 hA hB
        refine Aw <| Bf <| Ad <| Ai fun ds => Aa rfl (Af (Bl rfl <| A8 rfl <| Ba rfl <| Az rfl <| Al rfl <| As rfl hs9)) ?_
        refine Aa rfl (Bp (Ab) Ac rfl (by omega) (by omega)) ?_
        refine Aa rfl (Ae (Ab)) ?_
        refine Ah <| Ad ⟨_, m - 1, Off.eq (D1 rfl <| D1 rfl <| Be), by omega, ?_⟩
        refine ⟨k + 1, p + (min 0 (min ((300000 - p + s.steps[k].by_ - 1) / s.steps[k].by_) ((most - p) / s.steps[k].by_))) * s.steps[k].by_, by omega, (Ab), (Ba rfl <| Ao rfl <| Al rfl <| Ab), by omega, n3, by rw [← n4]; exact hcl, ?_, ?_, rfl⟩
        · intro h; exact absurd h hk1
        · intro _; exact n7
    ·
     refine Aw <| Ad <| Ag <| Ag <| Ai fun ds => Aa rfl (Af (A8 rfl <| Ao rfl <| Al rfl <| As rfl hs1)) ?_
     refine Aa rfl (Af (Az rfl <| Ao rfl <| Al rfl <| Ab)) ?_
     refine Aa rfl (Dr (Al rfl <| Ab) (Ab)) ?_
     refine Ah <| Ad <| Ar (Ab) (decide_eq_true (by omega)) ?_
     refine Bv ?_
     refine Bm (Bo ?_)
     refine Ad <| Ai fun ds => Aa rfl (Af (A8 rfl <| Az rfl <| Ao rfl <| As rfl hs9)) ?_
     refine Aa rfl (Bp (Ab) Ac rfl (by omega) (by omega)) ?_
     refine Aa rfl (Ae (Ab)) ?_
     refine Ah <| Ad ⟨_, m - 1, Off.eq (C3 rfl <| Ed rfl <| El rfl <| Be), by omega, ?_⟩
     refine ⟨k + 1, p, by omega, (Ab), (A8 rfl <| Ba rfl <| Al rfl <| As rfl hs1), h0p, hpm, hcl, ?_, ?_, rfl⟩
     · intro h; exact absurd h hk1
     · intro _; omega
  ·
   refine Ag <| Ag <| Ai fun ds => Aa rfl (Af (As rfl hs9)) ?_
   refine Aa rfl (Aj Dh (Al rfl <| Ap rfl <| Ao rfl <| Ab)) ?_
   refine Aa rfl (Aq Dx (Ab) (Cell.own 0 rfl rfl)) ?_
   refine Aa rfl (Bg Dv (Ab) hr.steps.plain) ?_
   refine Aa rfl (Bs (Ao rfl <| Al rfl <| Ab) (Ab)) ?_
   refine Ah <| Ad <| Am (Ab) (by first | rfl | exact decide_eq_false (by omega)) ?_
   have := hbig (by omega)
   refine Bv ?_
   refine Bm <| Bm <| Bo <| Ad <| Ag <| Ai fun ds => Aa rfl (Af (Az rfl <| Al rfl <| As rfl hs1)) ?_
   refine Aa rfl (Ae (Ab)) ?_
   refine Ah <| Ad <| A9 <| Ay rfl (.tmp (Ab) .nil) ?_
   exact absurd hpm (by omega)
end Go.Proofs.Ytaikojfonleccaa
namespace Go.Proofs.Ytaikojfonleccaa
open Go.RowKit
theorem zr_63 : ZeroT Try.prog 63 (.agg #[.int .i64 0, .int .i64 0]) := Dl (by kernel_rfl)
theorem Ez : AggT Try.prog 63 2 := aggT_of (by kernel_rfl)
theorem bd_117 : Body Try.prog 117 := Bt (by kernel_rfl)
theorem bd_41 : Body Try.prog 41 := Bt (by kernel_rfl)
theorem bd_90 : Body Try.prog 90 := Bt (by kernel_rfl)
theorem bt_63 : BuildT Try.prog 63 [.int .i64 0, .int .i64 0] [(0, 1), (1, 1)] := E4 zr_63 (by kernel_rfl) (by decide)
theorem el_3 : ElemT Try.prog 3 1 8 (.int .i64 0) := elemT_of (by kernel_rfl) rfl (by decide)
theorem sz_63 : SizeT Try.prog 63 2 := Dw (by kernel_rfl)
theorem memF {ring : List Int} : (fun b => false || inRing ring b) = inRing ring := by funext b; simp
def bidTo (s : Sale) (lot : Int) (ring : List Int) (k : Nat) : List Nat := (List.range k).filter (biddingP s lot ring)
theorem bidTo_succ {s : Sale} {lot : Int} {ring : List Int} {k : Nat} : bidTo s lot ring (k + 1) = if biddingP s lot ring k = true then bidTo s lot ring k ++ [k] else bidTo s lot ring k := by
 unfold bidTo; rw [List.range_succ, List.filter_append]
 by_cases h : biddingP s lot ring k = true
 · rw [if_pos h]; simp [h]
 · rw [if_neg h]; simp [h]
theorem bidTo_length {s : Sale} {lot : Int} {ring : List Int} {k : Nat} : (bidTo s lot ring k).length ≤ k := Nat.le_trans (List.length_filter_le _ _) (by simp)
set_option maxRecDepth 100000 in
theorem refBidding_ok {F : Heap} {vs vb vl vn vd : Value} {s : Sale} (hr : SaleR F vs vb vl vn vd s) (hn : s.bids.length ≤ 16) {vr : Value} {ring : List Int} (hx : Ints F vr ring) (lot : Int) : Ok Try.prog 41 [.agg #[vs, .int .i64 s.premium, .int .i64 s.fee, .int .i64 s.days, vb, vl, vn, vd], .int .i64 lot, vr].toArray F fun u F' => Nats F' u (biddingL s lot ring) := by
 refine Ok.intro Try.func41 rfl Try.ntmps41 rfl fun w0 => ?_
 have hL1 := hr.bids.plain.lt
 refine Ag <| Ai fun ds => Bn rfl (Cf (Ak rfl) rfl fun b1 hb1 nb1 => ?_)
 refine Aa rfl (Ae Ac) ?_
 refine Ah <| Ad <| Ag <| Ai fun ds => Aa rfl (Bh Ca (Al rfl <| Ab) rfl rfl (Bk 0 rfl)) ?_
 refine Aa rfl (Af (Ao rfl <| Al rfl <| Ak rfl)) ?_
 refine Aa rfl (Af (Az rfl <| Ak rfl)) ?_
 refine Bw rfl (Bc bd_90 A2 (.cons (Ao rfl <| Ab) (.cons (Al rfl <| Ab) (.cons (Ab) (.cons Ac .nil)))) (refStrongest_ok hr hx lot false) (fun _ _ h => h.trans (by rw [memF]))) ?_
 refine Aa rfl (Ae (Ab)) ?_
 refine Ah <| Ad <| Ag <| Ai fun ds => Aa rfl (Ae Ac) ?_
 refine Ah <| Ad <| Ag <| Ag <| Ai fun ds => Aa rfl (Ae Ac) ?_
 refine Ah <| Ad <| A4 <| Bz [8, 9, 14, 15, 16, 17, 18, 19, 20, 21, 22, 23, 24, 25, 26, 27, 28, 29, 30, 31, 32, 33, 34, 35, 36, 37, 38, 39, 40, 41, 42, 43, 44, 45, 46, 47, 48] (fun m e σ => ∃ k : Nat, m + k = s.bids.length ∧ e 9 = .int .i64 (k : Int) ∧ ∃ v R, e 8 = v ∧ Own 3 1 v (bidTo s lot ring k).length ((bidTo s lot ring k).flatMap natE) R ∧ σ = ⟨F, (b1, bx 27 [vs, .int .i64 s.premium, .int .i64 s.fee, .int .i64 s.days, vb, vl, vn, vd]) :: R⟩) (s.bids.length) ?_ ?_
 · exact ⟨0, by omega, (Ab), _, _, (Al rfl <| Ab), Own.nil, rfl⟩
 ·
  rintro m e _ ⟨k, hm9, hs9, v8, R8, hs8, ho, rfl⟩; have hbl := bidTo_length (s := s) (lot := lot) (ring := ring) (k := k)
  by_cases hlt : k < s.bids.length
  ·
   refine Ag <| Ag <| Ai fun ds => Aa rfl (Af (As rfl hs9)) ?_
   refine Aa rfl (Aj Cy (Al rfl <| Ap rfl <| Ba rfl <| Ab)) ?_
   refine Aa rfl (Aq Df (Ab) (Cell.own 0 rfl rfl)) ?_
   refine Aa rfl (Bg Dm (Ab) hr.bids.plain) ?_
   refine Aa rfl (Bs (Ao rfl <| Al rfl <| Ab) (Ab)) ?_
   refine Ah <| Ad <| Ar (Ab) (by first | rfl | exact decide_eq_true (by omega)) ?_
   by_cases hl : (s.bid k).lot = lot
   ·
    refine Aw <| Ad <| Ag <| A4 <| Ag <| Ai fun ds => Aa rfl (Aj Cy (Az rfl <| Al rfl <| Ap rfl <| Ba rfl <| Ab)) ?_
    refine Aa rfl (Aq Df (Ab) (Cell.own 0 rfl rfl)) ?_
    refine Aa rfl (Af (Az rfl <| Ao rfl <| Al rfl <| As rfl hs9)) ?_
    refine Aa rfl (Bj  Dm (Al rfl <| Ab) hr.bids.plain (Ab) rfl hlt) ?_
    refine Aa rfl (Bx Fa (Ab)) ?_
    refine Aa rfl (Aq Bi (Ab) (hr.bids.cell hlt rfl)) ?_
    refine Aa rfl (Af (Ba rfl <| Ao rfl <| Al rfl <| Ap rfl <| Ba rfl <| Al rfl <| Ak rfl)) ?_
    refine Aa rfl (B1 (Al rfl <| Ab) (Ab)) ?_
    refine Aa rfl (Af (Ab)) ?_
    refine At rfl rfl (Ab) (decide_eq_true (by rw [Ch hlt]; exact hl)) ?_
    refine Aa rfl (Af (Ba rfl <| Az rfl <| Ao rfl <| As rfl hs9)) ?_
    refine At rfl rfl (Al rfl <| Ab) (decide_eq_true (by rw [Ch hlt]; exact hl)) ?_
    refine Aa rfl (Af (Ba rfl <| Az rfl <| Ao rfl <| Al rfl <| Ap rfl <| Ao rfl <| Ab)) ?_
    refine At rfl rfl (Ao rfl <| Ab) (decide_eq_true (by rw [Ch hlt]; exact hl)) ?_
    refine Aa rfl (B1 (Al rfl <| Ab) (Ab)) ?_
    refine At rfl rfl (Ao rfl <| Al rfl <| Ab) (decide_eq_true (by rw [Ch hlt]; exact hl)) ?_
    refine Aa rfl (Af (Ab)) ?_
    by_cases ht : (k : Int) = topS s lot (inRing ring)
    ·
     refine Au rfl rfl (Ab) (.inl (congrArg Value.bool (decide_eq_true ht))) rfl ?_
     refine Au rfl rfl (Al rfl <| Ab) (.inl (congrArg Value.bool (decide_eq_true ht))) rfl ?_
     refine Au rfl rfl (Ao rfl <| Ab) (.inl (congrArg Value.bool (decide_eq_true ht))) rfl ?_
     refine Au rfl rfl (Ao rfl <| Al rfl <| Ab) (.inl (congrArg Value.bool (decide_eq_true ht))) rfl ?_
     refine Au rfl rfl (Az rfl <| Ab) (.inl (congrArg Value.bool (decide_eq_true ht))) rfl ?_
     refine Au rfl rfl (Az rfl <| Al rfl <| Ab) (.inl (congrArg Value.bool (decide_eq_true ht))) rfl ?_
     refine Au rfl rfl (Az rfl <| Ao rfl <| Ab) (.inl (congrArg Value.bool (decide_eq_true ht))) rfl ?_
     refine Au rfl rfl (Az rfl <| Ao rfl <| Al rfl <| Ab) (.inl (congrArg Value.bool (decide_eq_true ht))) rfl ?_
     refine Au rfl rfl (Ba rfl <| Ab) (.inl (congrArg Value.bool (decide_eq_true ht))) rfl ?_
     refine At rfl rfl (Ba rfl <| Az rfl <| Al rfl <| Ab) (decide_eq_true (by rw [Ch hlt]; exact hl)) ?_
     refine Aa rfl (A3 (Ba rfl <| Al rfl <| Ab) (decide_eq_true ht) Ac) ?_
     refine Aa rfl (A3 (Ba rfl <| Az rfl <| Ao rfl <| Ab) (decide_eq_true (by rw [Ch hlt]; exact hl)) (Ab)) ?_
     refine Ah <| Ad <| Ar (Ab) rfl ?_
     refine Ai fun ds => Aa rfl (Af (A8 rfl <| Ba rfl <| Az rfl <| Al rfl <| As rfl hs8)) ?_
     refine Aa rfl (Af (A8 rfl <| Ba rfl <| Az rfl <| Ao rfl <| As rfl hs9)) ?_
     refine Bn rfl (B0 Bq C8 rfl (.cons (Ab) .nil) rfl rfl (by decide) (by simp [Value.oneCell']) fun b3 hb3 nb3 => ?_)
     refine Bn rfl (Cw Bq el_3 (Ao rfl <| Ab) ho (Ab) (C6 (s := 1) 0 rfl rfl (by simp [Value.oneCell'])) (by omega) (by omega) (.s <| .s <| .z) .last fun v4 R5 ho6 => ?_)
     have ho2 := ho6.snoc (x := k) rfl rfl
     refine Aa rfl (Ae (Ab)) ?_
     refine Ah <| Bf <| Ad <| Cc (fun _ _ h => h.drop (.cons _ <| .cons_cons _ <| .refl _)) ?_
     refine Ai fun ds => Aa rfl (Af (Bl rfl <| Ao rfl <| As rfl hs9)) ?_
     refine Aa rfl (Bp (Ab) Ac rfl (by omega) (by omega)) ?_
     refine Aa rfl (Ae (Ab)) ?_
     refine Ah <| Ad ⟨_, m - 1, Off.eq (D1 rfl <| E0 rfl <| El rfl <| Be), by omega, ?_⟩
     refine ⟨k + 1, by omega, (Ab), _, _, (Ao rfl <| Al rfl <| Ab), by rw [bidTo_succ, if_pos (show biddingP s lot ring k = true by unfold biddingP; simp [hl, ← ht])]; exact ho2, rfl⟩
    ·
     refine At rfl rfl (Ab) (decide_eq_false ht) ?_
     refine Aa rfl (Af (A8 rfl <| Ao rfl <| Ap rfl <| Ba rfl <| Al rfl <| Ak rfl)) ?_
     refine At rfl rfl (Al rfl <| Ab) (decide_eq_false ht) ?_
     refine Aa rfl (Aj Cy (A8 rfl <| Ao rfl <| Al rfl <| Ap rfl <| Ba rfl <| Ab)) ?_
     refine At rfl rfl (Ao rfl <| Ab) (decide_eq_false ht) ?_
     refine Aa rfl (Aq Df (Ab) (Cell.own 0 rfl rfl)) ?_
     refine At rfl rfl (Ao rfl <| Al rfl <| Ab) (decide_eq_false ht) ?_
     refine Aa rfl (Af (A8 rfl <| Az rfl <| Al rfl <| As rfl hs9)) ?_
     refine At rfl rfl (Az rfl <| Ab) (decide_eq_false ht) ?_
     refine Aa rfl (Bj  Dm (Al rfl <| Ab) hr.bids.plain (Ab) rfl hlt) ?_
     refine At rfl rfl (Az rfl <| Al rfl <| Ab) (decide_eq_false ht) ?_
     refine Aa rfl (Bx D8 (Ab)) ?_
     refine At rfl rfl (Az rfl <| Ao rfl <| Ab) (decide_eq_false ht) ?_
     refine Aa rfl (Aq Bi (Ab) (hr.bids.cell hlt rfl)) ?_
     refine At rfl rfl (Az rfl <| Ao rfl <| Al rfl <| Ab) (decide_eq_false ht) ?_
     refine Bw rfl (Bc bd_42 A2 (.cons (Az rfl <| Ao rfl <| Ab) (.cons (Ab) .nil)) (has_ok hx _) (fun _ _ h => h)) ?_
     refine At rfl rfl (Ba rfl <| Ab) (decide_eq_false ht) ?_
     refine Aa rfl (Ct (Ab)) ?_
     refine At rfl rfl (Ba rfl <| Az rfl <| Al rfl <| Ab) (decide_eq_true (by rw [Ch hlt]; exact hl)) ?_
     refine Aa rfl (A7 (Ba rfl <| Al rfl <| Ab) (decide_eq_false ht) (Ab)) ?_
     refine Aa rfl (A3 (Ba rfl <| Az rfl <| Ao rfl <| Ab) (decide_eq_true (by rw [Ch hlt]; exact hl)) (Ab)) ?_
     refine Ah <| Ad ?_
     by_cases hin : inRing ring (s.bid k).bidder = true
     ·
      refine Am (Ab) (by rw [Ch hlt]; unfold inRing at hin; rw [hin]; rfl) ?_
      refine Aw <| Bf <| Ad <| Ai fun ds => Aa rfl (Af (A8 rfl <| Ba rfl <| Az rfl <| Al rfl <| As rfl hs9)) ?_
      refine Aa rfl (Bp (Ab) Ac rfl (by omega) (by omega)) ?_
      refine Aa rfl (Ae (Ab)) ?_
      refine Ah <| Ad ⟨_, m - 1, Off.eq (D1 rfl <| Be), by omega, ?_⟩
      refine ⟨k + 1, by omega, (Ab), _, _, (Bl rfl <| As rfl hs8), by rw [bidTo_succ, if_neg (show ¬ biddingP s lot ring k = true by unfold biddingP; simp [hl, ht, hin])]; exact ho, rfl⟩
     ·
      replace hin : inRing ring (s.bid k).bidder = false := by simpa using hin
      refine Ar (Ab) (by rw [Ch hlt]; unfold inRing at hin; rw [hin]; rfl) ?_
      refine Ai fun ds => Aa rfl (Af (A8 rfl <| Ba rfl <| Az rfl <| Al rfl <| As rfl hs8)) ?_
      refine Aa rfl (Af (A8 rfl <| Ba rfl <| Az rfl <| Ao rfl <| As rfl hs9)) ?_
      refine Bn rfl (B0 Bq C8 rfl (.cons (Ab) .nil) rfl rfl (by decide) (by simp [Value.oneCell']) fun b7 hb7 nb7 => ?_)
      refine Bn rfl (Cw Bq el_3 (Ao rfl <| Ab) ho (Ab) (C6 (s := 1) 0 rfl rfl (by simp [Value.oneCell'])) (by omega) (by omega) (.s <| .s <| .z) .last fun v8 R9 ho10 => ?_)
      have ho2 := ho10.snoc (x := k) rfl rfl
      refine Aa rfl (Ae (Ab)) ?_
      refine Ah <| Bf <| Ad <| Cc (fun _ _ h => h.drop (.cons _ <| .cons_cons _ <| .refl _)) ?_
      refine Ai fun ds => Aa rfl (Af (Bl rfl <| Ao rfl <| As rfl hs9)) ?_
      refine Aa rfl (Bp (Ab) Ac rfl (by omega) (by omega)) ?_
      refine Aa rfl (Ae (Ab)) ?_
      refine Ah <| Ad ⟨_, m - 1, Off.eq (D1 rfl <| E0 rfl <| El rfl <| Be), by omega, ?_⟩
      refine ⟨k + 1, by omega, (Ab), _, _, (Ao rfl <| Al rfl <| Ab), by rw [bidTo_succ, if_pos (show biddingP s lot ring k = true by unfold biddingP; simp [hl, hin])]; exact ho2, rfl⟩
   ·
    refine Aw <| Ad <| Ag <| A4 <| Ag <| Ai fun ds => Aa rfl (Aj Cy (Az rfl <| Al rfl <| Ap rfl <| Ba rfl <| Ab)) ?_
    refine Aa rfl (Aq Df (Ab) (Cell.own 0 rfl rfl)) ?_
    refine Aa rfl (Af (Az rfl <| Ao rfl <| Al rfl <| As rfl hs9)) ?_
    refine Aa rfl (Bj  Dm (Al rfl <| Ab) hr.bids.plain (Ab) rfl hlt) ?_
    refine Aa rfl (Bx Fa (Ab)) ?_
    refine Aa rfl (Aq Bi (Ab) (hr.bids.cell hlt rfl)) ?_
    refine Aa rfl (Af (Ba rfl <| Ao rfl <| Al rfl <| Ap rfl <| Ba rfl <| Al rfl <| Ak rfl)) ?_
    refine Aa rfl (B1 (Al rfl <| Ab) (Ab)) ?_
    refine Aa rfl (Af (Ab)) ?_
    refine Au rfl rfl (Ab) (.inl (congrArg Value.bool (decide_eq_false (by rw [Ch hlt]; exact hl)))) rfl ?_
    refine Au rfl rfl (Al rfl <| Ab) (.inl (congrArg Value.bool (decide_eq_false (by rw [Ch hlt]; exact hl)))) rfl ?_
    refine Au rfl rfl (Ao rfl <| Ab) (.inl (congrArg Value.bool (decide_eq_false (by rw [Ch hlt]; exact hl)))) rfl ?_
    refine Au rfl rfl (Ao rfl <| Al rfl <| Ab) (.inl (congrArg Value.bool (decide_eq_false (by rw [Ch hlt]; exact hl)))) rfl ?_
    refine Au rfl rfl (Ab) (.inr rfl) rfl ?_
    refine Au rfl rfl (Al rfl <| Ab) (.inr rfl) rfl ?_
    refine Au rfl rfl (Ao rfl <| Ab) (.inr rfl) rfl ?_
    refine Au rfl rfl (Ao rfl <| Al rfl <| Ab) (.inr rfl) rfl ?_
    refine Au rfl rfl (Az rfl <| Ab) (.inr rfl) rfl ?_
    refine Au rfl rfl (Az rfl <| Al rfl <| Ab) (.inr rfl) rfl ?_
    refine Au rfl rfl (Az rfl <| Ao rfl <| Ab) (.inr rfl) rfl ?_
    refine Au rfl rfl (Az rfl <| Ao rfl <| Al rfl <| Ab) (.inr rfl) rfl ?_
    refine Au rfl rfl (Ba rfl <| Ab) (.inr rfl) rfl ?_
    refine Au rfl rfl (Ba rfl <| Az rfl <| Al rfl <| Ab) (.inl (congrArg Value.bool (decide_eq_false (by rw [Ch hlt]; exact hl)))) rfl ?_
    refine Aa rfl (A7 (Ba rfl <| Az rfl <| Ao rfl <| Ab) (decide_eq_false (by rw [Ch hlt]; exact hl)) Ac) ?_
    refine Ah <| Ad <| Am (Ab) rfl ?_
    refine Aw <| Bf <| Ad <| Ai fun ds => Aa rfl (Af (A8 rfl <| Ba rfl <| Az rfl <| Al rfl <| As rfl hs9)) ?_
    refine Aa rfl (Bp (Ab) Ac rfl (by omega) (by omega)) ?_
    refine Aa rfl (Ae (Ab)) ?_
    refine Ah <| Ad ⟨_, m - 1, Off.eq (D1 rfl <| Be), by omega, ?_⟩
    refine ⟨k + 1, by omega, (Ab), _, _, (Bl rfl <| As rfl hs8), by rw [bidTo_succ, if_neg (show ¬ biddingP s lot ring k = true by unfold biddingP; simp [hl])]; exact ho, rfl⟩
  ·
   refine Ag <| Ag <| Ai fun ds => Aa rfl (Af (As rfl hs9)) ?_
   refine Aa rfl (Aj Cy (Al rfl <| Ap rfl <| Ba rfl <| Ab)) ?_
   refine Aa rfl (Aq Df (Ab) (Cell.own 0 rfl rfl)) ?_
   refine Aa rfl (Bg Dm (Ab) hr.bids.plain) ?_
   refine Aa rfl (Bs (Ao rfl <| Al rfl <| Ab) (Ab)) ?_
   refine Ah <| Ad <| Am (Ab) (by first | rfl | exact decide_eq_false (by omega)) ?_
   obtain rfl : k = s.bids.length := by omega
   refine Ec (σ := ⟨_, _⟩) (by rfl) ho (.s <| .z) .last fun F11 hF12 hz13 => ?_
   have hn2 := ho.sl (fun _ => rfl) hz13 (by omega)
   refine Bv ?_
   refine Bm <| Bm <| Bo <| Ad <| Ag <| Ai fun ds => Aa rfl (Af (Az rfl <| Al rfl <| As rfl hs8)) ?_
   refine Aa rfl (Ae (Ab)) ?_
   refine Ah <| Ad <| A9 <| Ay rfl (.tmp (Ab) .nil) ?_
   exact hn2
theorem memT {ring : List Int} : (fun b => true || inRing ring b) = fun _ => true := by funext b; simp
def othTo (s : Sale) (one : Int) (l : List Nat) (k : Nat) : Int := othersL s one (l.take k)
theorem othTo_succ {s : Sale} {one : Int} {l : List Nat} {k : Nat} (hk : k < l.length) : othTo s one l (k + 1) = if (l[k] : Int) ≠ one then max (othTo s one l k) (s.bid l[k]).most else othTo s one l k := by
 unfold othTo othersL; rw [List.take_succ_eq_append_getElem hk, List.foldl_append]; rfl
theorem othTo_bound {s : Sale} (hv : ValidS s) {one : Int} {l : List Nat} (hl : ∀ i ∈ l, i < s.bids.length) {k : Nat} : 0 ≤ othTo s one l k ∧ othTo s one l k ≤ 100000 := othersL_bound hv fun i hi => hl i (List.mem_of_mem_take hi)
theorem bid_facts {s : Sale} (hv : ValidS s) {i : Nat} (h : i < s.bids.length) : s.bids[i] = s.bid i ∧ 1 ≤ (s.bid i).most ∧ (s.bid i).most ≤ 100000 ∧ 0 ≤ (s.bid i).bidder ∧ (s.bid i).bidder < s.bidders.length := by
 have := hv.bd i h
 exact ⟨Ch h, this.2.2.2.2.1, this.2.2.2.2.2, this.1, this.2.1⟩
theorem lot_facts {s : Sale} (hv : ValidS s) {l : Nat} (h : l < s.lots.length) : s.lots[l] = s.lot l ∧ 1 ≤ (s.lot l).reserve ∧ (s.lot l).reserve ≤ 100000 ∧ 0 ≤ (s.lot l).seller ∧ (s.lot l).seller < s.sellers.length := by
 have := hv.lo l h
 exact ⟨lot_at h, this.2.2.1, this.2.2.2, this.1, this.2.1⟩
theorem sold_none {s : Sale} {l : Nat} {ring : List Int} (h : topS s (l : Int) (fun _ => true) < 0) : soldS s l ring = ⟨-1, 0⟩ := if_pos (.inl h)
theorem sold_low {s : Sale} {l i : Nat} {ring : List Int} (h : topS s (l : Int) (fun _ => true) = (i : Int)) (h2 : (s.bid i).most < (s.lot l).reserve) : soldS s l ring = ⟨-1, 0⟩ := by
 unfold soldS; rw [h]; exact if_pos (.inr (by simpa using h2))
theorem sold_at {s : Sale} {l i : Nat} {ring : List Int} (h : topS s (l : Int) (fun _ => true) = (i : Int)) (h2 : ¬ (s.bid i).most < (s.lot l).reserve) : soldS s l ring = ⟨(s.bid i).bidder, climbS s (s.lot l).reserve (othersL s i (biddingL s l ring)) (s.bid i).most⟩ := by
 unfold soldS; rw [h]; simp only [Int.toNat_natCast]; exact if_neg (by omega)
set_option maxRecDepth 100000 in
theorem refSold_ok {F : Heap} {vs vb vl vn vd : Value} {s : Sale} (hr : SaleR F vs vb vl vn vd s) (hv : ValidS s) {vr : Value} {ring : List Int} (hx : Ints F vr ring) {l : Nat} (hl : l < s.lots.length) : Ok Try.prog 102 [.agg #[vs, .int .i64 s.premium, .int .i64 s.fee, .int .i64 s.days, vb, vl, vn, vd], .int .i64 (l : Int), vr].toArray F fun u _ => u = .agg (soldS s l ring).enc.toArray := by
 refine Ok.intro Try.func102 rfl Try.ntmps102 rfl fun w0 => ?_
 have hL1 := hr.bids.plain.lt
 have hL2 := hr.lots.plain.lt
 have hnd := hv.nd
 obtain ⟨e1, e2, e3, e4, e5⟩ := lot_facts hv hl
 have htl := topTo_lt (s := s) (lot := (l : Int)) (mem := fun _ => true) s.bids.length
 by_cases h0 : (topS s (l : Int) fun _ => true) < 0
 ·
  refine Ag <| Ai fun ds => Bn rfl (Cf (Ak rfl) rfl fun b1 hb1 nb1 => ?_)
  refine Bn rfl (B6 zr_63 rfl fun b2 hb2 nb2 => ?_)
  refine Ah <| Ad <| Ag <| Ai fun ds => Aa rfl (Bh Ca (Al rfl <| Ab) rfl rfl (Bk 1 rfl)) ?_
  refine Aa rfl (Af (Ao rfl <| Al rfl <| Ak rfl)) ?_
  refine Bw rfl (Bc bd_90 A2 (.cons (Al rfl <| Ab) (.cons (Ab) (.cons Ac (.cons Ac .nil)))) (refStrongest_ok hr (Sl.nil : Ints _ _ []) (l : Int) true) (fun _ _ h => h.trans (by rw [memT]))) ?_
  refine Aa rfl (Ae (Ab)) ?_
  refine Ah <| Ad <| Ag <| Ag <| Cb (.inl rfl) (fun _ _ h => h) (by kernel_rfl) (by kernel_rfl) fun ds => ?_
  refine A0 rfl (Af (Ab)) ?_
  refine A0 rfl (Bs (Ab) Ac) ?_
  refine A0 rfl (Af (Ab)) ?_
  refine Ax rfl rfl (Ab) (.inl (congrArg Value.bool (decide_eq_true h0))) rfl ?_
  refine Ax rfl rfl (Al rfl <| Ab) (.inl (congrArg Value.bool (decide_eq_true h0))) rfl ?_
  refine Ax rfl rfl (Ao rfl <| Ab) (.inl (congrArg Value.bool (decide_eq_true h0))) rfl ?_
  refine Ax rfl rfl (Ao rfl <| Al rfl <| Ab) (.inl (congrArg Value.bool (decide_eq_true h0))) rfl ?_
  refine Ax rfl rfl (Az rfl <| Ab) (.inl (congrArg Value.bool (decide_eq_true h0))) rfl ?_
  refine Ax rfl rfl (Az rfl <| Al rfl <| Ab) (.inl (congrArg Value.bool (decide_eq_true h0))) rfl ?_
  refine Ax rfl rfl (Az rfl <| Ao rfl <| Ab) (.inl (congrArg Value.bool (decide_eq_true h0))) rfl ?_
  refine Ax rfl rfl (Az rfl <| Ao rfl <| Al rfl <| Ab) (.inl (congrArg Value.bool (decide_eq_true h0))) rfl ?_
  refine Ax rfl rfl (Ba rfl <| Ab) (.inl (congrArg Value.bool (decide_eq_true h0))) rfl ?_
  refine Ax rfl rfl (Ba rfl <| Al rfl <| Ab) (.inl (congrArg Value.bool (decide_eq_true h0))) rfl ?_
  refine Ax rfl rfl (Ba rfl <| Ao rfl <| Ab) (.inl (congrArg Value.bool (decide_eq_true h0))) rfl ?_
  refine Ax rfl rfl (Ba rfl <| Ao rfl <| Al rfl <| Ab) (.inl (congrArg Value.bool (decide_eq_true h0))) rfl ?_
  refine Ax rfl rfl (Ba rfl <| Az rfl <| Ab) (.inl (congrArg Value.bool (decide_eq_true h0))) rfl ?_
  refine A0 rfl (A3 (Ba rfl <| Az rfl <| Al rfl <| Ab) (decide_eq_true h0) Ac) ?_
  refine B9 ?_
  refine Ad <| Ar (Ab) rfl ?_
  refine Ag <| Ai fun ds => Aa rfl (C0 bt_63 (.cons Ac rfl .nil) (.cons rfl rfl (Nat.le_of_ble_eq_true rfl) (.cons (.here) .nil) .nil)) ?_
  refine Cl (B5 sz_63 (A8 rfl <| Az rfl <| Ao rfl <| Ab) (Ab) (i := 0) rfl rfl rfl rfl (by simp [Value.oneCell']) (.here) ?_)
  refine Ah <| Ad <| A9 <| A6 ?_
  refine Ay rfl (.agg Ez (A8 rfl <| Az rfl <| Ao rfl <| Ab) rfl rfl (Bk 0 rfl) .nil) ?_
  show _ = _
  rw [sold_none h0]; rfl
 ·
  obtain ⟨i, hti⟩ := Int.eq_ofNat_of_zero_le (show 0 ≤ (topS s (l : Int) fun _ => true) by omega)
  have hi : i < s.bids.length := by unfold topS at hti; omega
  obtain ⟨d1, d2, d3, d4, d5⟩ := bid_facts hv hi
  refine Ag <| Ai fun ds => Bn rfl (Cf (Ak rfl) rfl fun b3 hb3 nb3 => ?_)
  refine Bn rfl (B6 zr_63 rfl fun b4 hb4 nb4 => ?_)
  refine Ah <| Ad <| Ag <| Ai fun ds => Aa rfl (Bh Ca (Al rfl <| Ab) rfl rfl (Bk 1 rfl)) ?_
  refine Aa rfl (Af (Ao rfl <| Al rfl <| Ak rfl)) ?_
  refine Bw rfl (Bc bd_90 A2 (.cons (Al rfl <| Ab) (.cons (Ab) (.cons Ac (.cons Ac .nil)))) (refStrongest_ok hr (Sl.nil : Ints _ _ []) (l : Int) true) (fun _ _ h => h.trans (by rw [memT, hti]))) ?_
  refine Aa rfl (Ae (Ab)) ?_
  refine Ah <| Ad <| Ag <| Ag <| Cb (.inl rfl) (fun _ _ h => h) (by kernel_rfl) (by kernel_rfl) fun ds => ?_
  refine A0 rfl (Af (Ab)) ?_
  refine A0 rfl (Bs (Ab) Ac) ?_
  refine A0 rfl (Af (Ab)) ?_
  refine A1 rfl rfl (Ab) (decide_eq_false (by omega)) ?_
  refine A0 rfl (Aj Cy (Ba rfl <| Ab)) ?_
  refine A1 rfl rfl (Al rfl <| Ab) (decide_eq_false (by omega)) ?_
  refine A0 rfl (Aq Df (Ab) (Cell.own 1 rfl rfl)) ?_
  refine A1 rfl rfl (Ao rfl <| Ab) (decide_eq_false (by omega)) ?_
  refine A0 rfl (Af (Az rfl <| Al rfl <| Ab)) ?_
  refine A1 rfl rfl (Ao rfl <| Al rfl <| Ab) (decide_eq_false (by omega)) ?_
  refine A0 rfl (Bj (k := i) Dm (Al rfl <| Ab) hr.bids.plain (Ab) rfl hi) ?_
  refine A1 rfl rfl (Az rfl <| Ab) (decide_eq_false (by omega)) ?_
  refine A0 rfl (Bx E9 (Ab)) ?_
  refine A1 rfl rfl (Az rfl <| Al rfl <| Ab) (decide_eq_false (by omega)) ?_
  refine A0 rfl (Aq Bi (Ab) (hr.bids.cell hi rfl)) ?_
  refine A1 rfl rfl (Az rfl <| Ao rfl <| Ab) (decide_eq_false (by omega)) ?_
  refine A0 rfl (Aj Cu (Ba rfl <| Az rfl <| Ao rfl <| Ab)) ?_
  refine A1 rfl rfl (Az rfl <| Ao rfl <| Al rfl <| Ab) (decide_eq_false (by omega)) ?_
  refine A0 rfl (Aq Db (Ab) (Cell.own 1 rfl rfl)) ?_
  refine A1 rfl rfl (Ba rfl <| Ab) (decide_eq_false (by omega)) ?_
  refine A0 rfl (Af (A8 rfl <| Al rfl <| Ak rfl)) ?_
  refine A1 rfl rfl (Ba rfl <| Al rfl <| Ab) (decide_eq_false (by omega)) ?_
  refine A0 rfl (Bj (k := l) Dd (Al rfl <| Ab) hr.lots.plain (Ab) rfl hl) ?_
  refine A1 rfl rfl (Ba rfl <| Ao rfl <| Ab) (decide_eq_false (by omega)) ?_
  refine A0 rfl (Bx fd_69_2 (Ab)) ?_
  refine A1 rfl rfl (Ba rfl <| Ao rfl <| Al rfl <| Ab) (decide_eq_false (by omega)) ?_
  refine A0 rfl (Aq Bi (Ab) (hr.lots.cell hl rfl)) ?_
  refine A1 rfl rfl (Ba rfl <| Az rfl <| Ab) (decide_eq_false (by omega)) ?_
  refine A0 rfl (Bs (Az rfl <| Ao rfl <| Ab) (Ab)) ?_
  refine A0 rfl (A7 (Ba rfl <| Az rfl <| Al rfl <| Ab) (decide_eq_false (by omega)) (Ab)) ?_
  refine B9 ?_
  refine Ad ?_
  by_cases hlow : (s.bid i).most < (s.lot l).reserve
  ·
   refine Ar (Ab) (decide_eq_true (by rw [d1, e1]; exact hlow)) ?_
   refine Ag <| Ai fun ds => Aa rfl (C0 bt_63 (.cons Ac rfl .nil) (.cons rfl rfl (Nat.le_of_ble_eq_true rfl) (.cons (.here) .nil) .nil)) ?_
   refine Cl (B5 sz_63 (A8 rfl <| Az rfl <| Ao rfl <| Ab) (Ab) (i := 0) rfl rfl rfl rfl (by simp [Value.oneCell']) (.here) ?_)
   refine Ah <| Ad <| A9 <| A6 ?_
   refine Ay rfl (.agg Ez (A8 rfl <| Az rfl <| Ao rfl <| Ab) rfl rfl (Bk 0 rfl) .nil) ?_
   show _ = _
   rw [sold_low hti hlow]; rfl
  ·
   refine Am (Ab) (decide_eq_false (by rw [d1, e1]; exact hlow)) ?_
   have hbl := Fl (s := s) (lot := (l : Int)) (ring := ring)
   have hbln : (biddingL s l ring).length ≤ s.bids.length := bidTo_length
   refine Aw <| Ad <| Ag <| Ai fun ds => Aa rfl (Ae Ac) ?_
   refine Ah <| Ad <| Ag <| Ai fun ds => Aa rfl (Bh Ca (A8 rfl <| Az rfl <| Ao rfl <| Al rfl <| Ab) rfl rfl (Bk 1 rfl)) ?_
   refine Aa rfl (Af (A8 rfl <| Ba rfl <| Al rfl <| Ak rfl)) ?_
   refine Aa rfl (Af (A8 rfl <| Ba rfl <| Ao rfl <| Ak rfl)) ?_
   refine Bn rfl (Cp bd_41 A2 (.cons (Ao rfl <| Ab) (.cons (Al rfl <| Ab) (.cons (Ab) .nil))) (refBidding_ok hr hnd hx (l : Int)) fun v5 F6 hr7 hF8 => ?_)
   replace hr := hr.mono hF8
   have hbd := hr7
   refine Aa rfl (Ae (Ab)) ?_
   refine Ah <| Ad <| Ag <| Ag <| Ai fun ds => Aa rfl (Ae Ac) ?_
   refine Ah <| Ad <| A4 <| Bz [8, 10, 36, 37, 38, 39, 40, 41, 42, 43, 44, 45, 46, 47, 48, 49, 50, 51, 52, 53, 54, 55, 56, 57, 58] (fun m e σ => ∃ k : Nat, m + k = (biddingL s l ring).length ∧ e 10 = .int .i64 (k : Int) ∧ e 8 = .int .i64 (othTo s i (biddingL s l ring) k) ∧ σ = ⟨F6, [(b4, bx 63 [.int .i64 0, .int .i64 0]), (b3, bx 27 [vs, .int .i64 s.premium, .int .i64 s.fee, .int .i64 s.days, vb, vl, vn, vd])]⟩) ((biddingL s l ring).length) ?_ ?_
   · exact ⟨0, by omega, (Ab), (Az rfl <| Ao rfl <| Ab), rfl⟩
   ·
    rintro m e _ ⟨k, hm9, hs10, hs8, rfl⟩
    by_cases hlt : k < (biddingL s l ring).length
    ·
     have hbk := hbl _ (List.getElem_mem hlt)
     obtain ⟨c1, c2, c3, c4, c5⟩ := bid_facts hv hbk
     refine Ag <| Ag <| Ai fun ds => Aa rfl (Af (As rfl hs10)) ?_
     refine Aa rfl (Af (Al rfl <| Ap rfl <| Al rfl <| Ab)) ?_
     refine Aa rfl (Bg Bq (Ab) hbd.plain) ?_
     refine Aa rfl (Bs (Ao rfl <| Ab) (Ab)) ?_
     refine Ah <| Ad <| Ar (Ab) (by first | rfl | exact decide_eq_true (by omega)) ?_
     by_cases hne : ((biddingL s l ring)[k] : Int) ≠ (i : Int)
     ·
      refine Aw <| Ad <| Ag <| A4 <| Ag <| Ai fun ds => Aa rfl (Af (Az rfl <| Ap rfl <| Al rfl <| Ab)) ?_
      refine Aa rfl (Af (Az rfl <| Al rfl <| As rfl hs10)) ?_
      refine Aa rfl (Bj  Bq (Al rfl <| Ab) hbd.plain (Ab) rfl hlt) ?_
      refine Aa rfl (Aq Bi (Ab) (hbd.cell1 hlt rfl)) ?_
      refine Aa rfl (Af (Ba rfl <| Ap rfl <| A8 rfl <| Ba rfl <| Ab)) ?_
      refine Aa rfl (B7 (Al rfl <| Ab) (Ab)) ?_
      refine Ah <| Ad <| Ar (Ab) (decide_eq_true hne) ?_
      refine Cb (.inl rfl) (fun _ _ h => h) (by kernel_rfl) (by kernel_rfl) fun ds => ?_
      refine A0 rfl (Af (Ba rfl <| Ao rfl <| As rfl hs8)) ?_
      refine A0 rfl (Aj Cy (Ba rfl <| Ao rfl <| Al rfl <| Ap rfl <| A8 rfl <| Ba rfl <| Az rfl <| Al rfl <| Ab)) ?_
      refine A0 rfl (Aq Df (Ab) (Cell.own 1 rfl rfl)) ?_
      refine A0 rfl (Af (Ba rfl <| Az rfl <| Al rfl <| Ap rfl <| Al rfl <| Ab)) ?_
      refine A0 rfl (Af (Ba rfl <| Az rfl <| Ao rfl <| As rfl hs10)) ?_
      refine A0 rfl (Bj  Bq (Al rfl <| Ab) hbd.plain (Ab) rfl hlt) ?_
      refine A0 rfl (Aq Bi (Ab) (hbd.cell1 hlt rfl)) ?_
      refine A0 rfl (Bj  Dm (Az rfl <| Ab) hr.bids.plain (Ab) rfl hbk) ?_
      refine A0 rfl (Bx E9 (Ab)) ?_
      refine A0 rfl (Aq Bi (Ab) (hr.bids.cell hbk rfl)) ?_
      refine A0 rfl (q_max2 (Ba rfl <| Al rfl <| Ab) (Ab)) ?_
      refine A0 rfl (Ae (Ab)) ?_
      refine B9 ?_
      refine Bf <| Ad <| Ai fun ds => Aa rfl (Af (A8 rfl <| Az rfl <| Ao rfl <| As rfl hs10)) ?_
      refine Aa rfl (Bp (Ab) Ac rfl (by omega) (by omega)) ?_
      refine Aa rfl (Ae (Ab)) ?_
      refine Ah <| Ad ⟨_, m - 1, Off.eq (C3 rfl <| Ed rfl <| El rfl <| Be), by omega, ?_⟩
      exact ⟨k + 1, by omega, (Ab), by rw [othTo_succ hlt, if_pos hne, ← c1]; exact (Ao rfl <| Al rfl <| Ab), rfl⟩
     ·
      refine Aw <| Ad <| Ag <| A4 <| Ag <| Ai fun ds => Aa rfl (Af (Az rfl <| Ap rfl <| Al rfl <| Ab)) ?_
      refine Aa rfl (Af (Az rfl <| Al rfl <| As rfl hs10)) ?_
      refine Aa rfl (Bj  Bq (Al rfl <| Ab) hbd.plain (Ab) rfl hlt) ?_
      refine Aa rfl (Aq Bi (Ab) (hbd.cell1 hlt rfl)) ?_
      refine Aa rfl (Af (Ba rfl <| Ap rfl <| A8 rfl <| Ba rfl <| Ab)) ?_
      refine Aa rfl (B7 (Al rfl <| Ab) (Ab)) ?_
      refine Ah <| Ad <| Am (Ab) (decide_eq_false hne) ?_
      refine Aw <| Bf <| Ad <| Ai fun ds => Aa rfl (Af (Ba rfl <| Ao rfl <| As rfl hs10)) ?_
      refine Aa rfl (Bp (Ab) Ac rfl (by omega) (by omega)) ?_
      refine Aa rfl (Ae (Ab)) ?_
      refine Ah <| Ad ⟨_, m - 1, Off.eq (Ed rfl <| E0 rfl <| El rfl <| Be), by omega, ?_⟩
      exact ⟨k + 1, by omega, (Ab), by rw [othTo_succ hlt, if_neg hne]; exact (Ba rfl <| Az rfl <| Al rfl <| As rfl hs8), rfl⟩
    ·
     refine Ag <| Ag <| Ai fun ds => Aa rfl (Af (As rfl hs10)) ?_
     refine Aa rfl (Af (Al rfl <| Ap rfl <| Al rfl <| Ab)) ?_
     refine Aa rfl (Bg Bq (Ab) hbd.plain) ?_
     refine Aa rfl (Bs (Ao rfl <| Ab) (Ab)) ?_
     refine Ah <| Ad <| Am (Ab) (by first | rfl | exact decide_eq_false (by omega)) ?_
     have hob := othTo_bound hv (one := (i : Int)) hbl (k := k)
     refine Bv ?_
     refine Bm <| Bm <| Bo <| Ad <| Ag <| Du (.inl rfl) (fun _ _ h => h) (.cons_cons _ <| .cons_cons _ <| .refl _) [22] (by kernel_rfl) fun ds => ?_
     refine Bb 0 rfl (by kernel_rfl) (by kernel_rfl) (by kernel_rfl) (by kernel_rfl) rfl rfl (fun _ h => h.drop (.cons_cons _ <| .cons_cons _ <| .refl _)) (fun _ _ _ h => h) (Aj Cy (Az rfl <| Ap rfl <| A8 rfl <| Ba rfl <| Az rfl <| Al rfl <| Ab)) ?_
     refine Bb 1 rfl (by kernel_rfl) (by kernel_rfl) (by kernel_rfl) (by kernel_rfl) rfl rfl (fun _ h => h.drop (.cons_cons _ <| .cons_cons _ <| .refl _)) (fun _ _ _ h => h) (Aq Df (Ab) (Cell.own 1 rfl rfl)) ?_
     refine Bb 2 rfl (by kernel_rfl) (by kernel_rfl) (by kernel_rfl) (by kernel_rfl) rfl rfl (fun _ h => h.drop (.cons_cons _ <| .cons_cons _ <| .refl _)) (fun _ _ _ h => h) (Af (Az rfl <| Ao rfl <| Ap rfl <| A8 rfl <| Ba rfl <| Ab)) ?_
     refine Bb 3 rfl (by kernel_rfl) (by kernel_rfl) (by kernel_rfl) (by kernel_rfl) rfl rfl (fun _ h => h.drop (.cons_cons _ <| .cons_cons _ <| .refl _)) (fun _ _ _ h => h) (Bj (k := i) Dm (Al rfl <| Ab) hr.bids.plain (Ab) rfl hi) ?_
     refine Bb 4 rfl (by kernel_rfl) (by kernel_rfl) (by kernel_rfl) (by kernel_rfl) rfl rfl (fun _ h => h.drop (.cons_cons _ <| .cons_cons _ <| .refl _)) (fun _ _ _ h => h) (Bx D8 (Ab)) ?_
     refine Bb 5 rfl (by kernel_rfl) (by kernel_rfl) (by kernel_rfl) (by kernel_rfl) rfl rfl (fun _ h => h.drop (.cons_cons _ <| .cons_cons _ <| .refl _)) (fun _ _ _ h => h) (Aq Bi (Ab) (hr.bids.cell hi rfl)) ?_
     refine Bb 6 rfl (by kernel_rfl) (by kernel_rfl) (by kernel_rfl) (by kernel_rfl) rfl rfl (fun _ h => h.drop (.cons_cons _ <| .cons_cons _ <| .refl _)) (fun _ _ _ h => h) (Bh Ca (Ba rfl <| Ao rfl <| Ap rfl <| A8 rfl <| Ba rfl <| Az rfl <| Al rfl <| Ab) rfl rfl (Bk 1 rfl)) ?_
     refine Bb 7 rfl (by kernel_rfl) (by kernel_rfl) (by kernel_rfl) (by kernel_rfl) rfl rfl (fun _ h => h.drop (.cons_cons _ <| .cons_cons _ <| .refl _)) (fun _ _ _ h => h) (Aj Cu (Ba rfl <| Ao rfl <| Al rfl <| Ap rfl <| A8 rfl <| Ba rfl <| Az rfl <| Al rfl <| Ab)) ?_
     refine Bb 8 rfl (by kernel_rfl) (by kernel_rfl) (by kernel_rfl) (by kernel_rfl) rfl rfl (fun _ h => h.drop (.cons_cons _ <| .cons_cons _ <| .refl _)) (fun _ _ _ h => h) (Aq Db (Ab) (Cell.own 1 rfl rfl)) ?_
     refine Bb 9 rfl (by kernel_rfl) (by kernel_rfl) (by kernel_rfl) (by kernel_rfl) rfl rfl (fun _ h => h.drop (.cons_cons _ <| .cons_cons _ <| .refl _)) (fun _ _ _ h => h) (Af (Ba rfl <| Az rfl <| Al rfl <| Ap rfl <| A8 rfl <| Ba rfl <| Az rfl <| Ao rfl <| Ak rfl)) ?_
     refine Bb 10 rfl (by kernel_rfl) (by kernel_rfl) (by kernel_rfl) (by kernel_rfl) rfl rfl (fun _ h => h.drop (.cons_cons _ <| .cons_cons _ <| .refl _)) (fun _ _ _ h => h) (Bj (k := l) Dd (Al rfl <| Ab) hr.lots.plain (Ab) rfl hl) ?_
     refine Bb 11 rfl (by kernel_rfl) (by kernel_rfl) (by kernel_rfl) (by kernel_rfl) rfl rfl (fun _ h => h.drop (.cons_cons _ <| .cons_cons _ <| .refl _)) (fun _ _ _ h => h) (Bx fd_69_2 (Ab)) ?_
     refine Bb 12 rfl (by kernel_rfl) (by kernel_rfl) (by kernel_rfl) (by kernel_rfl) rfl rfl (fun _ h => h.drop (.cons_cons _ <| .cons_cons _ <| .refl _)) (fun _ _ _ h => h) (Aq Bi (Ab) (hr.lots.cell hl rfl)) ?_
     refine Bb 13 rfl (by kernel_rfl) (by kernel_rfl) (by kernel_rfl) (by kernel_rfl) rfl rfl (fun _ h => h.drop (.cons_cons _ <| .cons_cons _ <| .refl _)) (fun _ _ _ h => h) (Af (A8 rfl <| Al rfl <| As rfl hs8)) ?_
     refine Bb 14 rfl (by kernel_rfl) (by kernel_rfl) (by kernel_rfl) (by kernel_rfl) rfl rfl (fun _ h => h.drop (.cons_cons _ <| .cons_cons _ <| .refl _)) (fun _ _ _ h => h) (Aj Cy (A8 rfl <| Ao rfl <| Ap rfl <| A8 rfl <| Ba rfl <| Az rfl <| Al rfl <| Ab)) ?_
     refine Bb 15 rfl (by kernel_rfl) (by kernel_rfl) (by kernel_rfl) (by kernel_rfl) rfl rfl (fun _ h => h.drop (.cons_cons _ <| .cons_cons _ <| .refl _)) (fun _ _ _ h => h) (Aq Df (Ab) (Cell.own 1 rfl rfl)) ?_
     refine Bb 16 rfl (by kernel_rfl) (by kernel_rfl) (by kernel_rfl) (by kernel_rfl) rfl rfl (fun _ h => h.drop (.cons_cons _ <| .cons_cons _ <| .refl _)) (fun _ _ _ h => h) (Af (A8 rfl <| Az rfl <| Ap rfl <| A8 rfl <| Ba rfl <| Ab)) ?_
     refine Bb 17 rfl (by kernel_rfl) (by kernel_rfl) (by kernel_rfl) (by kernel_rfl) rfl rfl (fun _ h => h.drop (.cons_cons _ <| .cons_cons _ <| .refl _)) (fun _ _ _ h => h) (Bj (k := i) Dm (Al rfl <| Ab) hr.bids.plain (Ab) rfl hi) ?_
     refine Bb 18 rfl (by kernel_rfl) (by kernel_rfl) (by kernel_rfl) (by kernel_rfl) rfl rfl (fun _ h => h.drop (.cons_cons _ <| .cons_cons _ <| .refl _)) (fun _ _ _ h => h) (Bx E9 (Ab)) ?_
     refine Bb 19 rfl (by kernel_rfl) (by kernel_rfl) (by kernel_rfl) (by kernel_rfl) rfl rfl (fun _ h => h.drop (.cons_cons _ <| .cons_cons _ <| .refl _)) (fun _ _ _ h => h) (Aq Bi (Ab) (hr.bids.cell hi rfl)) ?_
     refine Da 20 rfl (by kernel_rfl) rfl (Br (Bc bd_117 A2 (.cons (Ba rfl <| Az rfl <| Al rfl <| Ab) (.cons (Az rfl <| Ao rfl <| Al rfl <| Ab) (.cons (Az rfl <| Ao rfl <| Ab) (.cons (Ab) .nil)))) (refClimb_ok hr hv (by rw [e1]; omega) (by rw [e1, d1]; omega) hob.1 hob.2 (by rw [d1]; omega)) (fun _ _ h => h)) ⟨fun _ _ => (fun _ h => h.drop (.cons_cons _ <| .cons_cons _ <| .refl _)), ?_⟩)
     refine Bb 21 rfl (by kernel_rfl) (by kernel_rfl) (by kernel_rfl) (by kernel_rfl) rfl rfl (fun _ h => h.drop (.cons_cons _ <| .cons_cons _ <| .refl _)) (fun _ _ _ h => h) (C0 bt_63 (.cons (Ba rfl <| Az rfl <| Ao rfl <| Al rfl <| Ab) rfl (.cons (Ab) rfl .nil)) (.cons rfl rfl (Nat.le_of_ble_eq_true rfl) (.cons (.here) .nil) (.cons rfl rfl (Nat.le_of_ble_eq_true rfl) (.cons (.next <| .here) .nil) .nil))) ?_
     refine WX_x0 22 rfl (by kernel_rfl) (B5 sz_63 (A8 rfl <| Ba rfl <| Ao rfl <| Ap rfl <| A8 rfl <| Ba rfl <| Az rfl <| Ab) (Ab) (i := 0) rfl rfl rfl rfl (by simp [Value.oneCell']) (.here) ⟨(fun h => nomatch h), ?_⟩)
     refine C7 (by kernel_rfl) ?_ _
     refine Ad <| A9 <| Ay rfl (.agg Ez (A8 rfl <| Ba rfl <| Ao rfl <| Ap rfl <| A8 rfl <| Ba rfl <| Az rfl <| Ab) rfl rfl (Bk 0 rfl) .nil) ?_
     show _ = _
     rw [sold_at hti hlow, ← Ch hi, ← lot_at hl]; unfold othTo at hob ⊢; simp only [List.take_of_length_le (show (biddingL s l ring).length ≤ k by omega)]; rfl
end Go.Proofs.Ytaikojfonleccaa
namespace Go.Proofs.Ytaikojfonleccaa
open Go.RowKit
theorem bd_102 : Body Try.prog 102 := Bt (by kernel_rfl)
theorem bd_16 : Body Try.prog 16 := Bt (by kernel_rfl)
theorem bd_72 : Body Try.prog 72 := Bt (by kernel_rfl)
theorem el_63 : ElemT Try.prog 63 2 16 (.agg #[.int .i64 0, .int .i64 0]) := elemT_of (by kernel_rfl) rfl (by decide)
theorem Dc : SliceT Try.prog 34 63 2 := Et (by kernel_rfl)
def allTo (s : Sale) (ring : List Int) (k : Nat) : List Res := (List.range k).map fun i => soldS s i ring
theorem allTo_succ {s : Sale} {ring : List Int} {k : Nat} : allTo s ring (k + 1) = allTo s ring k ++ [soldS s k ring] := by unfold allTo; rw [List.range_succ, List.map_append]; rfl
theorem allTo_length {s : Sale} {ring : List Int} {k : Nat} : (allTo s ring k).length = k := by simp [allTo]
set_option maxRecDepth 100000 in
theorem refAll_ok {F : Heap} {vs vb vl vn vd : Value} {s : Sale} (hr : SaleR F vs vb vl vn vd s) (hv : ValidS s) {vr : Value} {ring : List Int} (hx : Ints F vr ring) : Ok Try.prog 72 [.agg #[vs, .int .i64 s.premium, .int .i64 s.fee, .int .i64 s.days, vb, vl, vn, vd], vr].toArray F fun u F' => Sl F' u 2 Res.enc (allS s ring) := by
 refine Ok.intro Try.func72 rfl Try.ntmps72 rfl fun w0 => ?_
 have hL1 := hr.lots.plain.lt
 have hnl := hv.nl
 refine Ag <| Ai fun ds => Bn rfl (Cf (Ak rfl) rfl fun b1 hb1 nb1 => ?_)
 refine Aa rfl (Ae Ac) ?_
 refine Ah <| Ad <| Ag <| Ai fun ds => Aa rfl (Ae Ac) ?_
 refine Ah <| Ad <| Ag <| Ag <| Ai fun ds => Aa rfl (Ae Ac) ?_
 refine Ah <| Ad <| A4 <| Bz [5, 6, 7, 8, 9, 10, 11, 12, 13, 14, 15, 16, 17, 18, 19, 20] (fun m e σ => ∃ k : Nat, m + k = s.lots.length ∧ e 6 = .int .i64 (k : Int) ∧ ∃ v R, e 5 = v ∧ Own 63 2 v (allTo s ring k).length ((allTo s ring k).flatMap Res.enc) R ∧ σ = ⟨F, (b1, bx 27 [vs, .int .i64 s.premium, .int .i64 s.fee, .int .i64 s.days, vb, vl, vn, vd]) :: R⟩) (s.lots.length) ?_ ?_
 · exact ⟨0, by omega, (Ab), _, _, (Al rfl <| Ab), Own.nil, rfl⟩
 ·
  rintro m e _ ⟨k, hm9, hs6, v5, R5, hs5, ho, rfl⟩; have hal := allTo_length (s := s) (ring := ring) (k := k)
  by_cases hlt : k < s.lots.length
  ·
   refine Ag <| Ag <| Ai fun ds => Aa rfl (Af (As rfl hs6)) ?_
   refine Aa rfl (Aj Cu (Al rfl <| Ap rfl <| Ao rfl <| Al rfl <| Ab)) ?_
   refine Aa rfl (Aq Db (Ab) (Cell.own 0 rfl rfl)) ?_
   refine Aa rfl (Bg Dd (Ab) hr.lots.plain) ?_
   refine Aa rfl (Bs (Ao rfl <| Al rfl <| Ab) (Ab)) ?_
   refine Ah <| Ad <| Ar (Ab) (by first | rfl | exact decide_eq_true (by omega)) ?_
   refine Aw <| Ad <| Ag <| A4 <| Ai fun ds => Aa rfl (Af (Az rfl <| Al rfl <| As rfl hs5)) ?_
   refine Aa rfl (Bh Ca (Az rfl <| Ao rfl <| Ap rfl <| Ao rfl <| Al rfl <| Ab) rfl rfl (Bk 0 rfl)) ?_
   refine Aa rfl (Af (Az rfl <| Ao rfl <| Al rfl <| As rfl hs6)) ?_
   refine Aa rfl (Af (Ba rfl <| Ap rfl <| Az rfl <| Ak rfl)) ?_
   refine Bw rfl (Bc bd_102 A2 (.cons (Ao rfl <| Ab) (.cons (Al rfl <| Ab) (.cons (Ab) .nil))) (refSold_ok hr hv hx hlt) (fun _ _ h => h)) ?_
   refine Bn rfl (C9 (offs := [(0, 2)]) (zl := [.int .i64 0, .int .i64 0]) Dc zr_63 rfl (.cons (Ab) rfl .nil) (by intro i p h; rcases i with _ | i <;> simp at h <;> subst h <;> rfl) (.cons rfl rfl (Nat.le_of_ble_eq_true rfl) (.cons (.here) (.cons (.next <| .here) .nil)) .nil) (by decide) (by decide) fun b3 hb3 nb3 => ?_)
   refine Bn rfl (Cw Dc el_63 (Az rfl <| Al rfl <| Ab) ho (Ab) (C6 (s := 2) 0 rfl rfl (by simp [Value.oneCell'])) (by omega) (by omega) (.s <| .s <| .z) .last fun v4 R5 ho6 => ?_)
   have ho2 := ho6.snoc (x := soldS s k ring) rfl rfl
   refine Aa rfl (Ae (Ab)) ?_
   refine Ah <| Bf <| Ad <| Cc (fun _ _ h => h.drop (.cons _ <| .cons_cons _ <| .refl _)) ?_
   refine Ai fun ds => Aa rfl (Af (Ba rfl <| Az rfl <| Al rfl <| As rfl hs6)) ?_
   refine Aa rfl (Bp (Ab) Ac rfl (by omega) (by omega)) ?_
   refine Aa rfl (Ae (Ab)) ?_
   refine Ah <| Ad ⟨_, m - 1, Off.eq (C3 rfl <| Be), by omega, ?_⟩
   refine ⟨k + 1, by omega, (Ab), _, _, (Ao rfl <| Al rfl <| Ab), by rw [allTo_succ]; exact ho2, rfl⟩
  ·
   refine Ag <| Ag <| Ai fun ds => Aa rfl (Af (As rfl hs6)) ?_
   refine Aa rfl (Aj Cu (Al rfl <| Ap rfl <| Ao rfl <| Al rfl <| Ab)) ?_
   refine Aa rfl (Aq Db (Ab) (Cell.own 0 rfl rfl)) ?_
   refine Aa rfl (Bg Dd (Ab) hr.lots.plain) ?_
   refine Aa rfl (Bs (Ao rfl <| Al rfl <| Ab) (Ab)) ?_
   refine Ah <| Ad <| Am (Ab) (by first | rfl | exact decide_eq_false (by omega)) ?_
   obtain rfl : k = s.lots.length := by omega
   refine Ec (σ := ⟨_, _⟩) (by rfl) ho (.s <| .z) .last fun F7 hF8 hz9 => ?_
   have hn2 := ho.sl (fun _ => rfl) hz9 (by have := allTo_length (s := s) (ring := ring) (k := s.lots.length); omega)
   refine Bv ?_
   refine Bm <| Bm <| Bo <| Ad <| Ag <| Ai fun ds => Aa rfl (Af (Az rfl <| Al rfl <| As rfl hs5)) ?_
   refine Aa rfl (Ae (Ab)) ?_
   refine Ah <| Ad <| A9 <| Ay rfl (.tmp (Ab) .nil) ?_
   exact hn2
theorem nextE_bad {s : Sale} {p : Int} (h : (checkS s).2.2 ≠ 0) : nextE s p = (0, (checkS s).2.2) := if_pos h
theorem nextE_range {s : Sale} {p : Int} (h : (checkS s).2.2 = 0) (h2 : inB 0 100000 p = false) : nextE s p = (0, 7) := by unfold nextE; rw [if_neg (fun k => k h), if_pos h2]
theorem nextE_ok {s : Sale} {p : Int} (h : (checkS s).2.2 = 0) (h2 : inB 0 100000 p = true) : nextE s p = (behindS s p, 0) := by unfold nextE; rw [if_neg (fun k => k h), if_neg (by rw [h2]; decide)]
theorem in_bounds {lo hi z : Int} (h : inB lo hi z = true) : lo ≤ z ∧ z ≤ hi := by simpa [inB] using h
theorem enterE_bad {s : Sale} {ring : List Int} (h : (checkS s).2.2 ≠ 0) : enterErr s ring = (checkS s).2.2 := if_pos h
theorem enterE_ring {s : Sale} {ring : List Int} (h : (checkS s).2.2 = 0) : enterErr s ring = ringErr s ring := if_neg (fun k => k h)
theorem enterE_ok {s : Sale} {ring : List Int} (h : enterErr s ring = 0) : (checkS s).2.2 = 0 ∧ ringErr s ring = 0 := by
 by_cases h0 : (checkS s).2.2 = 0
 · rw [enterE_ring h0] at h; exact ⟨h0, h⟩
 · rw [enterE_bad h0] at h; exact absurd h h0
def sellE (s : Sale) (ring : List Int) : List Res × Int := if enterErr s ring ≠ 0 then ([], enterErr s ring) else (allS s ring, 0)
theorem sellE_bad {s : Sale} {ring : List Int} {e : Int} (h : enterErr s ring = e) (he : e ≠ 0) : sellE s ring = ([], e) := by subst h; exact if_pos he
theorem sellE_ok {s : Sale} {ring : List Int} (h : enterErr s ring = 0) : sellE s ring = (allS s ring, 0) := if_neg (fun k => k h)
def SellR (F : Heap) (u : Value) (p : List Res × Int) : Prop := ∃ v, u = .tuple #[v, .int .i64 p.2] ∧ Sl F v 2 Res.enc p.1
theorem SellR.mono {F F' : Heap} {u : Value} {p : List Res × Int} (h : SellR F u p) (hF : F.le F') : SellR F' u p := by obtain ⟨v, h1, h2⟩ := h; exact ⟨v, h1, h2.mono hF⟩
end Go.Proofs.Ytaikojfonleccaa
namespace Go.Proofs.Ytaikojfonleccaa
open Go.RowKit
theorem zr_156 : ZeroT Try.prog 156 (.agg #[.slice none 0 0, .int .i64 0, .int .i64 0, .int .i64 0, .slice none 0 0, .slice none 0 0, .slice none 0 0, .slice none 0 0, .int .i64 0, .int .i64 0, .int .i64 0, .int .i64 0, .int .i64 0, .int .i64 0, .int .i64 0, .int .i64 0, .int .i64 0, .int .i64 0, .int .i64 0, .int .i64 0, .int .i64 0, .int .i64 0, .int .i64 0, .int .i64 0, .int .i64 0, .int .i64 0, .int .i64 0, .int .i64 0, .int .i64 0, .int .i64 0, .int .i64 0, .int .i64 0, .int .i64 0, .int .i64 0, .int .i64 0, .int .i64 0, .int .i64 0, .int .i64 0, .int .i64 0, .int .i64 0, .int .i64 0, .int .i64 0, .int .i64 0, .int .i64 0, .int .i64 0, .int .i64 0, .int .i64 0, .int .i64 0, .int .i64 0, .int .i64 0, .int .i64 0, .int .i64 0, .int .i64 0, .int .i64 0, .int .i64 0, .int .i64 0, .int .i64 0, .int .i64 0, .int .i64 0, .int .i64 0, .int .i64 0, .int .i64 0, .int .i64 0, .int .i64 0, .int .i64 0, .int .i64 0, .int .i64 0, .int .i64 0, .int .i64 0, .int .i64 0, .int .i64 0, .int .i64 0, .int .i64 0, .int .i64 0, .int .i64 0, .int .i64 0, .int .i64 0, .int .i64 0, .int .i64 0, .int .i64 0, .map none]) := Dl (by kernel_rfl)
theorem bd_15 : Body Try.prog 15 := Bt (by kernel_rfl)
theorem bd_66 : Body Try.prog 66 := Bt (by kernel_rfl)
theorem bt_156 : BuildT Try.prog 156 [.slice none 0 0, .int .i64 0, .int .i64 0, .int .i64 0, .slice none 0 0, .slice none 0 0, .slice none 0 0, .slice none 0 0, .int .i64 0, .int .i64 0, .int .i64 0, .int .i64 0, .int .i64 0, .int .i64 0, .int .i64 0, .int .i64 0, .int .i64 0, .int .i64 0, .int .i64 0, .int .i64 0, .int .i64 0, .int .i64 0, .int .i64 0, .int .i64 0, .int .i64 0, .int .i64 0, .int .i64 0, .int .i64 0, .int .i64 0, .int .i64 0, .int .i64 0, .int .i64 0, .int .i64 0, .int .i64 0, .int .i64 0, .int .i64 0, .int .i64 0, .int .i64 0, .int .i64 0, .int .i64 0, .int .i64 0, .int .i64 0, .int .i64 0, .int .i64 0, .int .i64 0, .int .i64 0, .int .i64 0, .int .i64 0, .int .i64 0, .int .i64 0, .int .i64 0, .int .i64 0, .int .i64 0, .int .i64 0, .int .i64 0, .int .i64 0, .int .i64 0, .int .i64 0, .int .i64 0, .int .i64 0, .int .i64 0, .int .i64 0, .int .i64 0, .int .i64 0, .int .i64 0, .int .i64 0, .int .i64 0, .int .i64 0, .int .i64 0, .int .i64 0, .int .i64 0, .int .i64 0, .int .i64 0, .int .i64 0, .int .i64 0, .int .i64 0, .int .i64 0, .int .i64 0, .int .i64 0, .int .i64 0, .map none] [(0, 8), (8, 36), (44, 36), (80, 1)] := E4 zr_156 (by kernel_rfl) (by decide)
theorem sz_3 : SizeT Try.prog 3 1 := Dw (by kernel_rfl)
theorem mosts_len {s : Sale} {k : Nat} : (mosts s k).length = 36 := Cs
theorem places_len {s : Sale} {k : Nat} : (places s k).length = 36 := Cs
def LookR (F : Heap) (u : Value) (Hn : List (Nat × Obj)) (vs vb vl vn vd : Value) (s : Sale) : Prop := ∃ b kb, u = .tuple #[.pointer (some ⟨b, 0, none⟩), .int .i64 0] ∧ AucX 156 F b vs vb vl vn vd kb s ∧ Hn = [(kb, mapO [])]
set_option maxRecDepth 100000 in
theorem look_ok {F : Heap} {vs vb vl vn vd : Value} {s : Sale} (hr : SaleR F vs vb vl vn vd s) (hv : ValidS s) (h0 : (checkS s).2.2 = 0) : OkN Try.prog 66 [.agg #[vs, .int .i64 s.premium, .int .i64 s.fee, .int .i64 s.days, vb, vl, vn, vd]].toArray F fun u F' Hn => LookR F' u Hn vs vb vl vn vd s := by
 refine OkN.intro Try.func66 rfl Try.ntmps66 rfl fun w0 => ?_
 have hnb := hv.nb
 have hnl := hv.nl
 have hnd := hv.nd
 have hL1 := hr.bids.plain.lt
 have hL2 := hr.bidders.plain.lt
 have hL3 := hr.lots.plain.lt
 refine Ag <| Ai fun ds => Bn rfl (Cf (Ak rfl) rfl fun b1 hb1 nb1 => ?_)
 refine Aa rfl (Ae Ac) ?_
 refine Aa rfl (Ae Ac) ?_
 refine Ah <| Ad <| Ag <| Ag <| Ai fun ds => Aa rfl (Bh Ca (Ao rfl <| Ab) rfl rfl (Bk 0 rfl)) ?_
 refine Bw rfl (Bc bd_15 A2 (.cons (Ab) .nil) (checkS_ok hr) (fun _ _ h => h)) ?_
 refine Aa rfl (Af (Ab)) ?_
 refine Aa rfl (A5 (Ab) rfl) ?_
 refine Aa rfl (A5 (Al rfl <| Ab) rfl) ?_
 refine Aa rfl (A5 (Ao rfl <| Ab) rfl) ?_
 refine Aa rfl (Ae (Ao rfl <| Ab)) ?_
 refine Aa rfl (Ae (Ao rfl <| Ab)) ?_
 refine Aa rfl (Ae (Ao rfl <| Ab)) ?_
 refine Ah <| Ad <| Ag <| Ai fun ds => Aa rfl (Af (Ab)) ?_
 refine Aa rfl (B7 (Ab) Ac) ?_
 refine Ah <| Ad <| Am (Ab) (decide_eq_false (fun h => h h0)) ?_
 refine Aw <| Ad <| Ag <| Ai fun ds => Aa rfl (Bh Ca (Ba rfl <| Az rfl <| Al rfl <| Ab) rfl rfl (Bk 0 rfl)) ?_
 refine Bn rfl (x_makeMap fun b2 hb2 nb2 => ?_)
 refine Aa rfl (C0 bt_156 (.cons (Al rfl <| Ab) rfl (.cons (Ab) rfl .nil)) (.cons rfl rfl (Nat.le_of_ble_eq_true rfl) (.cons (.here) (.cons (.next <| .here) (.cons (.next <| .next <| .here) (.cons (.next <| .next <| .next <| .here) (.cons (.next <| .next <| .next <| .next <| .here) (.cons (.next <| .next <| .next <| .next <| .next <| .here) (.cons (.next <| .next <| .next <| .next <| .next <| .next <| .here) (.cons (.next <| .next <| .next <| .next <| .next <| .next <| .next <| .here) .nil)))))))) (.cons rfl rfl (Nat.le_of_ble_eq_true rfl) (.cons (.next <| .next <| .next <| .next <| .next <| .next <| .next <| .next <| .next <| .next <| .next <| .next <| .next <| .next <| .next <| .next <| .next <| .next <| .next <| .next <| .next <| .next <| .next <| .next <| .next <| .next <| .next <| .next <| .next <| .next <| .next <| .next <| .next <| .next <| .next <| .next <| .next <| .next <| .next <| .next <| .next <| .next <| .next <| .next <| .next <| .next <| .next <| .next <| .next <| .next <| .next <| .next <| .next <| .next <| .next <| .next <| .next <| .next <| .next <| .next <| .next <| .next <| .next <| .next <| .next <| .next <| .next <| .next <| .next <| .next <| .next <| .next <| .next <| .next <| .next <| .next <| .next <| .next <| .next <| .next <| .here) .nil) .nil))) ?_
 refine Bn rfl (Cf (Ab) rfl fun b3 hb3 nb3 => ?_)
 refine Aa rfl (Ae (Ab)) ?_
 refine Ah <| Ad <| Ag <| Ag <| Ai fun ds => Aa rfl (Aj Cy (A8 rfl <| Ao rfl <| Ab)) ?_
 refine Aa rfl (Aq Df (Ab) (Cell.own 2 rfl rfl)) ?_
 refine Aa rfl (Bg Dm (Ab) hr.bids.plain) ?_
 refine Aa rfl (Af Ac) ?_
 refine Ah <| Ad <| A4 <| Bz [8, 9, 26, 27, 28, 29, 30, 31, 32, 33, 34, 35, 36, 37, 38, 39, 40, 41, 42, 43, 44, 45, 46, 47, 48, 49, 50, 51, 52, 53] (fun m e σ => ∃ k : Nat, m + k = s.bids.length ∧ e 26 = .int .i64 (k : Int) ∧ σ = ⟨F, [(b3, bx 156 (aucCells s vs vb vl vn vd (mosts s k) (places s k) (.map (some b2)))), (b2, mapO []), (b1, bx 27 [vs, .int .i64 s.premium, .int .i64 s.fee, .int .i64 s.days, vb, vl, vn, vd])]⟩) (s.bids.length) ?_ ?_
 · (refine ⟨0, by omega, (Ab), ?_⟩; rw [mosts_zero, places_zero]; rfl)
 ·
  rintro m e _ ⟨k, hm9, hs26, rfl⟩
  by_cases hlt : k < s.bids.length
  ·
   have hbd := hv.bd k hlt
   obtain ⟨l, hl⟩ := Int.eq_ofNat_of_zero_le hbd.2.2.1
   obtain ⟨c, hc⟩ := Int.eq_ofNat_of_zero_le hbd.1
   have hl6 : l < 6 := by omega
   have hc6 : c < 6 := by omega
   refine Ag <| Ai fun ds => Aa rfl (Bs (As rfl hs26) (Ap rfl <| Al rfl <| Ab)) ?_
   refine Ah <| Ad <| Ag <| Ar (Ab) (by first | rfl | exact decide_eq_true (by omega)) ?_
   refine Aw <| Ad <| Ag <| A4 <| Ag <| Ai fun ds => Aa rfl (Af (Al rfl <| As rfl hs26)) ?_
   refine Aa rfl (Bj  Dm (Ao rfl <| Ap rfl <| Ao rfl <| Ab) hr.bids.plain (Ao rfl <| As rfl hs26) rfl hlt) ?_
   refine Aa rfl (Bh agg_72 (Ab) rfl rfl (hr.bids.whole hlt)) ?_
   refine Bn rfl (B6 zr_72 rfl fun b5 hb5 nb5 => ?_)
   refine Aa rfl (Ae (Ao rfl <| Al rfl <| Ab)) ?_
   refine Cl (B5 sz_72 (Al rfl <| Ab) (Ao rfl <| Ab) (i := 0) rfl rfl rfl rfl Bid.enc_one (.here) ?_)
   refine Ah <| Ad <| Du (.inl rfl) (fun _ _ h => h) (.cons_cons _ <| .cons _ <| .cons_cons _ <| .cons_cons _ <| .refl _) [23] (by kernel_rfl) fun ds => ?_
   refine Bb 0 rfl (by kernel_rfl) (by kernel_rfl) (by kernel_rfl) (by kernel_rfl) rfl rfl (fun _ h => h.drop (.cons_cons _ <| .cons _ <| .cons_cons _ <| .cons_cons _ <| .refl _)) (fun _ _ _ h => h) (Af (Az rfl <| Ao rfl <| Ap rfl <| Az rfl <| Ab)) ?_
   refine Bb 1 rfl (by kernel_rfl) (by kernel_rfl) (by kernel_rfl) (by kernel_rfl) rfl rfl (fun _ h => h.drop (.cons_cons _ <| .cons _ <| .cons_cons _ <| .cons_cons _ <| .refl _)) (fun _ _ _ h => h) (Aj Fa (Ao rfl <| Ab)) ?_
   refine Bb 2 rfl (by kernel_rfl) (by kernel_rfl) (by kernel_rfl) (by kernel_rfl) rfl rfl (fun _ h => h.drop (.cons_cons _ <| .cons _ <| .cons_cons _ <| .cons_cons _ <| .refl _)) (fun _ _ _ h => h) (Aq Bi (Ab) (Cell.own 0 rfl rfl)) ?_
   refine Bb 3 rfl (by kernel_rfl) (by kernel_rfl) (by kernel_rfl) (by kernel_rfl) rfl rfl (fun _ h => h.drop (.cons_cons _ <| .cons _ <| .cons_cons _ <| .cons_cons _ <| .refl _)) (fun _ _ _ h => h) (Aj D8 (Az rfl <| Ab)) ?_
   refine Bb 4 rfl (by kernel_rfl) (by kernel_rfl) (by kernel_rfl) (by kernel_rfl) rfl rfl (fun _ h => h.drop (.cons_cons _ <| .cons _ <| .cons_cons _ <| .cons_cons _ <| .refl _)) (fun _ _ _ h => h) (Aq Bi (Ab) (Cell.own 0 rfl rfl)) ?_
   refine Bb 5 rfl (by kernel_rfl) (by kernel_rfl) (by kernel_rfl) (by kernel_rfl) rfl rfl (fun _ h => h.drop (.cons_cons _ <| .cons _ <| .cons_cons _ <| .cons_cons _ <| .refl _)) (fun _ _ _ h => h) (Af (Ba rfl <| Ao rfl <| Al rfl <| Ap rfl <| Az rfl <| Ab)) ?_
   refine Bb 6 rfl (by kernel_rfl) (by kernel_rfl) (by kernel_rfl) (by kernel_rfl) rfl rfl (fun _ h => h.drop (.cons_cons _ <| .cons _ <| .cons_cons _ <| .cons_cons _ <| .refl _)) (fun _ _ _ h => h) (Aj Fa (Az rfl <| Ao rfl <| Al rfl <| Ab)) ?_
   refine Bb 7 rfl (by kernel_rfl) (by kernel_rfl) (by kernel_rfl) (by kernel_rfl) rfl rfl (fun _ h => h.drop (.cons_cons _ <| .cons _ <| .cons_cons _ <| .cons_cons _ <| .refl _)) (fun _ _ _ h => h) (Aq Bi (Ab) (Cell.own 0 rfl rfl)) ?_
   refine Bb 8 rfl (by kernel_rfl) (by kernel_rfl) (by kernel_rfl) (by kernel_rfl) rfl rfl (fun _ h => h.drop (.cons_cons _ <| .cons _ <| .cons_cons _ <| .cons_cons _ <| .refl _)) (fun _ _ _ h => h) (Aj D8 (Ba rfl <| Al rfl <| Ab)) ?_
   refine Bb 9 rfl (by kernel_rfl) (by kernel_rfl) (by kernel_rfl) (by kernel_rfl) rfl rfl (fun _ h => h.drop (.cons_cons _ <| .cons _ <| .cons_cons _ <| .cons_cons _ <| .refl _)) (fun _ _ _ h => h) (Aq Bi (Ab) (Cell.own 0 rfl rfl)) ?_
   refine Bb 10 rfl (by kernel_rfl) (by kernel_rfl) (by kernel_rfl) (by kernel_rfl) rfl rfl (fun _ h => h.drop (.cons_cons _ <| .cons _ <| .cons_cons _ <| .cons_cons _ <| .refl _)) (fun _ _ _ h => h) (Aj E9 (Ba rfl <| Ao rfl <| Al rfl <| Ab)) ?_
   refine Bb 11 rfl (by kernel_rfl) (by kernel_rfl) (by kernel_rfl) (by kernel_rfl) rfl rfl (fun _ h => h.drop (.cons_cons _ <| .cons _ <| .cons_cons _ <| .cons_cons _ <| .refl _)) (fun _ _ _ h => h) (Aq Bi (Ab) (Cell.own 0 rfl rfl)) ?_
   refine Bb 12 rfl (by kernel_rfl) (by kernel_rfl) (by kernel_rfl) (by kernel_rfl) rfl rfl (fun _ h => h.drop (.cons_cons _ <| .cons _ <| .cons_cons _ <| .cons_cons _ <| .refl _)) (fun _ _ _ h => h) (Af (Ba rfl <| Az rfl <| Ab)) ?_
   refine Bb 13 rfl (by kernel_rfl) (by kernel_rfl) (by kernel_rfl) (by kernel_rfl) rfl rfl (fun _ h => h.drop (.cons_cons _ <| .cons _ <| .cons_cons _ <| .cons_cons _ <| .refl _)) (fun _ _ _ h => h) (Bp (Ab) Ac rfl (by omega) (by omega)) ?_
   refine Bb 14 rfl (by kernel_rfl) (by kernel_rfl) (by kernel_rfl) (by kernel_rfl) rfl rfl (fun _ h => h.drop (.cons_cons _ <| .cons _ <| .cons_cons _ <| .cons_cons _ <| .refl _)) (fun _ _ _ h => h) (Ce (Ba rfl <| Az rfl <| Al rfl <| Ab)) ?_
   refine Bb 15 rfl (by kernel_rfl) (by kernel_rfl) (by kernel_rfl) (by kernel_rfl) rfl rfl (fun _ h => h.drop (.cons_cons _ <| .cons _ <| .cons_cons _ <| .cons_cons _ <| .refl _)) (fun _ _ _ h => h) (Aj Fo (Ab)) ?_
   refine Bb 16 rfl (by kernel_rfl) (by kernel_rfl) (by kernel_rfl) (by kernel_rfl) rfl rfl (fun _ h => h.drop (.cons_cons _ <| .cons _ <| .cons_cons _ <| .cons_cons _ <| .refl _)) (fun _ _ _ h => h) (B4 (k := l) E5 (Ab) (Ba rfl <| Az rfl <| Al rfl <| Ab) (by rw [Ch hlt]; exact hl) hl6) ?_
   refine Bb 17 rfl (by kernel_rfl) (by kernel_rfl) (by kernel_rfl) (by kernel_rfl) rfl rfl (fun _ h => h.drop (.cons_cons _ <| .cons _ <| .cons_cons _ <| .cons_cons _ <| .refl _)) (fun _ _ _ h => h) (B4 (k := c) E6 (Ab) (Ba rfl <| Az rfl <| Ab) (by rw [Ch hlt]; exact hc) hc6) ?_
   refine Bb 19 rfl (by kernel_rfl) (by kernel_rfl) (by kernel_rfl) (by kernel_rfl) rfl rfl (fun _ h => h.drop (.cons_cons _ <| .cons _ <| .cons_cons _ <| .cons_cons _ <| .refl _)) (fun _ _ _ h => h) (Ce (Ba rfl <| Az rfl <| Ab)) ?_
   refine Bb 20 rfl (by kernel_rfl) (by kernel_rfl) (by kernel_rfl) (by kernel_rfl) rfl rfl (fun _ h => h.drop (.cons_cons _ <| .cons _ <| .cons_cons _ <| .cons_cons _ <| .refl _)) (fun _ _ _ h => h) (Aj fd_156_2 (Ab)) ?_
   refine Bb 21 rfl (by kernel_rfl) (by kernel_rfl) (by kernel_rfl) (by kernel_rfl) rfl rfl (fun _ h => h.drop (.cons_cons _ <| .cons _ <| .cons_cons _ <| .cons_cons _ <| .refl _)) (fun _ _ _ h => h) (B4 (k := l) E5 (Ab) (Ba rfl <| Az rfl <| Ab) (by rw [Ch hlt]; exact hl) hl6) ?_
   refine WX_x0 18 rfl (by kernel_rfl) (x_storeK sz_3 (Ao rfl <| Al rfl <| Ab) rfl (Ba rfl <| Al rfl <| Ab) (i := 1) rfl (by simp only [aucCells_length mosts_len places_len]; omega) rfl (.next <| .here) ⟨fun _ _ => (fun _ h => h.drop (.cons_cons _ <| .cons _ <| .cons_cons _ <| .cons_cons _ <| .refl _)), ?_⟩)
   refine Bb 22 rfl (by kernel_rfl) (by kernel_rfl) (by kernel_rfl) (by kernel_rfl) rfl rfl (fun _ h => h.drop (.cons_cons _ <| .cons _ <| .cons_cons _ <| .cons_cons _ <| .refl _)) (fun _ _ _ h => h) (B4 (k := c) E6 (Ab) (Ba rfl <| Ao rfl <| Al rfl <| Ab) (by rw [Ch hlt]; exact hc) hc6) ?_
   refine WX_x0 23 rfl (by kernel_rfl) (x_storeK sz_3 (Ab) rfl (Ba rfl <| Ab) (i := 1) rfl (by simp only [List.length_set, aucCells_length mosts_len places_len]; omega) rfl (.next <| .here) ⟨(fun h => nomatch h), ?_⟩)
   refine C7 (by kernel_rfl) ?_ _
   refine Bf <| Ad <| Cc (fun _ _ h => h.drop (.cons _ <| .cons_cons _ <| .cons_cons _ <| .cons_cons _ <| .refl _)) ?_
   refine Ai fun ds => Aa rfl (Bp (A8 rfl <| Ba rfl <| Az rfl <| As rfl hs26) Ac rfl (by omega) (by omega)) ?_
   refine Aa rfl (Af (Ab)) ?_
   refine Ah <| Ad ⟨_, m - 1, Off.eq (C3 rfl <| Ed rfl <| E0 rfl <| Eo rfl <| Be), by omega, ?_⟩
   refine ⟨k + 1, by omega, (Ab), ?_⟩
   rw [← auc_set2 mosts_len hl6 hc6 hl hc, ← auc_set1 hl6 hc6 hl hc, ← Ch hlt]
  ·
   refine Ag <| Ai fun ds => Aa rfl (Bs (As rfl hs26) (Ap rfl <| Al rfl <| Ab)) ?_
   refine Ah <| Ad <| Ag <| Am (Ab) (by first | rfl | exact decide_eq_false (by omega)) ?_
   obtain rfl : k = s.bids.length := by omega
   refine Bv ?_
   refine Bm <| Bm <| Bo <| Ad <| Ag <| Cz (i := 0) rfl hb3 (.here) fun F6 hF7 hz => ?_
   replace hr := hr.mono hF7
   refine Ai fun ds => Aa rfl (Af (Al rfl <| Ap rfl <| Az rfl <| Ab)) ?_
   refine Aa rfl (Ae (Ab)) ?_
   refine Aa rfl (Ae Ac) ?_
   refine Ah <| Ad <| A9 <| post_retN rfl (.tmp (Al rfl <| Ab) (.tmp (Ab) .nil)) (.cons_cons _ <| .cons _ <| .refl _) ?_
   exact ⟨_, _, rfl, ⟨hr, hz⟩, rfl⟩
set_option maxRecDepth 100000 in
theorem look_bad {F : Heap} {vs vb vl vn vd : Value} {s : Sale} (hr : SaleR F vs vb vl vn vd s) (h0 : (checkS s).2.2 ≠ 0) : Ok Try.prog 66 [.agg #[vs, .int .i64 s.premium, .int .i64 s.fee, .int .i64 s.days, vb, vl, vn, vd]].toArray F fun u _ => u = .tuple #[.pointer none, .int .i64 (checkS s).2.2] := by
 refine Ok.intro Try.func66 rfl Try.ntmps66 rfl fun w0 => ?_
 refine Ag <| Ai fun ds => Bn rfl (Cf (Ak rfl) rfl fun b1 hb1 nb1 => ?_)
 refine Aa rfl (Ae Ac) ?_
 refine Aa rfl (Ae Ac) ?_
 refine Ah <| Ad <| Ag <| Ag <| Ai fun ds => Aa rfl (Bh Ca (Ao rfl <| Ab) rfl rfl (Bk 0 rfl)) ?_
 refine Bw rfl (Bc bd_15 A2 (.cons (Ab) .nil) (checkS_ok hr) (fun _ _ h => h)) ?_
 refine Aa rfl (Af (Ab)) ?_
 refine Aa rfl (A5 (Ab) rfl) ?_
 refine Aa rfl (A5 (Al rfl <| Ab) rfl) ?_
 refine Aa rfl (A5 (Ao rfl <| Ab) rfl) ?_
 refine Aa rfl (Ae (Ao rfl <| Ab)) ?_
 refine Aa rfl (Ae (Ao rfl <| Ab)) ?_
 refine Aa rfl (Ae (Ao rfl <| Ab)) ?_
 refine Ah <| Ad <| Ag <| Ai fun ds => Aa rfl (Af (Ab)) ?_
 refine Aa rfl (B7 (Ab) Ac) ?_
 refine Ah <| Ad <| Ar (Ab) (decide_eq_true h0) ?_
 refine Ag <| Ai fun ds => Aa rfl (Af (Ao rfl <| Ab)) ?_
 refine Aa rfl (Ae Ac) ?_
 refine Aa rfl (Ae (Al rfl <| Ab)) ?_
 refine Ah <| Ad <| A9 <| A6 ?_
 refine Ay rfl (.tmp (Al rfl <| Ab) (.tmp (Ab) .nil)) ?_
 rfl
set_option maxRecDepth 100000 in
theorem next_ok {F : Heap} {vs vb vl vn vd : Value} {s : Sale} (hr : SaleR F vs vb vl vn vd s) (p : Int) : Ok Try.prog 17 [.agg #[vs, .int .i64 s.premium, .int .i64 s.fee, .int .i64 s.days, vb, vl, vn, vd], .int .i64 p].toArray F fun u _ => u = .tuple #[.int .i64 (nextE s p).1, .int .i64 (nextE s p).2] := by
 refine Ok.intro Try.func17 rfl Try.ntmps17 rfl fun w0 => ?_
 by_cases h0 : (checkS s).2.2 = 0
 ·
  refine Ag <| Ai fun ds => Bn rfl (Cf (Ak rfl) rfl fun b1 hb1 nb1 => ?_)
  refine Aa rfl (Ae Ac) ?_
  refine Aa rfl (Ae Ac) ?_
  refine Ah <| Ad <| Ag <| Ai fun ds => Aa rfl (Bh Ca (Ao rfl <| Ab) rfl rfl (Bk 0 rfl)) ?_
  refine Bn rfl (x_callN bd_66 A2 (.cons (Ab) .nil) (look_ok hr (Di h0) h0) fun v2 F3 R6 hr4 hF5 => ?_)
  obtain ⟨ba, kb, rfl, hX, rfl⟩ := hr4
  refine Aa rfl (Af (Ab)) ?_
  refine Aa rfl (A5 (Ab) rfl) ?_
  refine Aa rfl (A5 (Al rfl <| Ab) rfl) ?_
  refine Aa rfl (Ae (Al rfl <| Ab)) ?_
  refine Aa rfl (Ae (Al rfl <| Ab)) ?_
  refine Ah <| Ad <| Ag <| A4 <| Ag <| Ai fun ds => Aa rfl (Af (Ab)) ?_
  refine Aa rfl (B7 (Ab) Ac) ?_
  refine Aa rfl (Ae (Ab)) ?_
  refine Ah <| Ad <| Am (Ab) (by decide) ?_
  by_cases hp : inB 0 100000 p = true
  ·
   refine Ag <| Ai fun ds => Aa rfl (Af (Ba rfl <| Az rfl <| Al rfl <| Ak rfl)) ?_
   refine Bn rfl (B0 Bq C8 rfl (.cons (Ab) .nil) rfl rfl (by decide) (by simp [Value.oneCell']) fun b7 hb7 nb7 => ?_)
   refine Bu (i := 0) rfl hb7 .here fun F8 hF9 hz10 => ?_
   replace hX := hX.mono hF9
   have hsl11 := Co hz10
   refine Bw rfl (Bc Do A2 (.cons Ac (.cons Ac (.cons (Ab) .nil))) (B3 _ _ hsl11) (fun _ _ h => h)) ?_
   refine Aa rfl (Ae (Ab)) ?_
   refine Ah <| Ad <| Am (Ab) (by simp [hp]) ?_
   have hpb := in_bounds hp
   refine Aw <| Bf <| Ad <| Ag <| Ai fun ds => Aa rfl (Af (Ba rfl <| Ab)) ?_
   refine Aa rfl (Af (A8 rfl <| Ao rfl <| Ak rfl)) ?_
   refine Bw rfl (Bc bd_67 A2 (.cons (Al rfl <| Ab) (.cons (Ab) .nil)) (behind_ok hX (Di h0) hpb.1 (by omega)) (fun _ _ h => h)) ?_
   refine Aa rfl (Ae (Ab)) ?_
   refine Aa rfl (Ae Ac) ?_
   refine Ah <| Ad <| A9 <| Ay rfl (.tmp (Al rfl <| Ab) (.tmp (Ab) .nil)) ?_
   show _ = _
   rw [nextE_ok h0 hp]; rfl
  ·
   replace hp : inB 0 100000 p = false := by simpa using hp
   refine Ag <| Ai fun ds => Aa rfl (Af (Ba rfl <| Az rfl <| Al rfl <| Ak rfl)) ?_
   refine Bn rfl (B0 Bq C8 rfl (.cons (Ab) .nil) rfl rfl (by decide) (by simp [Value.oneCell']) fun b12 hb12 nb12 => ?_)
   refine Bu (i := 0) rfl hb12 .here fun F13 hF14 hz15 => ?_
   have hsl16 := Co hz15
   refine Bw rfl (Bc Do A2 (.cons Ac (.cons Ac (.cons (Ab) .nil))) (B3 _ _ hsl16) (fun _ _ h => h)) ?_
   refine Aa rfl (Ae (Ab)) ?_
   refine Ah <| Ad <| Ar (Ab) (by simp [hp]) ?_
   refine Ag <| Ai fun ds => Aa rfl (Ae Ac) ?_
   refine Aa rfl (Ae Ac) ?_
   refine Ah <| Ad <| A9 <| Bd (A6 ?_)
   refine Ay rfl (.tmp (Al rfl <| Ab) (.tmp (Ab) .nil)) ?_
   show _ = _
   rw [nextE_range h0 hp]; rfl
 ·
  refine Ag <| Ai fun ds => Bn rfl (Cf (Ak rfl) rfl fun b17 hb17 nb17 => ?_)
  refine Aa rfl (Ae Ac) ?_
  refine Aa rfl (Ae Ac) ?_
  refine Ah <| Ad <| Ag <| Ai fun ds => Aa rfl (Bh Ca (Ao rfl <| Ab) rfl rfl (Bk 0 rfl)) ?_
  refine Bw rfl (Bc bd_66 A2 (.cons (Ab) .nil) (look_bad hr h0) (fun _ _ h => h)) ?_
  refine Aa rfl (Af (Ab)) ?_
  refine Aa rfl (A5 (Ab) rfl) ?_
  refine Aa rfl (A5 (Al rfl <| Ab) rfl) ?_
  refine Aa rfl (Ae (Al rfl <| Ab)) ?_
  refine Aa rfl (Ae (Al rfl <| Ab)) ?_
  refine Ah <| Ad <| Ag <| A4 <| Ag <| Ai fun ds => Aa rfl (Af (Ab)) ?_
  refine Aa rfl (B7 (Ab) Ac) ?_
  refine Aa rfl (Ae (Ab)) ?_
  refine Ah <| Ad <| Ar (Ab) (decide_eq_true h0) ?_
  refine Ag <| Ai fun ds => Aa rfl (Af (Ao rfl <| Al rfl <| Ab)) ?_
  refine Aa rfl (Ae Ac) ?_
  refine Aa rfl (Ae (Al rfl <| Ab)) ?_
  refine Ah <| Ad <| A9 <| Bd (A6 ?_)
  refine Ay rfl (.tmp (Al rfl <| Ab) (.tmp (Ab) .nil)) ?_
  show _ = _
  rw [nextE_bad h0]; rfl
end Go.Proofs.Ytaikojfonleccaa
namespace Go.Proofs.Ytaikojfonleccaa
open Go.RowKit
theorem asc_not {xs : List Int} (h : notAsc xs = false) {i : Nat} (hi : i < xs.length) (h0 : 0 < i) : ¬ xs[i] ≤ xs[i - 1] := fun hle => by rw [notAsc_at h0 hi hle] at h; cases h
def SetOf (set : Nat) (ring : List Int) : Prop := ∀ t : Nat, set.testBit t = decide ((t : Int) ∈ ring)
def EnterR (F : Heap) (u : Value) (Hn : List (Nat × Obj)) (vs vb vl vn vd : Value) (s : Sale) (ring : List Int) : Prop := ∃ b kb set, u = .tuple #[.pointer (some ⟨b, 0, none⟩), .int .i64 ((set : Nat) : Int), .int .i64 0] ∧ AucX 156 F b vs vb vl vn vd kb s ∧ set < 64 ∧ SetOf set ring ∧ Hn = [(kb, mapO [])]
theorem ring_nat {s : Sale} (hv : ValidS s) {ring : List Int} (h : (ring.any fun z => !(inB 0 (s.bidders.length - 1) z)) = false) {k : Nat} (hk : k < ring.length) : ∃ c : Nat, ring[k] = (c : Int) ∧ c < s.bidders.length ∧ c < 6 := by
 have := in_bounds (in_of_any h hk)
 obtain ⟨c, hc⟩ := Int.eq_ofNat_of_zero_le this.1
 have := hv.nb
 exact ⟨c, hc, by omega, by omega⟩
set_option maxRecDepth 100000 in
theorem enter_ok {F : Heap} {vs vb vl vn vd : Value} {s : Sale} (hr : SaleR F vs vb vl vn vd s) {vr : Value} {ring : List Int} (hx : Ints F vr ring) (hok : enterErr s ring = 0) : OkN Try.prog 69 [.agg #[vs, .int .i64 s.premium, .int .i64 s.fee, .int .i64 s.days, vb, vl, vn, vd], vr].toArray F fun u F' Hn => EnterR F' u Hn vs vb vl vn vd s ring := by
 refine OkN.intro Try.func69 rfl Try.ntmps69 rfl fun w0 => ?_
 obtain ⟨h0, h1⟩ := enterE_ok hok
 obtain ⟨hany, hna, hl1⟩ := ringErr_ok h1
 have hL2 := hr.bidders.plain.lt
 have hlen := hx.plain.lt
 refine Ag <| Ai fun ds => Bn rfl (Cf (Ak rfl) rfl fun b1 hb1 nb1 => ?_)
 refine Aa rfl (Ae Ac) ?_
 refine Aa rfl (Ae Ac) ?_
 refine Aa rfl (Ae Ac) ?_
 refine Ah <| Ad <| Ag <| Ag <| Ai fun ds => Aa rfl (Bh Ca (Ao rfl <| Al rfl <| Ab) rfl rfl (Bk 0 rfl)) ?_
 refine Bn rfl (x_callN bd_66 A2 (.cons (Ab) .nil) (look_ok hr (Di h0) h0) fun v2 F3 R6 hr4 hF5 => ?_)
 replace hr := hr.mono hF5
 replace hx := hx.mono hF5
 obtain ⟨ba, kb, rfl, hX, rfl⟩ := hr4
 refine Aa rfl (Af (Ab)) ?_
 refine Aa rfl (A5 (Ab) rfl) ?_
 refine Aa rfl (A5 (Al rfl <| Ab) rfl) ?_
 refine Aa rfl (Ae (Al rfl <| Ab)) ?_
 refine Aa rfl (Ae (Al rfl <| Ab)) ?_
 refine Ah <| Ad <| Ag <| Ai fun ds => Aa rfl (Af (Ab)) ?_
 refine Aa rfl (B7 (Ab) Ac) ?_
 refine Ah <| Ad <| Am (Ab) (by decide) ?_
 refine Aw <| Ad <| Ag <| Ag <| Ai fun ds => Aa rfl (Aj Dg (Ba rfl <| Az rfl <| Ab)) ?_
 refine Aa rfl (Aq C1 (Ab) (Cell.own 0 rfl rfl)) ?_
 refine Aa rfl (Bg Cx (Ab) hr.bidders.plain) ?_
 refine Aa rfl (Cj (Ab) Ac rfl (by omega) (by omega)) ?_
 refine Aa rfl (Af (A8 rfl <| Al rfl <| Ak rfl)) ?_
 refine Bw rfl (Bc Do A2 (.cons Ac (.cons (Al rfl <| Ab) (.cons (Ab) .nil))) (B3 _ _ hx) (fun _ _ h => h)) ?_
 refine Ah <| Ad <| Am (Ab) hany ?_
 refine Aw <| Ad <| Ag <| Ag <| Ai fun ds => Aa rfl (Af (A8 rfl <| Ao rfl <| Al rfl <| Ak rfl)) ?_
 refine Aa rfl (Bg Bq (Ab) hx.plain) ?_
 refine Aa rfl (Af Ac) ?_
 refine Ah <| Ad <| A4 <| Bz [4, 5, 6, 7, 8, 25, 26, 27, 28, 29, 30, 31, 32, 33, 34, 35, 36, 37, 38, 39, 40, 41, 42, 43, 44, 45] (fun m e σ => ∃ (k mset : Nat), m + k = ring.length ∧ e 25 = .int .i64 (k : Int) ∧ e 5 = .int .i64 (mset : Int) ∧ e 4 = .pointer (some ⟨ba, 0, none⟩) ∧ mset < 64 ∧ SetOf mset (ring.take k) ∧ (∀ i (hi : i < ring.length), i < k → 0 < i → ¬ ring[i] ≤ ring[i - 1]) ∧ σ = ⟨F3, [(b1, bx 27 [vs, .int .i64 s.premium, .int .i64 s.fee, .int .i64 s.days, vb, vl, vn, vd]), (kb, mapO [])]⟩) (ring.length) ?_ ?_
 · exact ⟨0, 0, by omega, (Ab), (A8 rfl <| Ao rfl <| Al rfl <| Ab), (Ba rfl <| Az rfl <| Ab), by omega, fun t => by simp, fun i hi h h0 => absurd h (by omega), rfl⟩
 ·
  rintro m e _ ⟨k, mset, hm9, hs25, hs5, hs4, hm64, hbits, hasc, rfl⟩
  by_cases hlt : k < ring.length
  ·
   obtain ⟨c, hc, hcb, hc6⟩ := ring_nat (Di h0) hany hlt
   have hcp := pow_lt hc6
   refine Ag <| Ai fun ds => Aa rfl (Bs (As rfl hs25) (Ap rfl <| Al rfl <| Ab)) ?_
   refine Ah <| Ad <| Ag <| Ar (Ab) (by first | rfl | exact decide_eq_true (by omega)) ?_
   by_cases hk0 : 0 < k
   ·
    refine Aw <| Ad <| Ag <| A4 <| Ag <| Ai fun ds => Aa rfl (Af (Al rfl <| As rfl hs25)) ?_
    refine Aa rfl (Bj  Bq (Ao rfl <| Ap rfl <| Ao rfl <| Ab) hx.plain (Ao rfl <| As rfl hs25) rfl hlt) ?_
    refine Aa rfl (Aq Bi (Ab) (hx.cell1 hlt rfl)) ?_
    refine Aa rfl (Ae (Ao rfl <| Ab)) ?_
    refine Aa rfl (Ae (Al rfl <| Ab)) ?_
    refine Ah <| Ad <| Ag <| Ag <| Ai fun ds => Aa rfl (Af (Al rfl <| Ab)) ?_
    refine Aa rfl (Ck (Ab) Ac) ?_
    refine Aa rfl (Af (Ab)) ?_
    refine At rfl rfl (Ab) (decide_eq_true (by omega)) ?_
    refine Aa rfl (Af (Ao rfl <| Al rfl <| Ab)) ?_
    refine At rfl rfl (Al rfl <| Ab) (decide_eq_true (by omega)) ?_
    refine Aa rfl (Af (Ba rfl <| Ao rfl <| Ap rfl <| A8 rfl <| Az rfl <| Ao rfl <| Ak rfl)) ?_
    refine At rfl rfl (Ao rfl <| Ab) (decide_eq_true (by omega)) ?_
    refine Aa rfl (Af (Az rfl <| Ao rfl <| Ab)) ?_
    refine At rfl rfl (Ao rfl <| Al rfl <| Ab) (decide_eq_true (by omega)) ?_
    refine Aa rfl (Cj (Ab) Ac rfl (by omega) (by omega)) ?_
    refine At rfl rfl (Az rfl <| Ab) (decide_eq_true (by omega)) ?_
    refine Aa rfl (Bj (k := k - 1) Bq (Ao rfl <| Ab) hx.plain (Ab) (by omega) (by omega)) ?_
    refine At rfl rfl (Az rfl <| Al rfl <| Ab) (decide_eq_true (by omega)) ?_
    refine Aa rfl (Aq Bi (Ab) (hx.cell1 (by omega) rfl)) ?_
    refine At rfl rfl (Az rfl <| Ao rfl <| Ab) (decide_eq_true (by omega)) ?_
    refine Aa rfl (Eh (Az rfl <| Al rfl <| Ab) (Ab)) ?_
    refine Aa rfl (A3 (Az rfl <| Ao rfl <| Al rfl <| Ab) (decide_eq_true (by omega)) (Ab)) ?_
    refine Ah <| Ad <| Am (Ab) (decide_eq_false (asc_not hna hlt (by omega))) ?_
    refine Aw <| Ad <| Ai fun ds => Aa rfl (Af (A8 rfl <| Al rfl <| As rfl hs5)) ?_
    refine Aa rfl (Af (Ba rfl <| Az rfl <| Ab)) ?_
    refine Aa rfl (q_shl Ac (Ab) (k := c) hc (by omega) (show (1 : Int) * 2 ^ c = ((2 ^ c : Nat) : Int) by simp) (Int.le_trans (by decide) (Int.natCast_nonneg _)) (by omega)) ?_
    refine Aa rfl (q_or (Ao rfl <| Ab) (Ab) (m := mset) (k := 2 ^ c) rfl rfl (by omega) (by omega) rfl) ?_
    refine Aa rfl (Ae (Ab)) ?_
    refine Ah <| Bf <| Ad <| Ai fun ds => Aa rfl (Bp (A8 rfl <| Az rfl <| Ao rfl <| As rfl hs25) Ac rfl (by omega) (by omega)) ?_
    refine Aa rfl (Af (Ab)) ?_
    refine Ah <| Ad ⟨_, m - 1, Off.eq (C3 rfl <| Ed rfl <| Be), by omega, ?_⟩
    refine ⟨k + 1, mset ||| 2 ^ c, by omega, (Ab), (Ao rfl <| Ab), (A8 rfl <| Ba rfl <| As rfl hs4), mask_lt hm64 hc6, ?_, ?_, rfl⟩
    · rw [List.take_succ_eq_append_getElem hlt, hc]; exact mask_orI hbits
    · intro i hi hik h0
      rcases Nat.lt_succ_iff_lt_or_eq.1 hik with hik | rfl
      · exact hasc i hi hik h0
      · exact asc_not hna hi h0
   ·
    refine Aw <| Ad <| Ag <| A4 <| Ag <| Ai fun ds => Aa rfl (Af (Al rfl <| As rfl hs25)) ?_
    refine Aa rfl (Bj  Bq (Ao rfl <| Ap rfl <| Ao rfl <| Ab) hx.plain (Ao rfl <| As rfl hs25) rfl hlt) ?_
    refine Aa rfl (Aq Bi (Ab) (hx.cell1 hlt rfl)) ?_
    refine Aa rfl (Ae (Ao rfl <| Ab)) ?_
    refine Aa rfl (Ae (Al rfl <| Ab)) ?_
    refine Ah <| Ad <| Ag <| Ag <| Ai fun ds => Aa rfl (Af (Al rfl <| Ab)) ?_
    refine Aa rfl (Ck (Ab) Ac) ?_
    refine Aa rfl (Af (Ab)) ?_
    refine Au rfl rfl (Ab) (.inl (congrArg Value.bool (decide_eq_false (by omega)))) rfl ?_
    refine Au rfl rfl (Al rfl <| Ab) (.inl (congrArg Value.bool (decide_eq_false (by omega)))) rfl ?_
    refine Au rfl rfl (Ao rfl <| Ab) (.inl (congrArg Value.bool (decide_eq_false (by omega)))) rfl ?_
    refine Au rfl rfl (Ao rfl <| Al rfl <| Ab) (.inl (congrArg Value.bool (decide_eq_false (by omega)))) rfl ?_
    refine Au rfl rfl (Az rfl <| Ab) (.inl (congrArg Value.bool (decide_eq_false (by omega)))) rfl ?_
    refine Au rfl rfl (Az rfl <| Al rfl <| Ab) (.inl (congrArg Value.bool (decide_eq_false (by omega)))) rfl ?_
    refine Au rfl rfl (Az rfl <| Ao rfl <| Ab) (.inl (congrArg Value.bool (decide_eq_false (by omega)))) rfl ?_
    refine Aa rfl (A7 (Az rfl <| Ao rfl <| Al rfl <| Ab) (decide_eq_false (by omega)) Ac) ?_
    refine Ah <| Ad <| Am (Ab) rfl ?_
    refine Aw <| Ad <| Ai fun ds => Aa rfl (Af (A8 rfl <| Al rfl <| As rfl hs5)) ?_
    refine Aa rfl (Af (Ba rfl <| Az rfl <| Ab)) ?_
    refine Aa rfl (q_shl Ac (Ab) (k := c) hc (by omega) (show (1 : Int) * 2 ^ c = ((2 ^ c : Nat) : Int) by simp) (Int.le_trans (by decide) (Int.natCast_nonneg _)) (by omega)) ?_
    refine Aa rfl (q_or (Ao rfl <| Ab) (Ab) (m := mset) (k := 2 ^ c) rfl rfl (by omega) (by omega) rfl) ?_
    refine Aa rfl (Ae (Ab)) ?_
    refine Ah <| Bf <| Ad <| Ai fun ds => Aa rfl (Bp (A8 rfl <| Az rfl <| Ao rfl <| As rfl hs25) Ac rfl (by omega) (by omega)) ?_
    refine Aa rfl (Af (Ab)) ?_
    refine Ah <| Ad ⟨_, m - 1, Off.eq (C3 rfl <| Ed rfl <| Be), by omega, ?_⟩
    refine ⟨k + 1, mset ||| 2 ^ c, by omega, (Ab), (Ao rfl <| Ab), (A8 rfl <| Ba rfl <| As rfl hs4), mask_lt hm64 hc6, ?_, ?_, rfl⟩
    · rw [List.take_succ_eq_append_getElem hlt, hc]; exact mask_orI hbits
    · intro i hi hik h0
      exact absurd h0 (by omega)
  ·
   refine Ag <| Ai fun ds => Aa rfl (Bs (As rfl hs25) (Ap rfl <| Al rfl <| Ab)) ?_
   refine Ah <| Ad <| Ag <| Am (Ab) (by first | rfl | exact decide_eq_false (by omega)) ?_
   refine Bv ?_
   refine Bm <| Bm <| Bo <| Ad <| Ag <| Ag <| Ai fun ds => Aa rfl (Af (Al rfl <| Ap rfl <| A8 rfl <| Az rfl <| Ao rfl <| Ak rfl)) ?_
   refine Aa rfl (Bg Bq (Ab) hx.plain) ?_
   refine Aa rfl (B1 (Ab) Ac) ?_
   refine Ah <| Ad <| Am (Ab) (decide_eq_false (by omega)) ?_
   refine Aw <| Ad <| Ag <| Ai fun ds => Aa rfl (Af (Az rfl <| As rfl hs4)) ?_
   refine Aa rfl (Af (Az rfl <| Al rfl <| As rfl hs5)) ?_
   refine Aa rfl (Ae (Al rfl <| Ab)) ?_
   refine Aa rfl (Ae (Al rfl <| Ab)) ?_
   refine Aa rfl (Ae Ac) ?_
   refine Ah <| Ad <| A9 <| post_retN rfl (.tmp (Ao rfl <| Ab) (.tmp (Al rfl <| Ab) (.tmp (Ab) .nil))) (.cons _ <| .refl _) ?_
   exact ⟨_, _, _, rfl, hX, hm64, by rw [List.take_of_length_le (by omega)] at hbits; exact hbits, rfl⟩
set_option maxRecDepth 100000 in
theorem enter_bad {F : Heap} {vs vb vl vn vd : Value} {s : Sale} (hr : SaleR F vs vb vl vn vd s) {vr : Value} {ring : List Int} (hx : Ints F vr ring) (hbad : enterErr s ring ≠ 0) : Ok Try.prog 69 [.agg #[vs, .int .i64 s.premium, .int .i64 s.fee, .int .i64 s.days, vb, vl, vn, vd], vr].toArray F fun u _ => u = .tuple #[.pointer none, .int .i64 0, .int .i64 (enterErr s ring)] := by
 refine Ok.intro Try.func69 rfl Try.ntmps69 rfl fun w0 => ?_
 have hL2 := hr.bidders.plain.lt
 have hlen := hx.plain.lt
 by_cases h0 : (checkS s).2.2 = 0
 ·
  refine Ag <| Ai fun ds => Bn rfl (Cf (Ak rfl) rfl fun b1 hb1 nb1 => ?_)
  refine Aa rfl (Ae Ac) ?_
  refine Aa rfl (Ae Ac) ?_
  refine Aa rfl (Ae Ac) ?_
  refine Ah <| Ad <| Ag <| Ag <| Ai fun ds => Aa rfl (Bh Ca (Ao rfl <| Al rfl <| Ab) rfl rfl (Bk 0 rfl)) ?_
  refine Bn rfl (x_callN bd_66 A2 (.cons (Ab) .nil) (look_ok hr (Di h0) h0) fun v2 F3 R6 hr4 hF5 => ?_)
  replace hr := hr.mono hF5
  replace hx := hx.mono hF5
  obtain ⟨ba, kb, rfl, hX, rfl⟩ := hr4
  refine Aa rfl (Af (Ab)) ?_
  refine Aa rfl (A5 (Ab) rfl) ?_
  refine Aa rfl (A5 (Al rfl <| Ab) rfl) ?_
  refine Aa rfl (Ae (Al rfl <| Ab)) ?_
  refine Aa rfl (Ae (Al rfl <| Ab)) ?_
  refine Ah <| Ad <| Ag <| Ai fun ds => Aa rfl (Af (Ab)) ?_
  refine Aa rfl (B7 (Ab) Ac) ?_
  refine Ah <| Ad <| Am (Ab) (by decide) ?_
  by_cases hany : (ring.any fun z => !(inB 0 (s.bidders.length - 1) z)) = true
  ·
   refine Aw <| Ad <| Ag <| Ag <| Ai fun ds => Aa rfl (Aj Dg (Ba rfl <| Az rfl <| Ab)) ?_
   refine Aa rfl (Aq C1 (Ab) (Cell.own 0 rfl rfl)) ?_
   refine Aa rfl (Bg Cx (Ab) hr.bidders.plain) ?_
   refine Aa rfl (Cj (Ab) Ac rfl (by omega) (by omega)) ?_
   refine Aa rfl (Af (A8 rfl <| Al rfl <| Ak rfl)) ?_
   refine Bw rfl (Bc Do A2 (.cons Ac (.cons (Al rfl <| Ab) (.cons (Ab) .nil))) (B3 _ _ hx) (fun _ _ h => h)) ?_
   refine Ah <| Ad <| Ar (Ab) hany ?_
   refine Ag <| Ai fun ds => Aa rfl (Ae Ac) ?_
   refine Aa rfl (Ae Ac) ?_
   refine Aa rfl (Ae Ac) ?_
   refine Ah <| Ad <| A9 <| A6 ?_
   refine Ay rfl (.tmp (Ao rfl <| Ab) (.tmp (Al rfl <| Ab) (.tmp (Ab) .nil))) ?_
   rw [enterE_ring h0, ringErr_4 hany]; rfl
  ·
   replace hany : (ring.any fun z => !(inB 0 (s.bidders.length - 1) z)) = false := by simpa using hany
   refine Aw <| Ad <| Ag <| Ag <| Ai fun ds => Aa rfl (Aj Dg (Ba rfl <| Az rfl <| Ab)) ?_
   refine Aa rfl (Aq C1 (Ab) (Cell.own 0 rfl rfl)) ?_
   refine Aa rfl (Bg Cx (Ab) hr.bidders.plain) ?_
   refine Aa rfl (Cj (Ab) Ac rfl (by omega) (by omega)) ?_
   refine Aa rfl (Af (A8 rfl <| Al rfl <| Ak rfl)) ?_
   refine Bw rfl (Bc Do A2 (.cons Ac (.cons (Al rfl <| Ab) (.cons (Ab) .nil))) (B3 _ _ hx) (fun _ _ h => h)) ?_
   refine Ah <| Ad <| Am (Ab) hany ?_
   refine Aw <| Ad <| Ag <| Ag <| Ai fun ds => Aa rfl (Af (A8 rfl <| Ao rfl <| Al rfl <| Ak rfl)) ?_
   refine Aa rfl (Bg Bq (Ab) hx.plain) ?_
   refine Aa rfl (Af Ac) ?_
   refine Ah <| Ad <| A4 <| Bz [4, 5, 6, 7, 8, 25, 26, 27, 28, 29, 30, 31, 32, 33, 34, 35, 36, 37, 38, 39, 40, 41, 42, 43, 44, 45] (fun m e σ => ∃ (k mset : Nat), m + k = ring.length ∧ e 25 = .int .i64 (k : Int) ∧ e 5 = .int .i64 (mset : Int) ∧ e 4 = .pointer (some ⟨ba, 0, none⟩) ∧ mset < 64 ∧ SetOf mset (ring.take k) ∧ (∀ i (hi : i < ring.length), i < k → 0 < i → ¬ ring[i] ≤ ring[i - 1]) ∧ σ = ⟨F3, [(b1, bx 27 [vs, .int .i64 s.premium, .int .i64 s.fee, .int .i64 s.days, vb, vl, vn, vd]), (kb, mapO [])]⟩) (ring.length) ?_ ?_
   · exact ⟨0, 0, by omega, (Ab), (A8 rfl <| Ao rfl <| Al rfl <| Ab), (Ba rfl <| Az rfl <| Ab), by omega, fun t => by simp, fun i hi h h0 => absurd h (by omega), rfl⟩
   ·
    rintro m e _ ⟨k, mset, hm9, hs25, hs5, hs4, hm64, hbits, hasc, rfl⟩
    by_cases hlt : k < ring.length
    ·
     obtain ⟨c, hc, hcb, hc6⟩ := ring_nat (Di h0) hany hlt
     have hcp := pow_lt hc6
     refine Ag <| Ai fun ds => Aa rfl (Bs (As rfl hs25) (Ap rfl <| Al rfl <| Ab)) ?_
     refine Ah <| Ad <| Ag <| Ar (Ab) (by first | rfl | exact decide_eq_true (by omega)) ?_
     by_cases hk0 : 0 < k
     ·
      refine Aw <| Ad <| Ag <| A4 <| Ag <| Ai fun ds => Aa rfl (Af (Al rfl <| As rfl hs25)) ?_
      refine Aa rfl (Bj  Bq (Ao rfl <| Ap rfl <| Ao rfl <| Ab) hx.plain (Ao rfl <| As rfl hs25) rfl hlt) ?_
      refine Aa rfl (Aq Bi (Ab) (hx.cell1 hlt rfl)) ?_
      refine Aa rfl (Ae (Ao rfl <| Ab)) ?_
      refine Aa rfl (Ae (Al rfl <| Ab)) ?_
      refine Ah <| Ad <| Ag <| Ag <| Ai fun ds => Aa rfl (Af (Al rfl <| Ab)) ?_
      refine Aa rfl (Ck (Ab) Ac) ?_
      refine Aa rfl (Af (Ab)) ?_
      refine At rfl rfl (Ab) (decide_eq_true (by omega)) ?_
      refine Aa rfl (Af (Ao rfl <| Al rfl <| Ab)) ?_
      refine At rfl rfl (Al rfl <| Ab) (decide_eq_true (by omega)) ?_
      refine Aa rfl (Af (Ba rfl <| Ao rfl <| Ap rfl <| A8 rfl <| Az rfl <| Ao rfl <| Ak rfl)) ?_
      refine At rfl rfl (Ao rfl <| Ab) (decide_eq_true (by omega)) ?_
      refine Aa rfl (Af (Az rfl <| Ao rfl <| Ab)) ?_
      refine At rfl rfl (Ao rfl <| Al rfl <| Ab) (decide_eq_true (by omega)) ?_
      refine Aa rfl (Cj (Ab) Ac rfl (by omega) (by omega)) ?_
      refine At rfl rfl (Az rfl <| Ab) (decide_eq_true (by omega)) ?_
      refine Aa rfl (Bj (k := k - 1) Bq (Ao rfl <| Ab) hx.plain (Ab) (by omega) (by omega)) ?_
      refine At rfl rfl (Az rfl <| Al rfl <| Ab) (decide_eq_true (by omega)) ?_
      refine Aa rfl (Aq Bi (Ab) (hx.cell1 (by omega) rfl)) ?_
      refine At rfl rfl (Az rfl <| Ao rfl <| Ab) (decide_eq_true (by omega)) ?_
      refine Aa rfl (Eh (Az rfl <| Al rfl <| Ab) (Ab)) ?_
      refine Aa rfl (A3 (Az rfl <| Ao rfl <| Al rfl <| Ab) (decide_eq_true (by omega)) (Ab)) ?_
      refine Ah <| Ad ?_
      by_cases hle : ring[k] ≤ ring[k - 1]
      ·
       refine Ar (Ab) (decide_eq_true hle) ?_
       refine Ag <| Ai fun ds => Aa rfl (Ae Ac) ?_
       refine Aa rfl (Ae Ac) ?_
       refine Aa rfl (Ae Ac) ?_
       refine Ah <| Ad <| A9 <| A6 (Bd (A6 (A6 (Bd (A6 ?_)))))
       refine Ay rfl (.tmp (Ao rfl <| Ab) (.tmp (Al rfl <| Ab) (.tmp (Ab) .nil))) ?_
       rw [enterE_ring h0, ringErr_2 hany (notAsc_at (by omega) hlt hle)]; rfl
      ·
       refine Am (Ab) (decide_eq_false hle) ?_
       refine Aw <| Ad <| Ai fun ds => Aa rfl (Af (A8 rfl <| Al rfl <| As rfl hs5)) ?_
       refine Aa rfl (Af (Ba rfl <| Az rfl <| Ab)) ?_
       refine Aa rfl (q_shl Ac (Ab) (k := c) hc (by omega) (show (1 : Int) * 2 ^ c = ((2 ^ c : Nat) : Int) by simp) (Int.le_trans (by decide) (Int.natCast_nonneg _)) (by omega)) ?_
       refine Aa rfl (q_or (Ao rfl <| Ab) (Ab) (m := mset) (k := 2 ^ c) rfl rfl (by omega) (by omega) rfl) ?_
       refine Aa rfl (Ae (Ab)) ?_
       refine Ah <| Bf <| Ad <| Ai fun ds => Aa rfl (Bp (A8 rfl <| Az rfl <| Ao rfl <| As rfl hs25) Ac rfl (by omega) (by omega)) ?_
       refine Aa rfl (Af (Ab)) ?_
       refine Ah <| Ad ⟨_, m - 1, Off.eq (C3 rfl <| Ed rfl <| Be), by omega, ?_⟩
       refine ⟨k + 1, mset ||| 2 ^ c, by omega, (Ab), (Ao rfl <| Ab), (A8 rfl <| Ba rfl <| As rfl hs4), mask_lt hm64 hc6, ?_, ?_, rfl⟩
       · rw [List.take_succ_eq_append_getElem hlt, hc]; exact mask_orI hbits
       · intro i hi hik h0
         rcases Nat.lt_succ_iff_lt_or_eq.1 hik with hik | rfl
         · exact hasc i hi hik h0
         · exact hle
     ·
      refine Aw <| Ad <| Ag <| A4 <| Ag <| Ai fun ds => Aa rfl (Af (Al rfl <| As rfl hs25)) ?_
      refine Aa rfl (Bj  Bq (Ao rfl <| Ap rfl <| Ao rfl <| Ab) hx.plain (Ao rfl <| As rfl hs25) rfl hlt) ?_
      refine Aa rfl (Aq Bi (Ab) (hx.cell1 hlt rfl)) ?_
      refine Aa rfl (Ae (Ao rfl <| Ab)) ?_
      refine Aa rfl (Ae (Al rfl <| Ab)) ?_
      refine Ah <| Ad <| Ag <| Ag <| Ai fun ds => Aa rfl (Af (Al rfl <| Ab)) ?_
      refine Aa rfl (Ck (Ab) Ac) ?_
      refine Aa rfl (Af (Ab)) ?_
      refine Au rfl rfl (Ab) (.inl (congrArg Value.bool (decide_eq_false (by omega)))) rfl ?_
      refine Au rfl rfl (Al rfl <| Ab) (.inl (congrArg Value.bool (decide_eq_false (by omega)))) rfl ?_
      refine Au rfl rfl (Ao rfl <| Ab) (.inl (congrArg Value.bool (decide_eq_false (by omega)))) rfl ?_
      refine Au rfl rfl (Ao rfl <| Al rfl <| Ab) (.inl (congrArg Value.bool (decide_eq_false (by omega)))) rfl ?_
      refine Au rfl rfl (Az rfl <| Ab) (.inl (congrArg Value.bool (decide_eq_false (by omega)))) rfl ?_
      refine Au rfl rfl (Az rfl <| Al rfl <| Ab) (.inl (congrArg Value.bool (decide_eq_false (by omega)))) rfl ?_
      refine Au rfl rfl (Az rfl <| Ao rfl <| Ab) (.inl (congrArg Value.bool (decide_eq_false (by omega)))) rfl ?_
      refine Aa rfl (A7 (Az rfl <| Ao rfl <| Al rfl <| Ab) (decide_eq_false (by omega)) Ac) ?_
      refine Ah <| Ad <| Am (Ab) rfl ?_
      refine Aw <| Ad <| Ai fun ds => Aa rfl (Af (A8 rfl <| Al rfl <| As rfl hs5)) ?_
      refine Aa rfl (Af (Ba rfl <| Az rfl <| Ab)) ?_
      refine Aa rfl (q_shl Ac (Ab) (k := c) hc (by omega) (show (1 : Int) * 2 ^ c = ((2 ^ c : Nat) : Int) by simp) (Int.le_trans (by decide) (Int.natCast_nonneg _)) (by omega)) ?_
      refine Aa rfl (q_or (Ao rfl <| Ab) (Ab) (m := mset) (k := 2 ^ c) rfl rfl (by omega) (by omega) rfl) ?_
      refine Aa rfl (Ae (Ab)) ?_
      refine Ah <| Bf <| Ad <| Ai fun ds => Aa rfl (Bp (A8 rfl <| Az rfl <| Ao rfl <| As rfl hs25) Ac rfl (by omega) (by omega)) ?_
      refine Aa rfl (Af (Ab)) ?_
      refine Ah <| Ad ⟨_, m - 1, Off.eq (C3 rfl <| Ed rfl <| Be), by omega, ?_⟩
      refine ⟨k + 1, mset ||| 2 ^ c, by omega, (Ab), (Ao rfl <| Ab), (A8 rfl <| Ba rfl <| As rfl hs4), mask_lt hm64 hc6, ?_, ?_, rfl⟩
      · rw [List.take_succ_eq_append_getElem hlt, hc]; exact mask_orI hbits
      · intro i hi hik h0
        exact absurd h0 (by omega)
    ·
     refine Ag <| Ai fun ds => Aa rfl (Bs (As rfl hs25) (Ap rfl <| Al rfl <| Ab)) ?_
     refine Ah <| Ad <| Ag <| Am (Ab) (by first | rfl | exact decide_eq_false (by omega)) ?_
     by_cases h1 : ring.length = 1
     ·
      refine Bv ?_
      refine Bm <| Bm <| Bo <| Ad <| Ag <| Ag <| Ai fun ds => Aa rfl (Af (Al rfl <| Ap rfl <| A8 rfl <| Az rfl <| Ao rfl <| Ak rfl)) ?_
      refine Aa rfl (Bg Bq (Ab) hx.plain) ?_
      refine Aa rfl (B1 (Ab) Ac) ?_
      refine Ah <| Ad <| Ar (Ab) (decide_eq_true (by omega)) ?_
      refine Ag <| Ai fun ds => Aa rfl (Ae Ac) ?_
      refine Aa rfl (Ae Ac) ?_
      refine Aa rfl (Ae Ac) ?_
      refine Ah <| Ad <| A9 <| A6 ?_
      refine Ay rfl (.tmp (Ao rfl <| Ab) (.tmp (Al rfl <| Ab) (.tmp (Ab) .nil))) ?_
      rw [enterE_ring h0, ringErr_3 hany (asc_of fun i hi h0 => hasc i hi (by omega) h0) h1]; rfl
     ·
      refine Bv ?_
      refine Bm <| Bm <| Bo <| Ad <| Ag <| Ag <| Ai fun ds => Aa rfl (Af (Al rfl <| Ap rfl <| A8 rfl <| Az rfl <| Ao rfl <| Ak rfl)) ?_
      refine Aa rfl (Bg Bq (Ab) hx.plain) ?_
      refine Aa rfl (B1 (Ab) Ac) ?_
      refine Ah <| Ad <| Am (Ab) (decide_eq_false (by omega)) ?_
      refine Aw <| Ad <| Ag <| Ai fun ds => Aa rfl (Af (Az rfl <| As rfl hs4)) ?_
      refine Aa rfl (Af (Az rfl <| Al rfl <| As rfl hs5)) ?_
      refine Aa rfl (Ae (Al rfl <| Ab)) ?_
      refine Aa rfl (Ae (Al rfl <| Ab)) ?_
      refine Aa rfl (Ae Ac) ?_
      refine Ah <| Ad <| A9 <| Ay rfl (.tmp (Ao rfl <| Ab) (.tmp (Al rfl <| Ab) (.tmp (Ab) .nil))) ?_
      exact absurd ((enterE_ring h0).trans (ringErr_0 hany (asc_of fun i hi h0 => hasc i hi (by omega) h0) h1)) hbad
 ·
  refine Ag <| Ai fun ds => Bn rfl (Cf (Ak rfl) rfl fun b8 hb8 nb8 => ?_)
  refine Aa rfl (Ae Ac) ?_
  refine Aa rfl (Ae Ac) ?_
  refine Aa rfl (Ae Ac) ?_
  refine Ah <| Ad <| Ag <| Ag <| Ai fun ds => Aa rfl (Bh Ca (Ao rfl <| Al rfl <| Ab) rfl rfl (Bk 0 rfl)) ?_
  refine Bw rfl (Bc bd_66 A2 (.cons (Ab) .nil) (look_bad hr h0) (fun _ _ h => h)) ?_
  refine Aa rfl (Af (Ab)) ?_
  refine Aa rfl (A5 (Ab) rfl) ?_
  refine Aa rfl (A5 (Al rfl <| Ab) rfl) ?_
  refine Aa rfl (Ae (Al rfl <| Ab)) ?_
  refine Aa rfl (Ae (Al rfl <| Ab)) ?_
  refine Ah <| Ad <| Ag <| Ai fun ds => Aa rfl (Af (Ab)) ?_
  refine Aa rfl (B7 (Ab) Ac) ?_
  refine Ah <| Ad <| Ar (Ab) (decide_eq_true h0) ?_
  refine Ag <| Ai fun ds => Aa rfl (Af (Ao rfl <| Ab)) ?_
  refine Aa rfl (Ae Ac) ?_
  refine Aa rfl (Ae Ac) ?_
  refine Aa rfl (Ae (Ao rfl <| Ab)) ?_
  refine Ah <| Ad <| A9 <| A6 ?_
  refine Ay rfl (.tmp (Ao rfl <| Ab) (.tmp (Al rfl <| Ab) (.tmp (Ab) .nil))) ?_
  rw [enterE_bad h0]; rfl
end Go.Proofs.Ytaikojfonleccaa
namespace Go.Proofs.Ytaikojfonleccaa
open Go.RowKit
theorem bd_100 : Body Try.prog 100 := Bt (by kernel_rfl)
theorem bd_101 : Body Try.prog 101 := Bt (by kernel_rfl)
theorem fd_156_3 : FieldT Try.prog 156 3 80 := B8 (by kernel_rfl)
theorem one_152 : OneT Try.prog 152 := Ds (by kernel_rfl)
theorem mapK : MapT Try.prog 152 3 34 (.slice none 0 0) := ⟨Try.underlying152, Dl (by kernel_rfl), Go.Maps.int_keyed Try.underlying3⟩
theorem isKn {z : Nat} (h : z < 64) : IsK Try.prog 3 (.int .i64 (z : Int)) := isK_int Try.underlying3 (by omega) (by omega)
theorem Ef {m k : Nat} : decide ((((m / 2 ^ k) &&& 1 : Nat) : Int) = 0) = !(m.testBit k) := by
 rw [← Eb]
 have : (m / 2 ^ k) &&& 1 = 0 ∨ (m / 2 ^ k) &&& 1 = 1 := by
   have := Nat.and_one_is_mod (m / 2 ^ k); omega
 rcases this with h | h <;> rw [h] <;> rfl
theorem strong_or {s : Sale} {l : Nat} {mem : Nat → Bool} : strongP s l mem = -1 ∨ ∃ o : Nat, o < s.bidders.length ∧ strongP s l mem = (o : Int) := by
 rcases strong_spec (s := s) (l := l) (mem := mem) s.bidders.length with ⟨h, -⟩ | ⟨b, h1, -, h, -⟩
 · exact .inl h
 · exact .inr ⟨b, h1, h⟩
theorem sellP_none {s : Sale} {set l : Nat} (h : strongP s l (fun _ => true) = -1) : sellP s set l = ⟨-1, 0⟩ := if_pos (.inl (by omega))
theorem sellP_low {s : Sale} {set l o : Nat} (h : strongP s l (fun _ => true) = (o : Int)) (h2 : mostN s l o < (s.lot l).reserve) : sellP s set l = ⟨-1, 0⟩ := by
 unfold sellP; rw [h]; exact if_pos (.inr (by simpa using h2))
theorem sellP_at {s : Sale} {set l o : Nat} (h : strongP s l (fun _ => true) = (o : Int)) (h2 : ¬ mostN s l o < (s.lot l).reserve) : sellP s set l = ⟨o, climbS s (s.lot l).reserve (othersTo s l set o (strongP s l set.testBit) s.bidders.length) (mostN s l o)⟩ := by
 unfold sellP; rw [h]; simp only [Int.toNat_natCast]; exact if_neg (by omega)
def SoldR (F : Heap) (H' : List (Nat × Obj)) (u : Value) (kb : Nat) (s : Sale) (set : Nat) : Prop := ∃ es, H' = [(kb, mapO es)] ∧ KnownC Try.prog 3 F es s ∧ Sl F u 2 Res.enc (sellL s set s.lots.length)
set_option maxRecDepth 100000 in
theorem sell_ok {F : Heap} {b kb : Nat} {vs vb vl vn vd : Value} {s : Sale} (hX : AucX 156 F b vs vb vl vn vd kb s) (hv : ValidS s) {es : List (Value × Value)} (hK : KnownC Try.prog 3 F es s) {set : Nat} (hset : set < 64) : OkM Try.prog 70 [.pointer (some ⟨b, 0, none⟩), .int .i64 (set : Int)].toArray F [(kb, mapO es)] fun u F' H' => SoldR F' H' u kb s set := by
 refine OkM.intro Try.func70 rfl Try.ntmps70 rfl fun w0 => ?_
 have hL1 := hX.sale.lots.plain.lt
 have hL2 := hX.sale.bidders.plain.lt
 have hnl := hv.nl
 have hnb := hv.nb
 rcases keys_or (es := es) (.int .i64 (set : Int)) with hno | ⟨j, u, hj⟩
 ·
  refine Ag <| Ai fun ds => Aa rfl (Ae Ac) ?_
  refine Ah <| Ad <| Ag <| Ai fun ds => Aa rfl (Af (Al rfl <| Ak rfl)) ?_
  refine Aa rfl (Ce (Ab)) ?_
  refine Aa rfl (Aj fd_156_3 (Ab)) ?_
  refine Aa rfl (Aq one_152 (Ab) hX.known_cell.cell) ?_
  refine Aa rfl (Af (Az rfl <| Al rfl <| Ak rfl)) ?_
  refine Aa rfl (q_lookup2N mapK (Al rfl <| Ab) (Ab) (i := 0) rfl (isKn hset) hK.keys hno) ?_
  refine Aa rfl (Af (Ab)) ?_
  refine Aa rfl (A5 (Ab) rfl) ?_
  refine Aa rfl (A5 (Al rfl <| Ab) rfl) ?_
  refine Aa rfl (Ae (Al rfl <| Ab)) ?_
  refine Aa rfl (Ae (Al rfl <| Ab)) ?_
  refine Ah <| Ad <| Ag <| Ag <| Ai fun ds => Aa rfl (Af (Ab)) ?_
  refine Ah <| Ad <| Am (Ab) rfl ?_
  refine Aw <| Ad <| Ag <| Ag <| Ai fun ds => Aa rfl (Af (Ba rfl <| Az rfl <| Al rfl <| Ak rfl)) ?_
  refine Aa rfl (Ce (Ab)) ?_
  refine Aa rfl (Aj Fp (Ab)) ?_
  refine Aa rfl (Aj Cu (Ab)) ?_
  refine Aa rfl (Aq Db (Ab) (CellF.own hX.blk rfl).cell) ?_
  refine Aa rfl (Bg Dd (Ab) hX.sale.lots.plain) ?_
  refine Aa rfl (Af Ac) ?_
  refine Ah <| Ad <| A4 <| Bz [5, 7, 8, 9, 10, 11, 12, 30, 31, 32, 33, 34, 35, 36, 37, 38, 39, 40, 41, 42, 43, 44, 45, 46, 47, 48, 49, 50, 51, 52, 53, 54, 55, 56, 57, 58, 59, 60, 61, 62, 63, 64, 65, 66, 67, 68, 69, 70, 71, 72, 73, 74, 75, 76, 77, 78, 79, 80, 81, 82, 83, 84, 85, 86, 87, 88, 89, 90, 91, 92, 93, 94, 95, 96, 97, 98, 99, 100, 101, 102, 103, 104, 105, 106, 107, 108, 109, 110, 111, 112, 113, 114] (fun m e σ => ∃ k : Nat, m + k = s.lots.length ∧ e 30 = .int .i64 (k : Int) ∧ ∃ v R, e 5 = v ∧ Own 63 2 v (sellL s set k).length ((sellL s set k).flatMap Res.enc) R ∧ σ = ⟨F, (kb, mapO es) :: R⟩) (s.lots.length) ?_ ?_
  · exact ⟨0, by omega, (Ab), _, _, (Ba rfl <| Al rfl <| Ab), Own.nil, rfl⟩
  ·
   rintro m e _ ⟨k, hm9, hs30, v5, R5, hs5, ho, rfl⟩; have hsl := sellL_length (s := s) (set := set) (k := k)
   by_cases hlt : k < s.lots.length
   ·
    have hk6 : k < 6 := by omega
    obtain ⟨e1, e2, e3, e4, e5⟩ := lot_facts hv hlt
    refine Ag <| Ai fun ds => Aa rfl (Bs (As rfl hs30) (Ap rfl <| Al rfl <| Ab)) ?_
    refine Ah <| Ad <| Ag <| Ar (Ab) (by first | rfl | exact decide_eq_true (by omega)) ?_
    rcases strong_or (s := s) (l := k) (mem := fun _ => true) with hso | ⟨o, hob, hso⟩
    ·
     refine Aw <| Ad <| Ag <| A4 <| Ag <| Ai fun ds => Aa rfl (Af (Al rfl <| As rfl hs30)) ?_
     refine Aa rfl (Bj (k := k) Dd (Ao rfl <| Ap rfl <| Ao rfl <| Ab) hX.sale.lots.plain (Ao rfl <| As rfl hs30) rfl hlt) ?_
     refine Aa rfl (Bh agg_69 (Ab) rfl rfl (hX.sale.lots.whole hlt)) ?_
     refine Bn rfl (B6 zr_69 rfl fun b2 hb2 nb2 => ?_)
     refine Aa rfl (Ae (Ao rfl <| Al rfl <| Ab)) ?_
     refine Cl (B5 sz_69 (Al rfl <| Ab) (Ao rfl <| Ab) (i := 0) rfl rfl rfl rfl Lot.enc_one (.here) ?_)
     refine Ah <| Ad <| Ag <| Ai fun ds => Aa rfl (Af (Az rfl <| Ao rfl <| Ap rfl <| A8 rfl <| Az rfl <| Ak rfl)) ?_
     refine Aa rfl (Af (Al rfl <| Ab)) ?_
     refine Bw rfl (Bc bd_100 A2 (.cons (Al rfl <| Ab) (.cons (Ab) (.cons Ac .nil))) (strongest_all hX hv hk6) (fun _ _ h => h.trans (by rw [hso]))) ?_
     refine Aa rfl (Ae (Ab)) ?_
     refine Ah <| Ad <| Ag <| Ag <| Cb (.inl rfl) (fun _ _ h => h) (by kernel_rfl) (by kernel_rfl) fun ds => ?_
     refine A0 rfl (Af (Ab)) ?_
     refine A0 rfl (Bs (Ab) Ac) ?_
     refine A0 rfl (Af (Ab)) ?_
     refine Ax rfl rfl (Ab) (.inl (congrArg Value.bool (by decide))) rfl ?_
     refine Ax rfl rfl (Al rfl <| Ab) (.inl (congrArg Value.bool (by decide))) rfl ?_
     refine Ax rfl rfl (Ao rfl <| Ab) (.inl (congrArg Value.bool (by decide))) rfl ?_
     refine Ax rfl rfl (Ao rfl <| Al rfl <| Ab) (.inl (congrArg Value.bool (by decide))) rfl ?_
     refine Ax rfl rfl (Az rfl <| Ab) (.inl (congrArg Value.bool (by decide))) rfl ?_
     refine Ax rfl rfl (Az rfl <| Al rfl <| Ab) (.inl (congrArg Value.bool (by decide))) rfl ?_
     refine Ax rfl rfl (Az rfl <| Ao rfl <| Ab) (.inl (congrArg Value.bool (by decide))) rfl ?_
     refine Ax rfl rfl (Az rfl <| Ao rfl <| Al rfl <| Ab) (.inl (congrArg Value.bool (by decide))) rfl ?_
     refine Ax rfl rfl (Ba rfl <| Ab) (.inl (congrArg Value.bool (by decide))) rfl ?_
     refine Ax rfl rfl (Ba rfl <| Al rfl <| Ab) (.inl (congrArg Value.bool (by decide))) rfl ?_
     refine Ax rfl rfl (Ba rfl <| Ao rfl <| Ab) (.inl (congrArg Value.bool (by decide))) rfl ?_
     refine A0 rfl (A3 (Ba rfl <| Ao rfl <| Al rfl <| Ab) (by decide) Ac) ?_
     refine B9 ?_
     refine Ad <| Ar (Ab) rfl ?_
     have hP := sellP_none (set := set) hso
     refine Ag <| Ai fun ds => Aa rfl (Af (A8 rfl <| Ba rfl <| Al rfl <| As rfl hs5)) ?_
     refine Aa rfl (C0 bt_63 (.cons Ac rfl .nil) (.cons rfl rfl (Nat.le_of_ble_eq_true rfl) (.cons (.here) .nil) .nil)) ?_
     refine Bn rfl (C9 (offs := [(0, 2)]) (zl := [.int .i64 0, .int .i64 0]) Dc zr_63 rfl (.cons (Ab) rfl .nil) (by intro i p h; rcases i with _ | i <;> simp at h <;> subst h <;> rfl) (.cons rfl rfl (Nat.le_of_ble_eq_true rfl) (.cons (.here) (.cons (.next <| .here) .nil)) .nil) (by decide) (by decide) fun b3 hb3 nb3 => ?_)
     refine Bn rfl (Cw Dc el_63 (Ao rfl <| Ab) ho (Ab) (C6 (s := 2) 0 rfl rfl (by simp [Value.oneCell'])) (by omega) (by omega) (.s <| .s <| .s <| .z) .last fun v4 R5 ho6 => ?_)
     have ho2 := ho6.snoc (x := sellP s set k) rfl (by rw [hP]; rfl)
     refine Aa rfl (Ae (Ab)) ?_
     refine Ah <| Ad <| Bv ?_
     refine Bm (Bo ?_)
     refine Ad <| Cc (fun _ _ h => h.drop (.cons _ <| .cons _ <| .cons_cons _ <| .refl _)) ?_
     refine Ai fun ds => Aa rfl (Bp (A8 rfl <| Ba rfl <| Az rfl <| Ao rfl <| As rfl hs30) Ac rfl (by omega) (by omega)) ?_
     refine Aa rfl (Af (Ab)) ?_
     refine Ah <| Ad ⟨_, m - 1, Off.eq (D1 rfl <| Be), by omega, ?_⟩
     refine ⟨k + 1, by omega, (Ab), _, _, (Ao rfl <| Ab), by rw [sellL_succ]; exact ho2, rfl⟩
    ·
     have ho6 : o < 6 := by omega
     refine Aw <| Ad <| Ag <| A4 <| Ag <| Ai fun ds => Aa rfl (Af (Al rfl <| As rfl hs30)) ?_
     refine Aa rfl (Bj (k := k) Dd (Ao rfl <| Ap rfl <| Ao rfl <| Ab) hX.sale.lots.plain (Ao rfl <| As rfl hs30) rfl hlt) ?_
     refine Aa rfl (Bh agg_69 (Ab) rfl rfl (hX.sale.lots.whole hlt)) ?_
     refine Bn rfl (B6 zr_69 rfl fun b7 hb7 nb7 => ?_)
     refine Aa rfl (Ae (Ao rfl <| Al rfl <| Ab)) ?_
     refine Cl (B5 sz_69 (Al rfl <| Ab) (Ao rfl <| Ab) (i := 0) rfl rfl rfl rfl Lot.enc_one (.here) ?_)
     refine Ah <| Ad <| Ag <| Ai fun ds => Aa rfl (Af (Az rfl <| Ao rfl <| Ap rfl <| A8 rfl <| Az rfl <| Ak rfl)) ?_
     refine Aa rfl (Af (Al rfl <| Ab)) ?_
     refine Bw rfl (Bc bd_100 A2 (.cons (Al rfl <| Ab) (.cons (Ab) (.cons Ac .nil))) (strongest_all hX hv hk6) (fun _ _ h => h.trans (by rw [hso]))) ?_
     refine Aa rfl (Ae (Ab)) ?_
     refine Ah <| Ad <| Ag <| Ag <| Cb (.inl rfl) (fun _ _ h => h) (by kernel_rfl) (by kernel_rfl) fun ds => ?_
     refine A0 rfl (Af (Ab)) ?_
     refine A0 rfl (Bs (Ab) Ac) ?_
     refine A0 rfl (Af (Ab)) ?_
     refine A1 rfl rfl (Ab) (decide_eq_false (by omega)) ?_
     refine A0 rfl (Af (Ba rfl <| Az rfl <| Al rfl <| Ap rfl <| A8 rfl <| Az rfl <| Ak rfl)) ?_
     refine A1 rfl rfl (Al rfl <| Ab) (decide_eq_false (by omega)) ?_
     refine A0 rfl (Af (Ba rfl <| Ab)) ?_
     refine A1 rfl rfl (Ao rfl <| Ab) (decide_eq_false (by omega)) ?_
     refine A0 rfl (Af (Az rfl <| Al rfl <| Ab)) ?_
     refine A1 rfl rfl (Ao rfl <| Al rfl <| Ab) (decide_eq_false (by omega)) ?_
     refine A0 rfl (Ce (Ao rfl <| Ab)) ?_
     refine A1 rfl rfl (Az rfl <| Ab) (decide_eq_false (by omega)) ?_
     refine A0 rfl (Aj Fo (Ab)) ?_
     refine A1 rfl rfl (Az rfl <| Al rfl <| Ab) (decide_eq_false (by omega)) ?_
     refine A0 rfl (B4 (k := k) E5 (Ab) (Ao rfl <| Al rfl <| Ab) rfl (by omega)) ?_
     refine A1 rfl rfl (Az rfl <| Ao rfl <| Ab) (decide_eq_false (by omega)) ?_
     refine A0 rfl (B4 (k := o) E6 (Ab) (Ao rfl <| Al rfl <| Ab) rfl (by omega)) ?_
     refine A1 rfl rfl (Az rfl <| Ao rfl <| Al rfl <| Ab) (decide_eq_false (by omega)) ?_
     refine A0 rfl (Aq Bi (Ab) (hX.most_cell (by omega : k < 6) (by omega : o < 6)).cell) ?_
     refine A1 rfl rfl (Ba rfl <| Ab) (decide_eq_false (by omega)) ?_
     refine A0 rfl (Aj fd_69_2 (A8 rfl <| Ab)) ?_
     refine A1 rfl rfl (Ba rfl <| Al rfl <| Ab) (decide_eq_false (by omega)) ?_
     refine A0 rfl (Aq Bi (Ab) (Cell.own 0 rfl rfl)) ?_
     refine A1 rfl rfl (Ba rfl <| Ao rfl <| Ab) (decide_eq_false (by omega)) ?_
     refine A0 rfl (Bs (Ao rfl <| Ab) (Ab)) ?_
     refine A0 rfl (A7 (Ba rfl <| Ao rfl <| Al rfl <| Ab) (decide_eq_false (by omega)) (Ab)) ?_
     refine B9 ?_
     refine Ad ?_
     by_cases hlow : mostN s k o < (s.lot k).reserve
     ·
      refine Ar (Ab) (decide_eq_true (by rw [e1]; exact hlow)) ?_
      have hP := sellP_low (set := set) hso hlow
      refine Ag <| Ai fun ds => Aa rfl (Af (A8 rfl <| Ba rfl <| Al rfl <| As rfl hs5)) ?_
      refine Aa rfl (C0 bt_63 (.cons Ac rfl .nil) (.cons rfl rfl (Nat.le_of_ble_eq_true rfl) (.cons (.here) .nil) .nil)) ?_
      refine Bn rfl (C9 (offs := [(0, 2)]) (zl := [.int .i64 0, .int .i64 0]) Dc zr_63 rfl (.cons (Ab) rfl .nil) (by intro i p h; rcases i with _ | i <;> simp at h <;> subst h <;> rfl) (.cons rfl rfl (Nat.le_of_ble_eq_true rfl) (.cons (.here) (.cons (.next <| .here) .nil)) .nil) (by decide) (by decide) fun b8 hb8 nb8 => ?_)
      refine Bn rfl (Cw Dc el_63 (Ao rfl <| Ab) ho (Ab) (C6 (s := 2) 0 rfl rfl (by simp [Value.oneCell'])) (by omega) (by omega) (.s <| .s <| .s <| .z) .last fun v9 R10 ho11 => ?_)
      have ho2 := ho11.snoc (x := sellP s set k) rfl (by rw [hP]; rfl)
      refine Aa rfl (Ae (Ab)) ?_
      refine Ah <| Ad <| Bv ?_
      refine Bm (Bo ?_)
      refine Ad <| Cc (fun _ _ h => h.drop (.cons _ <| .cons _ <| .cons_cons _ <| .refl _)) ?_
      refine Ai fun ds => Aa rfl (Bp (A8 rfl <| Ba rfl <| Az rfl <| Ao rfl <| As rfl hs30) Ac rfl (by omega) (by omega)) ?_
      refine Aa rfl (Af (Ab)) ?_
      refine Ah <| Ad ⟨_, m - 1, Off.eq (D1 rfl <| Be), by omega, ?_⟩
      refine ⟨k + 1, by omega, (Ab), _, _, (Ao rfl <| Ab), by rw [sellL_succ]; exact ho2, rfl⟩
     ·
      refine Am (Ab) (decide_eq_false (by rw [e1]; exact hlow)) ?_
      refine Aw <| Ad <| Ag <| Ai fun ds => Aa rfl (Ae Ac) ?_
      refine Ah <| Ad <| Ag <| Ai fun ds => Aa rfl (Af (A8 rfl <| Ba rfl <| Ao rfl <| Ap rfl <| A8 rfl <| Az rfl <| Ak rfl)) ?_
      refine Aa rfl (Af (A8 rfl <| Az rfl <| Al rfl <| Ab)) ?_
      refine Aa rfl (Af (A8 rfl <| Ba rfl <| Az rfl <| Ap rfl <| A8 rfl <| Az rfl <| Ak rfl)) ?_
      refine Bw rfl (Bc bd_100 A2 (.cons (Ao rfl <| Ab) (.cons (Al rfl <| Ab) (.cons (Ab) .nil))) (strongest_set hX hv hk6 hset) (fun _ _ h => h)) ?_
      refine Aa rfl (Ae (Ab)) ?_
      refine Ah <| Ad <| Ag <| Ag <| Ai fun ds => Aa rfl (Af (A8 rfl <| Ba rfl <| Az rfl <| Ao rfl <| Al rfl <| Ap rfl <| A8 rfl <| Az rfl <| Ak rfl)) ?_
      refine Aa rfl (Ce (Ab)) ?_
      refine Aa rfl (Aj Fp (Ab)) ?_
      refine Aa rfl (Aj Dg (Ab)) ?_
      refine Aa rfl (Aq C1 (Ab) (CellF.own hX.blk rfl).cell) ?_
      refine Aa rfl (Bg Cx (Ab) hX.sale.bidders.plain) ?_
      refine Aa rfl (Af Ac) ?_
      refine Ah <| Ad <| A4 <| Bz [10, 12, 67, 68, 69, 70, 71, 72, 73, 74, 75, 76, 77, 78, 79, 80, 81, 82, 83, 84, 85, 86, 87, 88, 89, 90, 91, 92, 93, 94, 95] (fun m e σ => ∃ c : Nat, m + c = s.bidders.length ∧ e 67 = .int .i64 (c : Int) ∧ e 10 = .int .i64 (othersTo s k set (o : Int) (strongP s k set.testBit) c) ∧ σ = ⟨F, (b7, bx 69 s.lots[k].enc) :: (kb, mapO es) :: R5⟩) (s.bidders.length) ?_ ?_
      · exact ⟨0, by omega, (Ab), (Ba rfl <| Az rfl <| Ab), rfl⟩
      ·
       rintro m2 e2 _ ⟨c, hm2, ht67, ht10, rfl⟩
       by_cases hlc : c < s.bidders.length
       ·
        have hc6 : c < 6 := by omega
        refine Ag <| Ai fun ds => Aa rfl (Bs (As rfl ht67) (Ap rfl <| Al rfl <| Ab)) ?_
        refine Ah <| Ad <| Ag <| Ar (Ab) (by first | rfl | exact decide_eq_true (by omega)) ?_
        by_cases hne : (c : Int) ≠ o
        ·
         refine Aw <| Ad <| Ag <| A4 <| Ag <| Ai fun ds => Aa rfl (Af (Al rfl <| As rfl ht67)) ?_
         refine Aa rfl (Ae (Ab)) ?_
         refine Ah <| Ad <| Ag <| Ai fun ds => Aa rfl (Af (Ab)) ?_
         refine Aa rfl (Af (Az rfl <| Ap rfl <| A8 rfl <| Ba rfl <| Az rfl <| Ab)) ?_
         refine Aa rfl (B7 (Al rfl <| Ab) (Ab)) ?_
         refine Aa rfl (Af (Ab)) ?_
         refine At rfl rfl (Ab) (decide_eq_true hne) ?_
         refine Aa rfl (Af (Az rfl <| Ao rfl <| Al rfl <| Ap rfl <| Bl rfl <| Az rfl <| Ao rfl <| Ap rfl <| A8 rfl <| Az rfl <| Ak rfl)) ?_
         refine At rfl rfl (Al rfl <| Ab) (decide_eq_true hne) ?_
         refine Aa rfl (Af (Az rfl <| Al rfl <| Ab)) ?_
         refine At rfl rfl (Ao rfl <| Ab) (decide_eq_true hne) ?_
         refine Aa rfl (Ew (Al rfl <| Ab) (Ab) rfl (by show c < 64; omega) De) ?_
         refine At rfl rfl (Ao rfl <| Al rfl <| Ab) (decide_eq_true hne) ?_
         refine Aa rfl (q_and (Ab) Ac (m := set / 2 ^ c) (k := 1) rfl rfl (by have := Nat.div_le_self set (2 ^ c); omega) (by omega) rfl) ?_
         refine At rfl rfl (Az rfl <| Ab) (decide_eq_true hne) ?_
         refine Aa rfl (B1 (Ab) Ac) ?_
         refine At rfl rfl (Az rfl <| Al rfl <| Ab) (decide_eq_true hne) ?_
         refine Aa rfl (Af (Ab)) ?_
         by_cases hbit : set.testBit c = true
         ·
          refine At rfl rfl (Ab) (by first | (rw [Ef, hbit]; done) | (rw [Ef, hbit]; rfl)) ?_
          refine Aa rfl (Af (Ba rfl <| Ao rfl <| Ab)) ?_
          refine At rfl rfl (Al rfl <| Ab) (by first | (rw [Ef, hbit]; done) | (rw [Ef, hbit]; rfl)) ?_
          refine Aa rfl (Af (Ba rfl <| Az rfl <| Ao rfl <| Ap rfl <| Az rfl <| Ao rfl <| Al rfl <| Ab)) ?_
          refine At rfl rfl (Ao rfl <| Ab) (by first | (rw [Ef, hbit]; done) | (rw [Ef, hbit]; rfl)) ?_
          refine Aa rfl (B1 (Al rfl <| Ab) (Ab)) ?_
          refine At rfl rfl (Ba rfl <| Al rfl <| Ab) (decide_eq_true hne) ?_
          refine Aa rfl (A7 (Ao rfl <| Al rfl <| Ab) (by first | (rw [Ef, hbit]; done) | (rw [Ef, hbit]; rfl)) (Ab)) ?_
          refine Aa rfl (A3 (Ba rfl <| Ao rfl <| Ab) (decide_eq_true hne) (Ab)) ?_
          refine Ah <| Ad ?_
          by_cases hm : (c : Int) = (strongP s k set.testBit)
          ·
           refine Ar (Ab) (decide_eq_true hm) ?_
           refine Ai fun ds => Aa rfl (Af (A8 rfl <| Ao rfl <| As rfl ht10)) ?_
           refine Aa rfl (Af (A8 rfl <| Ao rfl <| Al rfl <| Ap rfl <| Bl rfl <| Az rfl <| Ao rfl <| Ap rfl <| A8 rfl <| Az rfl <| Ak rfl)) ?_
           refine Aa rfl (Af (A8 rfl <| Az rfl <| Ap rfl <| Bl rfl <| Ab)) ?_
           refine Aa rfl (Af (A8 rfl <| Ao rfl <| Ab)) ?_
           refine Aa rfl (Ce (Ao rfl <| Ab)) ?_
           refine Aa rfl (Aj Fo (Ab)) ?_
           refine Aa rfl (B4 (k := k) E5 (Ab) (Ao rfl <| Al rfl <| Ab) rfl (by omega)) ?_
           refine Aa rfl (B4 (k := c) E6 (Ab) (Ao rfl <| Al rfl <| Ab) rfl (by omega)) ?_
           refine Aa rfl (Aq Bi (Ab) (hX.most_cell (by omega : k < 6) (by omega : c < 6)).cell) ?_
           refine Aa rfl (q_max2 (Ba rfl <| Ab) (Ab)) ?_
           refine Aa rfl (Ae (Ab)) ?_
           refine Ah <| Bf <| Ad <| Ai fun ds => Aa rfl (Bp (A8 rfl <| Ba rfl <| Az rfl <| Al rfl <| As rfl ht67) Ac rfl (by omega) (by omega)) ?_
           refine Aa rfl (Af (Ab)) ?_
           refine Ah <| Ad ⟨_, m2 - 1, Off.eq (C3 rfl <| Ed rfl <| E0 rfl <| Eo rfl <| El rfl <| Be), by omega, ?_⟩
           exact ⟨c + 1, by omega, (Ab), by rw [othersTo_succ, if_pos (show otherOk set o (strongP s k set.testBit) c from ⟨hne, .inr hm⟩)]; exact (Ao rfl <| Ab), rfl⟩
          ·
           refine Am (Ab) (decide_eq_false hm) ?_
           refine Aw <| Bf <| Ad <| Ai fun ds => Aa rfl (Bp (A8 rfl <| Ao rfl <| As rfl ht67) Ac rfl (by omega) (by omega)) ?_
           refine Aa rfl (Af (Ab)) ?_
           refine Ah <| Ad ⟨_, m2 - 1, Off.eq (C3 rfl <| E0 rfl <| Be), by omega, ?_⟩
           exact ⟨c + 1, by omega, (Ab), by rw [othersTo_succ, if_neg (show ¬ otherOk set o (strongP s k set.testBit) c from fun h => h.2.elim (fun h => by rw [hbit] at h; cases h) hm)]; exact (A8 rfl <| Az rfl <| As rfl ht10), rfl⟩
         ·
          replace hbit : set.testBit c = false := by simpa using hbit
          refine Au rfl rfl (Ab) (.inl (congrArg Value.bool (by first | (rw [Ef, hbit]; done) | (rw [Ef, hbit]; rfl)))) rfl ?_
          refine Au rfl rfl (Al rfl <| Ab) (.inl (congrArg Value.bool (by first | (rw [Ef, hbit]; done) | (rw [Ef, hbit]; rfl)))) rfl ?_
          refine Au rfl rfl (Ao rfl <| Ab) (.inl (congrArg Value.bool (by first | (rw [Ef, hbit]; done) | (rw [Ef, hbit]; rfl)))) rfl ?_
          refine At rfl rfl (Ba rfl <| Al rfl <| Ab) (decide_eq_true hne) ?_
          refine Aa rfl (A3 (Ao rfl <| Al rfl <| Ab) (by first | (rw [Ef, hbit]; done) | (rw [Ef, hbit]; rfl)) Ac) ?_
          refine Aa rfl (A3 (Ba rfl <| Ao rfl <| Ab) (decide_eq_true hne) (Ab)) ?_
          refine Ah <| Ad <| Ar (Ab) rfl ?_
          refine Ai fun ds => Aa rfl (Af (A8 rfl <| Ao rfl <| As rfl ht10)) ?_
          refine Aa rfl (Af (A8 rfl <| Ao rfl <| Al rfl <| Ap rfl <| Bl rfl <| Az rfl <| Ao rfl <| Ap rfl <| A8 rfl <| Az rfl <| Ak rfl)) ?_
          refine Aa rfl (Af (A8 rfl <| Az rfl <| Ap rfl <| Bl rfl <| Ab)) ?_
          refine Aa rfl (Af (A8 rfl <| Ao rfl <| Ab)) ?_
          refine Aa rfl (Ce (Ao rfl <| Ab)) ?_
          refine Aa rfl (Aj Fo (Ab)) ?_
          refine Aa rfl (B4 (k := k) E5 (Ab) (Ao rfl <| Al rfl <| Ab) rfl (by omega)) ?_
          refine Aa rfl (B4 (k := c) E6 (Ab) (Ao rfl <| Al rfl <| Ab) rfl (by omega)) ?_
          refine Aa rfl (Aq Bi (Ab) (hX.most_cell (by omega : k < 6) (by omega : c < 6)).cell) ?_
          refine Aa rfl (q_max2 (Ba rfl <| Ab) (Ab)) ?_
          refine Aa rfl (Ae (Ab)) ?_
          refine Ah <| Bf <| Ad <| Ai fun ds => Aa rfl (Bp (A8 rfl <| Ba rfl <| Az rfl <| Al rfl <| As rfl ht67) Ac rfl (by omega) (by omega)) ?_
          refine Aa rfl (Af (Ab)) ?_
          refine Ah <| Ad ⟨_, m2 - 1, Off.eq (C3 rfl <| Ed rfl <| E0 rfl <| Eo rfl <| El rfl <| Be), by omega, ?_⟩
          exact ⟨c + 1, by omega, (Ab), by rw [othersTo_succ, if_pos (show otherOk set o (strongP s k set.testBit) c from ⟨hne, .inl hbit⟩)]; exact (Ao rfl <| Ab), rfl⟩
        ·
         refine Aw <| Ad <| Ag <| A4 <| Ag <| Ai fun ds => Aa rfl (Af (Al rfl <| As rfl ht67)) ?_
         refine Aa rfl (Ae (Ab)) ?_
         refine Ah <| Ad <| Ag <| Ai fun ds => Aa rfl (Af (Ab)) ?_
         refine Aa rfl (Af (Az rfl <| Ap rfl <| A8 rfl <| Ba rfl <| Az rfl <| Ab)) ?_
         refine Aa rfl (B7 (Al rfl <| Ab) (Ab)) ?_
         refine Aa rfl (Af (Ab)) ?_
         refine Au rfl rfl (Ab) (.inl (congrArg Value.bool (decide_eq_false hne))) rfl ?_
         refine Au rfl rfl (Al rfl <| Ab) (.inl (congrArg Value.bool (decide_eq_false hne))) rfl ?_
         refine Au rfl rfl (Ao rfl <| Ab) (.inl (congrArg Value.bool (decide_eq_false hne))) rfl ?_
         refine Au rfl rfl (Ao rfl <| Al rfl <| Ab) (.inl (congrArg Value.bool (decide_eq_false hne))) rfl ?_
         refine Au rfl rfl (Az rfl <| Ab) (.inl (congrArg Value.bool (decide_eq_false hne))) rfl ?_
         refine Au rfl rfl (Az rfl <| Al rfl <| Ab) (.inl (congrArg Value.bool (decide_eq_false hne))) rfl ?_
         refine Au rfl rfl (Ab) (.inr rfl) rfl ?_
         refine Au rfl rfl (Al rfl <| Ab) (.inr rfl) rfl ?_
         refine Au rfl rfl (Ao rfl <| Ab) (.inr rfl) rfl ?_
         refine Au rfl rfl (Ba rfl <| Al rfl <| Ab) (.inl (congrArg Value.bool (decide_eq_false hne))) rfl ?_
         refine Aa rfl (A7 (Ba rfl <| Ao rfl <| Ab) (decide_eq_false hne) Ac) ?_
         refine Ah <| Ad <| Am (Ab) rfl ?_
         refine Aw <| Bf <| Ad <| Ai fun ds => Aa rfl (Bp (A8 rfl <| Ao rfl <| As rfl ht67) Ac rfl (by omega) (by omega)) ?_
         refine Aa rfl (Af (Ab)) ?_
         refine Ah <| Ad ⟨_, m2 - 1, Off.eq (C3 rfl <| E0 rfl <| Be), by omega, ?_⟩
         exact ⟨c + 1, by omega, (Ab), by rw [othersTo_succ, if_neg (show ¬ otherOk set o (strongP s k set.testBit) c from fun h => hne h.1)]; exact (A8 rfl <| Az rfl <| As rfl ht10), rfl⟩
       ·
        refine Ag <| Ai fun ds => Aa rfl (Bs (As rfl ht67) (Ap rfl <| Al rfl <| Ab)) ?_
        refine Ah <| Ad <| Ag <| Am (Ab) (by first | rfl | exact decide_eq_false (by omega)) ?_
        obtain rfl : c = s.bidders.length := by omega
        have hob := othersTo_bound hv (l := k) (set := set) (one := (o : Int)) (member := (strongP s k set.testBit)) (k := s.bidders.length)
        have hmb := most_bound hv (l := k) (b := o) (Nat.le_refl _)
        refine Bv ?_
        refine Bm <| Bm <| Bo <| Ad <| Du (.inl rfl) (fun _ _ h => h) (.cons_cons _ <| .cons_cons _ <| List.nil_sublist _) [] (by kernel_rfl) fun ds => ?_
        refine Bb 0 rfl (by kernel_rfl) (by kernel_rfl) (by kernel_rfl) (by kernel_rfl) rfl rfl (fun _ h => h.drop (.cons_cons _ <| .cons_cons _ <| List.nil_sublist _)) (fun _ _ _ h => h) (Af (Al rfl <| Ap rfl <| Bl rfl <| Az rfl <| Ao rfl <| As rfl hs5)) ?_
        refine Bb 1 rfl (by kernel_rfl) (by kernel_rfl) (by kernel_rfl) (by kernel_rfl) rfl rfl (fun _ h => h.drop (.cons_cons _ <| .cons_cons _ <| List.nil_sublist _)) (fun _ _ _ h => h) (Af (Ao rfl <| Ap rfl <| A8 rfl <| Ba rfl <| Az rfl <| Ab)) ?_
        refine Bb 2 rfl (by kernel_rfl) (by kernel_rfl) (by kernel_rfl) (by kernel_rfl) rfl rfl (fun _ h => h.drop (.cons_cons _ <| .cons_cons _ <| List.nil_sublist _)) (fun _ _ _ h => h) (Af (Ao rfl <| Al rfl <| Ap rfl <| Bl rfl <| Az rfl <| Ao rfl <| Ap rfl <| A8 rfl <| Az rfl <| Ak rfl)) ?_
        refine Bb 3 rfl (by kernel_rfl) (by kernel_rfl) (by kernel_rfl) (by kernel_rfl) rfl rfl (fun _ h => h.drop (.cons_cons _ <| .cons_cons _ <| List.nil_sublist _)) (fun _ _ _ h => h) (Aj fd_69_2 (Az rfl <| Ap rfl <| Bl rfl <| Al rfl <| Ab)) ?_
        refine Bb 4 rfl (by kernel_rfl) (by kernel_rfl) (by kernel_rfl) (by kernel_rfl) rfl rfl (fun _ h => h.drop (.cons_cons _ <| .cons_cons _ <| List.nil_sublist _)) (fun _ _ _ h => h) (Aq Bi (Ab) (Cell.own 0 rfl rfl)) ?_
        refine Bb 5 rfl (by kernel_rfl) (by kernel_rfl) (by kernel_rfl) (by kernel_rfl) rfl rfl (fun _ h => h.drop (.cons_cons _ <| .cons_cons _ <| List.nil_sublist _)) (fun _ _ _ h => h) (Af (Az rfl <| Ao rfl <| As rfl ht10)) ?_
        refine Bb 6 rfl (by kernel_rfl) (by kernel_rfl) (by kernel_rfl) (by kernel_rfl) rfl rfl (fun _ h => h.drop (.cons_cons _ <| .cons_cons _ <| List.nil_sublist _)) (fun _ _ _ h => h) (Af (Az rfl <| Ao rfl <| Al rfl <| Ap rfl <| Bl rfl <| Az rfl <| Ao rfl <| Ap rfl <| A8 rfl <| Az rfl <| Ak rfl)) ?_
        refine Bb 7 rfl (by kernel_rfl) (by kernel_rfl) (by kernel_rfl) (by kernel_rfl) rfl rfl (fun _ h => h.drop (.cons_cons _ <| .cons_cons _ <| List.nil_sublist _)) (fun _ _ _ h => h) (Af (Ba rfl <| Ap rfl <| Bl rfl <| Ab)) ?_
        refine Bb 8 rfl (by kernel_rfl) (by kernel_rfl) (by kernel_rfl) (by kernel_rfl) rfl rfl (fun _ h => h.drop (.cons_cons _ <| .cons_cons _ <| List.nil_sublist _)) (fun _ _ _ h => h) (Af (Ba rfl <| Al rfl <| Ap rfl <| A8 rfl <| Ba rfl <| Az rfl <| Ab)) ?_
        refine Bb 9 rfl (by kernel_rfl) (by kernel_rfl) (by kernel_rfl) (by kernel_rfl) rfl rfl (fun _ h => h.drop (.cons_cons _ <| .cons_cons _ <| List.nil_sublist _)) (fun _ _ _ h => h) (Ce (Ao rfl <| Ab)) ?_
        refine Bb 10 rfl (by kernel_rfl) (by kernel_rfl) (by kernel_rfl) (by kernel_rfl) rfl rfl (fun _ h => h.drop (.cons_cons _ <| .cons_cons _ <| List.nil_sublist _)) (fun _ _ _ h => h) (Aj Fo (Ab)) ?_
        refine Bb 11 rfl (by kernel_rfl) (by kernel_rfl) (by kernel_rfl) (by kernel_rfl) rfl rfl (fun _ h => h.drop (.cons_cons _ <| .cons_cons _ <| List.nil_sublist _)) (fun _ _ _ h => h) (B4 (k := k) E5 (Ab) (Ao rfl <| Al rfl <| Ab) rfl (by omega)) ?_
        refine Bb 12 rfl (by kernel_rfl) (by kernel_rfl) (by kernel_rfl) (by kernel_rfl) rfl rfl (fun _ h => h.drop (.cons_cons _ <| .cons_cons _ <| List.nil_sublist _)) (fun _ _ _ h => h) (B4 (k := o) E6 (Ab) (Ao rfl <| Al rfl <| Ab) rfl (by omega)) ?_
        refine Bb 13 rfl (by kernel_rfl) (by kernel_rfl) (by kernel_rfl) (by kernel_rfl) rfl rfl (fun _ h => h.drop (.cons_cons _ <| .cons_cons _ <| List.nil_sublist _)) (fun _ _ _ h => h) (Aq Bi (Ab) (hX.most_cell (by omega : k < 6) (by omega : o < 6)).cell) ?_
        refine Da 14 rfl (by kernel_rfl) rfl (Br (Bc bd_101 A2 (.cons (Ba rfl <| Ao rfl <| Al rfl <| Ab) (.cons (Ba rfl <| Al rfl <| Ab) (.cons (Ba rfl <| Ab) (.cons (Ab) .nil)))) (price_ok hX hv (by rw [e1]; omega) (by rw [e1]; omega) hob.1 hob.2 hmb.1 hmb.2) (fun _ _ h => h)) ⟨fun _ _ => (fun _ h => h.drop (.cons_cons _ <| .cons_cons _ <| List.nil_sublist _)), ?_⟩)
        refine Bb 15 rfl (by kernel_rfl) (by kernel_rfl) (by kernel_rfl) (by kernel_rfl) rfl rfl (fun _ h => h.drop (.cons_cons _ <| .cons_cons _ <| List.nil_sublist _)) (fun _ _ _ h => h) (C0 bt_63 (.cons (Ba rfl <| Az rfl <| Al rfl <| Ab) rfl (.cons (Ab) rfl .nil)) (.cons rfl rfl (Nat.le_of_ble_eq_true rfl) (.cons (.here) .nil) (.cons rfl rfl (Nat.le_of_ble_eq_true rfl) (.cons (.next <| .here) .nil) .nil))) ?_
        refine Da 16 rfl (by kernel_rfl) rfl (C9 (offs := [(0, 2)]) (zl := [.int .i64 0, .int .i64 0]) Dc zr_63 rfl (.cons (Ab) rfl .nil) (by intro i p h; rcases i with _ | i <;> simp at h <;> subst h <;> rfl) (.cons rfl rfl (Nat.le_of_ble_eq_true rfl) (.cons (.here) (.cons (.next <| .here) .nil)) .nil) (by decide) (by decide) fun b13 hb13 nb13 => ⟨fun _ _ => (fun _ h => h.drop (.cons _ <| .cons_cons _ <| .cons_cons _ <| List.nil_sublist _)), ?_⟩)
        refine Da 17 rfl (by kernel_rfl) rfl (Cw Dc el_63 (A8 rfl <| Ab) ho (Ab) (C6 (s := 2) 0 rfl rfl (by simp [Value.oneCell'])) (by omega) (by omega) (.s <| .s <| .s <| .z) .last fun v14 R15 ho16 => ⟨fun _ _ => (fun _ h => h.drop (.cons _ <| .cons_cons _ <| .cons_cons _ <| List.nil_sublist _)), ?_⟩)
        have ho3 := ho16.snoc (x := sellP s set k) rfl (by rw [sellP_at hso hlow, ← e1]; rfl)
        refine Bb 18 rfl (by kernel_rfl) (by kernel_rfl) (by kernel_rfl) (by kernel_rfl) rfl rfl (fun _ h => h.drop (.cons _ <| .cons_cons _ <| .cons_cons _ <| List.nil_sublist _)) (fun _ _ _ h => h) (Ae (Ab)) ?_
        refine C7 (by kernel_rfl) ?_ _
        refine Bf <| Ad <| Cc (fun _ _ h => h.drop (.cons _ <| .cons _ <| .cons_cons _ <| .refl _)) ?_
        refine Ai fun ds => Aa rfl (Bp (A8 rfl <| Az rfl <| Ap rfl <| Bl rfl <| Az rfl <| Ao rfl <| As rfl hs30) Ac rfl (by omega) (by omega)) ?_
        refine Aa rfl (Af (Ab)) ?_
        refine Ah <| Ad ⟨_, m - 1, Off.eq (C3 rfl <| E0 rfl <| Eo rfl <| off_in rfl <| D1 rfl <| E0 rfl <| Eo rfl <| Be), by omega, ?_⟩
        refine ⟨k + 1, by omega, (Ab), _, _, (Ao rfl <| Ab), by rw [sellL_succ]; exact ho3, rfl⟩
   ·
    refine Ag <| Ai fun ds => Aa rfl (Bs (As rfl hs30) (Ap rfl <| Al rfl <| Ab)) ?_
    refine Ah <| Ad <| Ag <| Am (Ab) (by first | rfl | exact decide_eq_false (by omega)) ?_
    obtain rfl : k = s.lots.length := by omega
    refine WC_freezeRM (σ := ⟨_, _⟩) (fun m hm => hm) ho (.s <| .z) .last fun F17 hF18 hz19 => ?_
    replace hX := hX.mono hF18
    replace hK := hK.mono hF18
    have hn2 := ho.sl (fun _ => rfl) hz19 (by have := sellL_length (s := s) (set := set) (k := s.lots.length); omega)
    refine Bv ?_
    refine Bm <| Bm <| Bo <| Ad <| Ag <| Ai fun ds => Aa rfl (Af (Al rfl <| Ap rfl <| A8 rfl <| Az rfl <| Ak rfl)) ?_
    refine Aa rfl (Ce (Ab)) ?_
    refine Aa rfl (Aj fd_156_3 (Ab)) ?_
    refine Aa rfl (Aq one_152 (Ab) hX.known_cell.cell) ?_
    refine Aa rfl (Af (Az rfl <| Al rfl <| Ap rfl <| A8 rfl <| Az rfl <| Ak rfl)) ?_
    refine Aa rfl (Af (Az rfl <| Ao rfl <| As rfl hs5)) ?_
    refine Cl (x_updateN mapK (Ao rfl <| Ab) (Al rfl <| Ab) (Ab) (i := 0) rfl (isKn hset) hK.keys hno (.here) ?_)
    refine Ah <| Ad <| Ag <| Ai fun ds => Aa rfl (Af (Az rfl <| Ao rfl <| Al rfl <| As rfl hs5)) ?_
    refine Aa rfl (Ae (Ab)) ?_
    refine Ah <| Ad <| A9 <| post_retM rfl (.tmp (Ab) .nil) (.cons (.here) <| .nil) rfl ?_
    exact ⟨_, rfl, hK.snoc (isKn hset) hno hn2, hn2⟩
 ·
  refine Ag <| Ai fun ds => Aa rfl (Ae Ac) ?_
  refine Ah <| Ad <| Ag <| Ai fun ds => Aa rfl (Af (Al rfl <| Ak rfl)) ?_
  refine Aa rfl (Ce (Ab)) ?_
  refine Aa rfl (Aj fd_156_3 (Ab)) ?_
  refine Aa rfl (Aq one_152 (Ab) hX.known_cell.cell) ?_
  refine Aa rfl (Af (Az rfl <| Al rfl <| Ak rfl)) ?_
  refine Aa rfl (q_lookup2S mapK (Al rfl <| Ab) (Ab) (i := 0) rfl (isKn hset) hK.keys hK.nodup hj) ?_
  refine Aa rfl (Af (Ab)) ?_
  refine Aa rfl (A5 (Ab) rfl) ?_
  refine Aa rfl (A5 (Al rfl <| Ab) rfl) ?_
  refine Aa rfl (Ae (Al rfl <| Ab)) ?_
  refine Aa rfl (Ae (Al rfl <| Ab)) ?_
  refine Ah <| Ad <| Ag <| Ag <| Ai fun ds => Aa rfl (Af (Ab)) ?_
  refine Ah <| Ad <| Ar (Ab) rfl ?_
  refine Ag <| Ai fun ds => Aa rfl (Af (Ao rfl <| Ab)) ?_
  refine Aa rfl (Ae (Ab)) ?_
  refine Ah <| Ad <| A9 <| A6 ?_
  refine post_retM rfl (.tmp (Ab) .nil) (.cons (.here) <| .nil) rfl ?_
  exact ⟨es, rfl, hK, hK.vals _ _ _ hj⟩
end Go.Proofs.Ytaikojfonleccaa
namespace Go.Proofs.Ytaikojfonleccaa
open Go.RowKit
theorem zr_77 : ZeroT Try.prog 77 (.agg #[.int .i64 0, .int .i64 0]) := Dl (by kernel_rfl)
theorem agg_77 : AggT Try.prog 77 2 := aggT_of (by kernel_rfl)
theorem fd_63_0 : FieldT Try.prog 63 0 0 := B8 (by kernel_rfl)
theorem fd_69_3 : FieldT Try.prog 69 3 3 := B8 (by kernel_rfl)
theorem fd_77_0 : FieldT Try.prog 77 0 0 := B8 (by kernel_rfl)
theorem fd_77_1 : FieldT Try.prog 77 1 1 := B8 (by kernel_rfl)
theorem one_4 : OneT Try.prog 4 := Ds (by kernel_rfl)
theorem sl_40 : SliceT Try.prog 40 77 2 := Et (by kernel_rfl)
theorem sz_77 : SizeT Try.prog 77 2 := Dw (by kernel_rfl)
set_option maxRecDepth 100000 in
theorem part_ok {F : Heap} {p m : Int} (h0 : 0 ≤ p) (h1 : p ≤ 100000) (hm0 : 0 ≤ m) (hm : m ≤ 500) : Ok Try.prog 73 [.int .i64 p, .int .i64 m].toArray F fun r _ => r = .int .i64 (partP p m) := by
 refine Ok.intro Try.func73 rfl Try.ntmps73 rfl fun w0 => ?_
 have hm1 : 0 ≤ p * m := Int.mul_nonneg h0 hm0
 have hm2 : p * m ≤ 100000 * m := Int.mul_le_mul_of_nonneg_right h1 hm0
 refine Ag <| Ai fun ds => Aa rfl (Ae Ac) ?_
 refine Ah <| Ad <| Ag <| Ai fun ds => Aa rfl (Af (Al rfl <| Ak rfl)) ?_
 refine Aa rfl (Af (Ao rfl <| Ak rfl)) ?_
 refine Aa rfl (q_mul (Al rfl <| Ab) (Ab) rfl (by omega) (by omega)) ?_
 refine Aa rfl (Bp (Ab) Ac rfl (by omega) (by omega)) ?_
 refine Aa rfl (Ep (Ab) Ac (by omega) (by omega) (by omega)) ?_
 refine Aa rfl (Ae (Ab)) ?_
 refine Ah <| Ad <| A9 <| Ay rfl (.tmp (Ab) .nil) ?_
 rfl
end Go.Proofs.Ytaikojfonleccaa
