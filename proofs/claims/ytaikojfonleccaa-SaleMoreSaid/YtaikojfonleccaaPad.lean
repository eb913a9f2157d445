/-
  A part of a proof: SaleMore returns true of any sale, bid and lot by bits and sum, and leaves what it is handed as it was. No conditions.
-/
import Derived.Test.YtaikojfonleccaaPac
namespace Go.Proofs.Ytaikojfonleccaa
open Go.RowKit
theorem zr_156 : ZeroT Try.prog 156 (.agg #[.slice none 0 0, .int .i64 0, .int .i64 0, .int .i64 0, .slice none 0 0, .slice none 0 0, .slice none 0 0, .slice none 0 0, .int .i64 0, .int .i64 0, .int .i64 0, .int .i64 0, .int .i64 0, .int .i64 0, .int .i64 0, .int .i64 0, .int .i64 0, .int .i64 0, .int .i64 0, .int .i64 0, .int .i64 0, .int .i64 0, .int .i64 0, .int .i64 0, .int .i64 0, .int .i64 0, .int .i64 0, .int .i64 0, .int .i64 0, .int .i64 0, .int .i64 0, .int .i64 0, .int .i64 0, .int .i64 0, .int .i64 0, .int .i64 0, .int .i64 0, .int .i64 0, .int .i64 0, .int .i64 0, .int .i64 0, .int .i64 0, .int .i64 0, .int .i64 0, .int .i64 0, .int .i64 0, .int .i64 0, .int .i64 0, .int .i64 0, .int .i64 0, .int .i64 0, .int .i64 0, .int .i64 0, .int .i64 0, .int .i64 0, .int .i64 0, .int .i64 0, .int .i64 0, .int .i64 0, .int .i64 0, .int .i64 0, .int .i64 0, .int .i64 0, .int .i64 0, .int .i64 0, .int .i64 0, .int .i64 0, .int .i64 0, .int .i64 0, .int .i64 0, .int .i64 0, .int .i64 0, .int .i64 0, .int .i64 0, .int .i64 0, .int .i64 0, .int .i64 0, .int .i64 0, .int .i64 0, .int .i64 0, .map none]) := C4 (by kernel_rfl)
theorem bd_15 : Body Try.prog 15 := Br (by kernel_rfl)
theorem bd_66 : Body Try.prog 66 := Br (by kernel_rfl)
theorem bt_156 : BuildT Try.prog 156 [.slice none 0 0, .int .i64 0, .int .i64 0, .int .i64 0, .slice none 0 0, .slice none 0 0, .slice none 0 0, .slice none 0 0, .int .i64 0, .int .i64 0, .int .i64 0, .int .i64 0, .int .i64 0, .int .i64 0, .int .i64 0, .int .i64 0, .int .i64 0, .int .i64 0, .int .i64 0, .int .i64 0, .int .i64 0, .int .i64 0, .int .i64 0, .int .i64 0, .int .i64 0, .int .i64 0, .int .i64 0, .int .i64 0, .int .i64 0, .int .i64 0, .int .i64 0, .int .i64 0, .int .i64 0, .int .i64 0, .int .i64 0, .int .i64 0, .int .i64 0, .int .i64 0, .int .i64 0, .int .i64 0, .int .i64 0, .int .i64 0, .int .i64 0, .int .i64 0, .int .i64 0, .int .i64 0, .int .i64 0, .int .i64 0, .int .i64 0, .int .i64 0, .int .i64 0, .int .i64 0, .int .i64 0, .int .i64 0, .int .i64 0, .int .i64 0, .int .i64 0, .int .i64 0, .int .i64 0, .int .i64 0, .int .i64 0, .int .i64 0, .int .i64 0, .int .i64 0, .int .i64 0, .int .i64 0, .int .i64 0, .int .i64 0, .int .i64 0, .int .i64 0, .int .i64 0, .int .i64 0, .int .i64 0, .int .i64 0, .int .i64 0, .int .i64 0, .int .i64 0, .int .i64 0, .int .i64 0, .int .i64 0, .map none] [(0, 8), (8, 36), (44, 36), (80, 1)] := Em zr_156 (by kernel_rfl) (by decide)
theorem sz_3 : SizeT Try.prog 3 1 := C8 (by kernel_rfl)
theorem mosts_len {s : Sale} {k : Nat} : (mosts s k).length = 36 := Cn
theorem places_len {s : Sale} {k : Nat} : (places s k).length = 36 := Cn
def LookR (F : Heap) (u : Value) (Hn : List (Nat × Obj)) (vs vb vl vn vd : Value) (s : Sale) : Prop := ∃ b kb, u = .tuple #[.pointer (some ⟨b, 0, none⟩), .int .i64 0] ∧ AucX 156 F b vs vb vl vn vd kb s ∧ Hn = [(kb, mapO [])]
set_option maxRecDepth 100000 in
theorem look_ok {F : Heap} {vs vb vl vn vd : Value} {s : Sale} (hr : SaleR F vs vb vl vn vd s) (hv : ValidS s) (h0 : (checkS s).2.2 = 0) : OkN Try.prog 66 [.agg #[vs, .int .i64 s.premium, .int .i64 s.fee, .int .i64 s.days, vb, vl, vn, vd]].toArray F fun u F' Hn => LookR F' u Hn vs vb vl vn vd s := by
 refine OkN.intro Try.func66 rfl Try.ntmps66 rfl fun w0 => ?_
 have hnb := hv.nb
 have hnl := hv.nl
 have hnd := hv.nd
 have hL1 := hr.bids.plain.lt
 have hL2 := hr.bidders.plain.lt
 have hL3 := hr.lots.plain.lt
 refine Af <| Ai fun ds => Bl rfl (Cc (Ak rfl) rfl fun b1 hb1 nb1 => ?_)
 refine Aa rfl (Ae Ab) ?_
 refine Aa rfl (Ae Ab) ?_
 refine Ah <| Ad <| Af <| Af <| Ai fun ds => Aa rfl (Bg Cd (Ap rfl <| Ac) rfl rfl (Bm 0 rfl)) ?_
 refine Bv rfl (A9 bd_15 Az (.cons (Ac) .nil) (checkS_ok hr) (fun _ _ h => h)) ?_
 refine Aa rfl (Ag (Ac)) ?_
 refine Aa rfl (A1 (Ac) rfl) ?_
 refine Aa rfl (A1 (Al rfl <| Ac) rfl) ?_
 refine Aa rfl (A1 (Ap rfl <| Ac) rfl) ?_
 refine Aa rfl (Ae (Ap rfl <| Ac)) ?_
 refine Aa rfl (Ae (Ap rfl <| Ac)) ?_
 refine Aa rfl (Ae (Ap rfl <| Ac)) ?_
 refine Ah <| Ad <| Af <| Ai fun ds => Aa rfl (Ag (Ac)) ?_
 refine Aa rfl (B5 (Ac) Ab) ?_
 refine Ah <| Ad <| Am (Ac) (decide_eq_false (fun h => h h0)) ?_
 refine Ax <| Ad <| Af <| Ai fun ds => Aa rfl (Bg Cd (Ba rfl <| Ay rfl <| Al rfl <| Ac) rfl rfl (Bm 0 rfl)) ?_
 refine Bl rfl (x_makeMap fun b2 hb2 nb2 => ?_)
 refine Aa rfl (Db bt_156 (.cons (Al rfl <| Ac) rfl (.cons (Ac) rfl .nil)) (.cons rfl rfl (Nat.le_of_ble_eq_true rfl) (.cons (.here) (.cons (.next <| .here) (.cons (.next <| .next <| .here) (.cons (.next <| .next <| .next <| .here) (.cons (.next <| .next <| .next <| .next <| .here) (.cons (.next <| .next <| .next <| .next <| .next <| .here) (.cons (.next <| .next <| .next <| .next <| .next <| .next <| .here) (.cons (.next <| .next <| .next <| .next <| .next <| .next <| .next <| .here) .nil)))))))) (.cons rfl rfl (Nat.le_of_ble_eq_true rfl) (.cons (.next <| .next <| .next <| .next <| .next <| .next <| .next <| .next <| .next <| .next <| .next <| .next <| .next <| .next <| .next <| .next <| .next <| .next <| .next <| .next <| .next <| .next <| .next <| .next <| .next <| .next <| .next <| .next <| .next <| .next <| .next <| .next <| .next <| .next <| .next <| .next <| .next <| .next <| .next <| .next <| .next <| .next <| .next <| .next <| .next <| .next <| .next <| .next <| .next <| .next <| .next <| .next <| .next <| .next <| .next <| .next <| .next <| .next <| .next <| .next <| .next <| .next <| .next <| .next <| .next <| .next <| .next <| .next <| .next <| .next <| .next <| .next <| .next <| .next <| .next <| .next <| .next <| .next <| .next <| .next <| .here) .nil) .nil))) ?_
 refine Bl rfl (Cc (Ac) rfl fun b3 hb3 nb3 => ?_)
 refine Aa rfl (Ae (Ac)) ?_
 refine Ah <| Ad <| Af <| Af <| Ai fun ds => Aa rfl (Aj Dc (Bb rfl <| Ap rfl <| Ac)) ?_
 refine Aa rfl (Aq D7 (Ac) (Cell.own 2 rfl rfl)) ?_
 refine Aa rfl (Bf Dz (Ac) hr.bids.plain) ?_
 refine Aa rfl (Ag Ab) ?_
 refine Ah <| Ad <| A4 <| B4 [8, 9, 26, 27, 28, 29, 30, 31, 32, 33, 34, 35, 36, 37, 38, 39, 40, 41, 42, 43, 44, 45, 46, 47, 48, 49, 50, 51, 52, 53] (fun m e σ => ∃ k : Nat, m + k = s.bids.length ∧ e 26 = .int .i64 (k : Int) ∧ σ = ⟨F, [(b3, bx 156 (aucCells s vs vb vl vn vd (mosts s k) (places s k) (.map (some b2)))), (b2, mapO []), (b1, bx 27 [vs, .int .i64 s.premium, .int .i64 s.fee, .int .i64 s.days, vb, vl, vn, vd])]⟩) (s.bids.length) ?_ ?_
 · (refine ⟨0, by omega, (Ac), ?_⟩; rw [mosts_zero, places_zero]; rfl)
 ·
  rintro m e _ ⟨k, hm9, hs26, rfl⟩
  by_cases hlt : k < s.bids.length
  ·
   have hbd := hv.bd k hlt
   obtain ⟨l, hl⟩ := Int.eq_ofNat_of_zero_le hbd.2.2.1
   obtain ⟨c, hc⟩ := Int.eq_ofNat_of_zero_le hbd.1
   have hl6 : l < 6 := by omega
   have hc6 : c < 6 := by omega
   refine Af <| Ai fun ds => Aa rfl (B0 (Au rfl hs26) (Ao rfl <| Al rfl <| Ac)) ?_
   refine Ah <| Ad <| Af <| Ar (Ac) (by first | rfl | exact decide_eq_true (by omega)) ?_
   refine Ax <| Ad <| Af <| A4 <| Af <| Ai fun ds => Aa rfl (Ag (Al rfl <| Au rfl hs26)) ?_
   refine Aa rfl (Be  Dz (Ap rfl <| Ao rfl <| Ap rfl <| Ac) hr.bids.plain (Ap rfl <| Au rfl hs26) rfl hlt) ?_
   refine Aa rfl (Bg agg_72 (Ac) rfl rfl (hr.bids.whole hlt)) ?_
   refine Bl rfl (B6 zr_72 rfl fun b5 hb5 nb5 => ?_)
   refine Aa rfl (Ae (Ap rfl <| Al rfl <| Ac)) ?_
   refine Ck (B8 sz_72 (Al rfl <| Ac) (Ap rfl <| Ac) (i := 0) rfl rfl rfl rfl Bid.enc_one (.here) ?_)
   refine Ah <| Ad <| Er (.inl rfl) (fun _ _ h => h) (.cons_cons _ <| .cons _ <| .cons_cons _ <| .cons_cons _ <| .refl _) [23] (by kernel_rfl) fun ds => ?_
   refine Bi 0 rfl (by kernel_rfl) (by kernel_rfl) (by kernel_rfl) (by kernel_rfl) rfl rfl (fun _ h => h.drop (.cons_cons _ <| .cons _ <| .cons_cons _ <| .cons_cons _ <| .refl _)) (fun _ _ _ h => h) (Ag (Ay rfl <| Ap rfl <| Ao rfl <| Ay rfl <| Ac)) ?_
   refine Bi 1 rfl (by kernel_rfl) (by kernel_rfl) (by kernel_rfl) (by kernel_rfl) rfl rfl (fun _ h => h.drop (.cons_cons _ <| .cons _ <| .cons_cons _ <| .cons_cons _ <| .refl _)) (fun _ _ _ h => h) (Aj El (Ap rfl <| Ac)) ?_
   refine Bi 2 rfl (by kernel_rfl) (by kernel_rfl) (by kernel_rfl) (by kernel_rfl) rfl rfl (fun _ h => h.drop (.cons_cons _ <| .cons _ <| .cons_cons _ <| .cons_cons _ <| .refl _)) (fun _ _ _ h => h) (Aq Bd (Ac) (Cell.own 0 rfl rfl)) ?_
   refine Bi 3 rfl (by kernel_rfl) (by kernel_rfl) (by kernel_rfl) (by kernel_rfl) rfl rfl (fun _ h => h.drop (.cons_cons _ <| .cons _ <| .cons_cons _ <| .cons_cons _ <| .refl _)) (fun _ _ _ h => h) (Aj Dr (Ay rfl <| Ac)) ?_
   refine Bi 4 rfl (by kernel_rfl) (by kernel_rfl) (by kernel_rfl) (by kernel_rfl) rfl rfl (fun _ h => h.drop (.cons_cons _ <| .cons _ <| .cons_cons _ <| .cons_cons _ <| .refl _)) (fun _ _ _ h => h) (Aq Bd (Ac) (Cell.own 0 rfl rfl)) ?_
   refine Bi 5 rfl (by kernel_rfl) (by kernel_rfl) (by kernel_rfl) (by kernel_rfl) rfl rfl (fun _ h => h.drop (.cons_cons _ <| .cons _ <| .cons_cons _ <| .cons_cons _ <| .refl _)) (fun _ _ _ h => h) (Ag (Ba rfl <| Ap rfl <| Al rfl <| Ao rfl <| Ay rfl <| Ac)) ?_
   refine Bi 6 rfl (by kernel_rfl) (by kernel_rfl) (by kernel_rfl) (by kernel_rfl) rfl rfl (fun _ h => h.drop (.cons_cons _ <| .cons _ <| .cons_cons _ <| .cons_cons _ <| .refl _)) (fun _ _ _ h => h) (Aj El (Ay rfl <| Ap rfl <| Al rfl <| Ac)) ?_
   refine Bi 7 rfl (by kernel_rfl) (by kernel_rfl) (by kernel_rfl) (by kernel_rfl) rfl rfl (fun _ h => h.drop (.cons_cons _ <| .cons _ <| .cons_cons _ <| .cons_cons _ <| .refl _)) (fun _ _ _ h => h) (Aq Bd (Ac) (Cell.own 0 rfl rfl)) ?_
   refine Bi 8 rfl (by kernel_rfl) (by kernel_rfl) (by kernel_rfl) (by kernel_rfl) rfl rfl (fun _ h => h.drop (.cons_cons _ <| .cons _ <| .cons_cons _ <| .cons_cons _ <| .refl _)) (fun _ _ _ h => h) (Aj Dr (Ba rfl <| Al rfl <| Ac)) ?_
   refine Bi 9 rfl (by kernel_rfl) (by kernel_rfl) (by kernel_rfl) (by kernel_rfl) rfl rfl (fun _ h => h.drop (.cons_cons _ <| .cons _ <| .cons_cons _ <| .cons_cons _ <| .refl _)) (fun _ _ _ h => h) (Aq Bd (Ac) (Cell.own 0 rfl rfl)) ?_
   refine Bi 10 rfl (by kernel_rfl) (by kernel_rfl) (by kernel_rfl) (by kernel_rfl) rfl rfl (fun _ h => h.drop (.cons_cons _ <| .cons _ <| .cons_cons _ <| .cons_cons _ <| .refl _)) (fun _ _ _ h => h) (Aj fd_72_2 (Ba rfl <| Ap rfl <| Al rfl <| Ac)) ?_
   refine Bi 11 rfl (by kernel_rfl) (by kernel_rfl) (by kernel_rfl) (by kernel_rfl) rfl rfl (fun _ h => h.drop (.cons_cons _ <| .cons _ <| .cons_cons _ <| .cons_cons _ <| .refl _)) (fun _ _ _ h => h) (Aq Bd (Ac) (Cell.own 0 rfl rfl)) ?_
   refine Bi 12 rfl (by kernel_rfl) (by kernel_rfl) (by kernel_rfl) (by kernel_rfl) rfl rfl (fun _ h => h.drop (.cons_cons _ <| .cons _ <| .cons_cons _ <| .cons_cons _ <| .refl _)) (fun _ _ _ h => h) (Ag (Ba rfl <| Ay rfl <| Ac)) ?_
   refine Bi 13 rfl (by kernel_rfl) (by kernel_rfl) (by kernel_rfl) (by kernel_rfl) rfl rfl (fun _ h => h.drop (.cons_cons _ <| .cons _ <| .cons_cons _ <| .cons_cons _ <| .refl _)) (fun _ _ _ h => h) (B3 (Ac) Ab rfl (by omega) (by omega)) ?_
   refine Bi 14 rfl (by kernel_rfl) (by kernel_rfl) (by kernel_rfl) (by kernel_rfl) rfl rfl (fun _ h => h.drop (.cons_cons _ <| .cons _ <| .cons_cons _ <| .cons_cons _ <| .refl _)) (fun _ _ _ h => h) (Bu (Ba rfl <| Ay rfl <| Al rfl <| Ac)) ?_
   refine Bi 15 rfl (by kernel_rfl) (by kernel_rfl) (by kernel_rfl) (by kernel_rfl) rfl rfl (fun _ h => h.drop (.cons_cons _ <| .cons _ <| .cons_cons _ <| .cons_cons _ <| .refl _)) (fun _ _ _ h => h) (Aj E3 (Ac)) ?_
   refine Bi 16 rfl (by kernel_rfl) (by kernel_rfl) (by kernel_rfl) (by kernel_rfl) rfl rfl (fun _ h => h.drop (.cons_cons _ <| .cons _ <| .cons_cons _ <| .cons_cons _ <| .refl _)) (fun _ _ _ h => h) (Bw (k := l) Eo (Ac) (Ba rfl <| Ay rfl <| Al rfl <| Ac) (by rw [bid_at hlt]; exact hl) hl6) ?_
   refine Bi 17 rfl (by kernel_rfl) (by kernel_rfl) (by kernel_rfl) (by kernel_rfl) rfl rfl (fun _ h => h.drop (.cons_cons _ <| .cons _ <| .cons_cons _ <| .cons_cons _ <| .refl _)) (fun _ _ _ h => h) (Bw (k := c) Ep (Ac) (Ba rfl <| Ay rfl <| Ac) (by rw [bid_at hlt]; exact hc) hc6) ?_
   refine Bi 19 rfl (by kernel_rfl) (by kernel_rfl) (by kernel_rfl) (by kernel_rfl) rfl rfl (fun _ h => h.drop (.cons_cons _ <| .cons _ <| .cons_cons _ <| .cons_cons _ <| .refl _)) (fun _ _ _ h => h) (Bu (Ba rfl <| Ay rfl <| Ac)) ?_
   refine Bi 20 rfl (by kernel_rfl) (by kernel_rfl) (by kernel_rfl) (by kernel_rfl) rfl rfl (fun _ h => h.drop (.cons_cons _ <| .cons _ <| .cons_cons _ <| .cons_cons _ <| .refl _)) (fun _ _ _ h => h) (Aj fd_156_2 (Ac)) ?_
   refine Bi 21 rfl (by kernel_rfl) (by kernel_rfl) (by kernel_rfl) (by kernel_rfl) rfl rfl (fun _ h => h.drop (.cons_cons _ <| .cons _ <| .cons_cons _ <| .cons_cons _ <| .refl _)) (fun _ _ _ h => h) (Bw (k := l) Eo (Ac) (Ba rfl <| Ay rfl <| Ac) (by rw [bid_at hlt]; exact hl) hl6) ?_
   refine WX_x0 18 rfl (by kernel_rfl) (x_storeK sz_3 (Ap rfl <| Al rfl <| Ac) rfl (Ba rfl <| Al rfl <| Ac) (i := 1) rfl (by simp only [aucCells_length mosts_len places_len]; omega) rfl (.next <| .here) ⟨fun _ _ => (fun _ h => h.drop (.cons_cons _ <| .cons _ <| .cons_cons _ <| .cons_cons _ <| .refl _)), ?_⟩)
   refine Bi 22 rfl (by kernel_rfl) (by kernel_rfl) (by kernel_rfl) (by kernel_rfl) rfl rfl (fun _ h => h.drop (.cons_cons _ <| .cons _ <| .cons_cons _ <| .cons_cons _ <| .refl _)) (fun _ _ _ h => h) (Bw (k := c) Ep (Ac) (Ba rfl <| Ap rfl <| Al rfl <| Ac) (by rw [bid_at hlt]; exact hc) hc6) ?_
   refine WX_x0 23 rfl (by kernel_rfl) (x_storeK sz_3 (Ac) rfl (Ba rfl <| Ac) (i := 1) rfl (by simp only [List.length_set, aucCells_length mosts_len places_len]; omega) rfl (.next <| .here) ⟨(fun h => nomatch h), ?_⟩)
   refine De (by kernel_rfl) ?_ _
   refine Bh <| Ad <| Ct (fun _ _ h => h.drop (.cons _ <| .cons_cons _ <| .cons_cons _ <| .cons_cons _ <| .refl _)) ?_
   refine Ai fun ds => Aa rfl (B3 (Bb rfl <| Ba rfl <| Ay rfl <| Au rfl hs26) Ab rfl (by omega) (by omega)) ?_
   refine Aa rfl (Ag (Ac)) ?_
   refine Ah <| Ad ⟨_, m - 1, Off.eq (C5 rfl <| Ei rfl <| ou4 rfl <| Et rfl <| Bj), by omega, ?_⟩
   refine ⟨k + 1, by omega, (Ac), ?_⟩
   rw [← auc_set2 mosts_len hl6 hc6 hl hc, ← auc_set1 hl6 hc6 hl hc, ← bid_at hlt]
  ·
   refine Af <| Ai fun ds => Aa rfl (B0 (Au rfl hs26) (Ao rfl <| Al rfl <| Ac)) ?_
   refine Ah <| Ad <| Af <| Am (Ac) (by first | rfl | exact decide_eq_false (by omega)) ?_
   obtain rfl : k = s.bids.length := by omega
   refine Bx ?_
   refine Bk <| Bk <| Bn <| Ad <| Af <| Cq (i := 0) rfl hb3 (.here) fun F6 hF7 hz => ?_
   replace hr := hr.mono hF7
   refine Ai fun ds => Aa rfl (Ag (Al rfl <| Ao rfl <| Ay rfl <| Ac)) ?_
   refine Aa rfl (Ae (Ac)) ?_
   refine Aa rfl (Ae Ab) ?_
   refine Ah <| Ad <| A5 <| post_retN rfl (.tmp (Al rfl <| Ac) (.tmp (Ac) .nil)) (.cons_cons _ <| .cons _ <| .refl _) ?_
   exact ⟨_, _, rfl, ⟨hr, hz⟩, rfl⟩
set_option maxRecDepth 100000 in
theorem look_bad {F : Heap} {vs vb vl vn vd : Value} {s : Sale} (hr : SaleR F vs vb vl vn vd s) (h0 : (checkS s).2.2 ≠ 0) : Ok Try.prog 66 [.agg #[vs, .int .i64 s.premium, .int .i64 s.fee, .int .i64 s.days, vb, vl, vn, vd]].toArray F fun u _ => u = .tuple #[.pointer none, .int .i64 (checkS s).2.2] := by
 refine Ok.intro Try.func66 rfl Try.ntmps66 rfl fun w0 => ?_
 refine Af <| Ai fun ds => Bl rfl (Cc (Ak rfl) rfl fun b1 hb1 nb1 => ?_)
 refine Aa rfl (Ae Ab) ?_
 refine Aa rfl (Ae Ab) ?_
 refine Ah <| Ad <| Af <| Af <| Ai fun ds => Aa rfl (Bg Cd (Ap rfl <| Ac) rfl rfl (Bm 0 rfl)) ?_
 refine Bv rfl (A9 bd_15 Az (.cons (Ac) .nil) (checkS_ok hr) (fun _ _ h => h)) ?_
 refine Aa rfl (Ag (Ac)) ?_
 refine Aa rfl (A1 (Ac) rfl) ?_
 refine Aa rfl (A1 (Al rfl <| Ac) rfl) ?_
 refine Aa rfl (A1 (Ap rfl <| Ac) rfl) ?_
 refine Aa rfl (Ae (Ap rfl <| Ac)) ?_
 refine Aa rfl (Ae (Ap rfl <| Ac)) ?_
 refine Aa rfl (Ae (Ap rfl <| Ac)) ?_
 refine Ah <| Ad <| Af <| Ai fun ds => Aa rfl (Ag (Ac)) ?_
 refine Aa rfl (B5 (Ac) Ab) ?_
 refine Ah <| Ad <| Ar (Ac) (decide_eq_true h0) ?_
 refine Af <| Ai fun ds => Aa rfl (Ag (Ap rfl <| Ac)) ?_
 refine Aa rfl (Ae Ab) ?_
 refine Aa rfl (Ae (Al rfl <| Ac)) ?_
 refine Ah <| Ad <| A5 <| A7 ?_
 refine Aw rfl (.tmp (Al rfl <| Ac) (.tmp (Ac) .nil)) ?_
 rfl
set_option maxRecDepth 100000 in
theorem next_ok {F : Heap} {vs vb vl vn vd : Value} {s : Sale} (hr : SaleR F vs vb vl vn vd s) (p : Int) : Ok Try.prog 17 [.agg #[vs, .int .i64 s.premium, .int .i64 s.fee, .int .i64 s.days, vb, vl, vn, vd], .int .i64 p].toArray F fun u _ => u = .tuple #[.int .i64 (nextE s p).1, .int .i64 (nextE s p).2] := by
 refine Ok.intro Try.func17 rfl Try.ntmps17 rfl fun w0 => ?_
 by_cases h0 : (checkS s).2.2 = 0
 ·
  refine Af <| Ai fun ds => Bl rfl (Cc (Ak rfl) rfl fun b1 hb1 nb1 => ?_)
  refine Aa rfl (Ae Ab) ?_
  refine Aa rfl (Ae Ab) ?_
  refine Ah <| Ad <| Af <| Ai fun ds => Aa rfl (Bg Cd (Ap rfl <| Ac) rfl rfl (Bm 0 rfl)) ?_
  refine Bl rfl (x_callN bd_66 Az (.cons (Ac) .nil) (look_ok hr (Co h0) h0) fun v2 F3 R6 hr4 hF5 => ?_)
  obtain ⟨ba, kb, rfl, hX, rfl⟩ := hr4
  refine Aa rfl (Ag (Ac)) ?_
  refine Aa rfl (A1 (Ac) rfl) ?_
  refine Aa rfl (A1 (Al rfl <| Ac) rfl) ?_
  refine Aa rfl (Ae (Al rfl <| Ac)) ?_
  refine Aa rfl (Ae (Al rfl <| Ac)) ?_
  refine Ah <| Ad <| Af <| A4 <| Af <| Ai fun ds => Aa rfl (Ag (Ac)) ?_
  refine Aa rfl (B5 (Ac) Ab) ?_
  refine Aa rfl (Ae (Ac)) ?_
  refine Ah <| Ad <| Am (Ac) (by decide) ?_
  by_cases hp : inB 0 100000 p = true
  ·
   refine Af <| Ai fun ds => Aa rfl (Ag (Ba rfl <| Ay rfl <| Al rfl <| Ak rfl)) ?_
   refine Bl rfl (Bz Bs C3 rfl (.cons (Ac) .nil) rfl rfl (by decide) (by simp [Value.oneCell']) fun b7 hb7 nb7 => ?_)
   refine Bp (i := 0) rfl hb7 .here fun F8 hF9 hz10 => ?_
   replace hX := hX.mono hF9
   have hsl11 := Ci hz10
   refine Bv rfl (A9 C6 Az (.cons Ab (.cons Ab (.cons (Ac) .nil))) (B2 _ _ hsl11) (fun _ _ h => h)) ?_
   refine Aa rfl (Ae (Ac)) ?_
   refine Ah <| Ad <| Am (Ac) (by simp [hp]) ?_
   have hpb := in_bounds hp
   refine Ax <| Bh <| Ad <| Af <| Ai fun ds => Aa rfl (Ag (Ba rfl <| Ac)) ?_
   refine Aa rfl (Ag (Bb rfl <| Ap rfl <| Ak rfl)) ?_
   refine Bv rfl (A9 bd_67 Az (.cons (Al rfl <| Ac) (.cons (Ac) .nil)) (behind_ok hX (Co h0) hpb.1 (by omega)) (fun _ _ h => h)) ?_
   refine Aa rfl (Ae (Ac)) ?_
   refine Aa rfl (Ae Ab) ?_
   refine Ah <| Ad <| A5 <| Aw rfl (.tmp (Al rfl <| Ac) (.tmp (Ac) .nil)) ?_
   show _ = _
   rw [nextE_ok h0 hp]; rfl
  ·
   replace hp : inB 0 100000 p = false := by simpa using hp
   refine Af <| Ai fun ds => Aa rfl (Ag (Ba rfl <| Ay rfl <| Al rfl <| Ak rfl)) ?_
   refine Bl rfl (Bz Bs C3 rfl (.cons (Ac) .nil) rfl rfl (by decide) (by simp [Value.oneCell']) fun b12 hb12 nb12 => ?_)
   refine Bp (i := 0) rfl hb12 .here fun F13 hF14 hz15 => ?_
   have hsl16 := Ci hz15
   refine Bv rfl (A9 C6 Az (.cons Ab (.cons Ab (.cons (Ac) .nil))) (B2 _ _ hsl16) (fun _ _ h => h)) ?_
   refine Aa rfl (Ae (Ac)) ?_
   refine Ah <| Ad <| Ar (Ac) (by simp [hp]) ?_
   refine Af <| Ai fun ds => Aa rfl (Ae Ab) ?_
   refine Aa rfl (Ae Ab) ?_
   refine Ah <| Ad <| A5 <| Bc (A7 ?_)
   refine Aw rfl (.tmp (Al rfl <| Ac) (.tmp (Ac) .nil)) ?_
   show _ = _
   rw [nextE_range h0 hp]; rfl
 ·
  refine Af <| Ai fun ds => Bl rfl (Cc (Ak rfl) rfl fun b17 hb17 nb17 => ?_)
  refine Aa rfl (Ae Ab) ?_
  refine Aa rfl (Ae Ab) ?_
  refine Ah <| Ad <| Af <| Ai fun ds => Aa rfl (Bg Cd (Ap rfl <| Ac) rfl rfl (Bm 0 rfl)) ?_
  refine Bv rfl (A9 bd_66 Az (.cons (Ac) .nil) (look_bad hr h0) (fun _ _ h => h)) ?_
  refine Aa rfl (Ag (Ac)) ?_
  refine Aa rfl (A1 (Ac) rfl) ?_
  refine Aa rfl (A1 (Al rfl <| Ac) rfl) ?_
  refine Aa rfl (Ae (Al rfl <| Ac)) ?_
  refine Aa rfl (Ae (Al rfl <| Ac)) ?_
  refine Ah <| Ad <| Af <| A4 <| Af <| Ai fun ds => Aa rfl (Ag (Ac)) ?_
  refine Aa rfl (B5 (Ac) Ab) ?_
  refine Aa rfl (Ae (Ac)) ?_
  refine Ah <| Ad <| Ar (Ac) (decide_eq_true h0) ?_
  refine Af <| Ai fun ds => Aa rfl (Ag (Ap rfl <| Al rfl <| Ac)) ?_
  refine Aa rfl (Ae Ab) ?_
  refine Aa rfl (Ae (Al rfl <| Ac)) ?_
  refine Ah <| Ad <| A5 <| Bc (A7 ?_)
  refine Aw rfl (.tmp (Al rfl <| Ac) (.tmp (Ac) .nil)) ?_
  show _ = _
  rw [nextE_bad h0]; rfl
end Go.Proofs.Ytaikojfonleccaa
namespace Go.Proofs.Ytaikojfonleccaa
open Go.RowKit
theorem asc_not {xs : List Int} (h : notAsc xs = false) {i : Nat} (hi : i < xs.length) (h0 : 0 < i) : ¬ xs[i] ≤ xs[i - 1] := fun hle => by rw [notAsc_at h0 hi hle] at h; cases h
def SetOf (set : Nat) (ring : List Int) : Prop := ∀ t : Nat, set.testBit t = decide ((t : Int) ∈ ring)
def EnterR (F : Heap) (u : Value) (Hn : List (Nat × Obj)) (vs vb vl vn vd : Value) (s : Sale) (ring : List Int) : Prop := ∃ b kb set, u = .tuple #[.pointer (some ⟨b, 0, none⟩), .int .i64 ((set : Nat) : Int), .int .i64 0] ∧ AucX 156 F b vs vb vl vn vd kb s ∧ set < 64 ∧ SetOf set ring ∧ Hn = [(kb, mapO [])]
theorem ring_nat {s : Sale} (hv : ValidS s) {ring : List Int} (h : (ring.any fun z => !(inB 0 (s.bidders.length - 1) z)) = false) {k : Nat} (hk : k < ring.length) : ∃ c : Nat, ring[k] = (c : Int) ∧ c < s.bidders.length ∧ c < 6 := by
 have := in_bounds (in_of_any h hk)
 obtain ⟨c, hc⟩ := Int.eq_ofNat_of_zero_le this.1
 have := hv.nb
 exact ⟨c, hc, by omega, by omega⟩
set_option maxRecDepth 100000 in
theorem enter_ok {F : Heap} {vs vb vl vn vd : Value} {s : Sale} (hr : SaleR F vs vb vl vn vd s) {vr : Value} {ring : List Int} (hx : Ints F vr ring) (hok : enterErr s ring = 0) : OkN Try.prog 69 [.agg #[vs, .int .i64 s.premium, .int .i64 s.fee, .int .i64 s.days, vb, vl, vn, vd], vr].toArray F fun u F' Hn => EnterR F' u Hn vs vb vl vn vd s ring := by
 refine OkN.intro Try.func69 rfl Try.ntmps69 rfl fun w0 => ?_
 obtain ⟨h0, h1⟩ := enterE_ok hok
 obtain ⟨hany, hna, hl1⟩ := ringErr_ok h1
 have hL2 := hr.bidders.plain.lt
 have hlen := hx.plain.lt
 refine Af <| Ai fun ds => Bl rfl (Cc (Ak rfl) rfl fun b1 hb1 nb1 => ?_)
 refine Aa rfl (Ae Ab) ?_
 refine Aa rfl (Ae Ab) ?_
 refine Aa rfl (Ae Ab) ?_
 refine Ah <| Ad <| Af <| Af <| Ai fun ds => Aa rfl (Bg Cd (Ap rfl <| Al rfl <| Ac) rfl rfl (Bm 0 rfl)) ?_
 refine Bl rfl (x_callN bd_66 Az (.cons (Ac) .nil) (look_ok hr (Co h0) h0) fun v2 F3 R6 hr4 hF5 => ?_)
 replace hr := hr.mono hF5
 replace hx := hx.mono hF5
 obtain ⟨ba, kb, rfl, hX, rfl⟩ := hr4
 refine Aa rfl (Ag (Ac)) ?_
 refine Aa rfl (A1 (Ac) rfl) ?_
 refine Aa rfl (A1 (Al rfl <| Ac) rfl) ?_
 refine Aa rfl (Ae (Al rfl <| Ac)) ?_
 refine Aa rfl (Ae (Al rfl <| Ac)) ?_
 refine Ah <| Ad <| Af <| Ai fun ds => Aa rfl (Ag (Ac)) ?_
 refine Aa rfl (B5 (Ac) Ab) ?_
 refine Ah <| Ad <| Am (Ac) (by decide) ?_
 refine Ax <| Ad <| Af <| Af <| Ai fun ds => Aa rfl (Aj C7 (Ba rfl <| Ay rfl <| Ac)) ?_
 refine Aa rfl (Aq Cx (Ac) (Cell.own 0 rfl rfl)) ?_
 refine Aa rfl (Bf Cr (Ac) hr.bidders.plain) ?_
 refine Aa rfl (Dh (Ac) Ab rfl (by omega) (by omega)) ?_
 refine Aa rfl (Ag (Bb rfl <| Al rfl <| Ak rfl)) ?_
 refine Bv rfl (A9 C6 Az (.cons Ab (.cons (Al rfl <| Ac) (.cons (Ac) .nil))) (B2 _ _ hx) (fun _ _ h => h)) ?_
 refine Ah <| Ad <| Am (Ac) hany ?_
 refine Ax <| Ad <| Af <| Af <| Ai fun ds => Aa rfl (Ag (Bb rfl <| Ap rfl <| Al rfl <| Ak rfl)) ?_
 refine Aa rfl (Bf Bs (Ac) hx.plain) ?_
 refine Aa rfl (Ag Ab) ?_
 refine Ah <| Ad <| A4 <| B4 [4, 5, 6, 7, 8, 25, 26, 27, 28, 29, 30, 31, 32, 33, 34, 35, 36, 37, 38, 39, 40, 41, 42, 43, 44, 45] (fun m e σ => ∃ (k mset : Nat), m + k = ring.length ∧ e 25 = .int .i64 (k : Int) ∧ e 5 = .int .i64 (mset : Int) ∧ e 4 = .pointer (some ⟨ba, 0, none⟩) ∧ mset < 64 ∧ SetOf mset (ring.take k) ∧ (∀ i (hi : i < ring.length), i < k → 0 < i → ¬ ring[i] ≤ ring[i - 1]) ∧ σ = ⟨F3, [(b1, bx 27 [vs, .int .i64 s.premium, .int .i64 s.fee, .int .i64 s.days, vb, vl, vn, vd]), (kb, mapO [])]⟩) (ring.length) ?_ ?_
 · exact ⟨0, 0, by omega, (Ac), (Bb rfl <| Ap rfl <| Al rfl <| Ac), (Ba rfl <| Ay rfl <| Ac), by omega, fun t => by simp, fun i hi h h0 => absurd h (by omega), rfl⟩
 ·
  rintro m e _ ⟨k, mset, hm9, hs25, hs5, hs4, hm64, hbits, hasc, rfl⟩
  by_cases hlt : k < ring.length
  ·
   obtain ⟨c, hc, hcb, hc6⟩ := ring_nat (Co h0) hany hlt
   have hcp := pow_lt hc6
   refine Af <| Ai fun ds => Aa rfl (B0 (Au rfl hs25) (Ao rfl <| Al rfl <| Ac)) ?_
   refine Ah <| Ad <| Af <| Ar (Ac) (by first | rfl | exact decide_eq_true (by omega)) ?_
   by_cases hk0 : 0 < k
   ·
    refine Ax <| Ad <| Af <| A4 <| Af <| Ai fun ds => Aa rfl (Ag (Al rfl <| Au rfl hs25)) ?_
    refine Aa rfl (Be  Bs (Ap rfl <| Ao rfl <| Ap rfl <| Ac) hx.plain (Ap rfl <| Au rfl hs25) rfl hlt) ?_
    refine Aa rfl (Aq Bd (Ac) (hx.cell1 hlt rfl)) ?_
    refine Aa rfl (Ae (Ap rfl <| Ac)) ?_
    refine Aa rfl (Ae (Al rfl <| Ac)) ?_
    refine Ah <| Ad <| Af <| Af <| Ai fun ds => Aa rfl (Ag (Al rfl <| Ac)) ?_
    refine Aa rfl (Cl (Ac) Ab) ?_
    refine Aa rfl (Ag (Ac)) ?_
    refine As rfl rfl (Ac) (decide_eq_true (by omega)) ?_
    refine Aa rfl (Ag (Ap rfl <| Al rfl <| Ac)) ?_
    refine As rfl rfl (Al rfl <| Ac) (decide_eq_true (by omega)) ?_
    refine Aa rfl (Ag (Ba rfl <| Ap rfl <| Ao rfl <| Bb rfl <| Ay rfl <| Ap rfl <| Ak rfl)) ?_
    refine As rfl rfl (Ap rfl <| Ac) (decide_eq_true (by omega)) ?_
    refine Aa rfl (Ag (Ay rfl <| Ap rfl <| Ac)) ?_
    refine As rfl rfl (Ap rfl <| Al rfl <| Ac) (decide_eq_true (by omega)) ?_
    refine Aa rfl (Dh (Ac) Ab rfl (by omega) (by omega)) ?_
    refine As rfl rfl (Ay rfl <| Ac) (decide_eq_true (by omega)) ?_
    refine Aa rfl (Be (k := k - 1) Bs (Ap rfl <| Ac) hx.plain (Ac) (by omega) (by omega)) ?_
    refine As rfl rfl (Ay rfl <| Al rfl <| Ac) (decide_eq_true (by omega)) ?_
    refine Aa rfl (Aq Bd (Ac) (hx.cell1 (by omega) rfl)) ?_
    refine As rfl rfl (Ay rfl <| Ap rfl <| Ac) (decide_eq_true (by omega)) ?_
    refine Aa rfl (q_leq (Ay rfl <| Al rfl <| Ac) (Ac)) ?_
    refine Aa rfl (A6 (Ay rfl <| Ap rfl <| Al rfl <| Ac) (decide_eq_true (by omega)) (Ac)) ?_
    refine Ah <| Ad <| Am (Ac) (decide_eq_false (asc_not hna hlt (by omega))) ?_
    refine Ax <| Ad <| Ai fun ds => Aa rfl (Ag (Bb rfl <| Al rfl <| Au rfl hs5)) ?_
    refine Aa rfl (Ag (Ba rfl <| Ay rfl <| Ac)) ?_
    refine Aa rfl (q_shl Ab (Ac) (k := c) hc (by omega) (show (1 : Int) * 2 ^ c = ((2 ^ c : Nat) : Int) by simp) (Int.le_trans (by decide) (Int.natCast_nonneg _)) (by omega)) ?_
    refine Aa rfl (q_or (Ap rfl <| Ac) (Ac) (m := mset) (k := 2 ^ c) rfl rfl (by omega) (by omega) rfl) ?_
    refine Aa rfl (Ae (Ac)) ?_
    refine Ah <| Bh <| Ad <| Ai fun ds => Aa rfl (B3 (Bb rfl <| Ay rfl <| Ap rfl <| Au rfl hs25) Ab rfl (by omega) (by omega)) ?_
    refine Aa rfl (Ag (Ac)) ?_
    refine Ah <| Ad ⟨_, m - 1, Off.eq (C5 rfl <| Ei rfl <| Bj), by omega, ?_⟩
    refine ⟨k + 1, mset ||| 2 ^ c, by omega, (Ac), (Ap rfl <| Ac), (Bb rfl <| Ba rfl <| Au rfl hs4), mask_lt hm64 hc6, ?_, ?_, rfl⟩
    · rw [List.take_succ_eq_append_getElem hlt, hc]; exact mask_orI hbits
    · intro i hi hik h0
      rcases Nat.lt_succ_iff_lt_or_eq.1 hik with hik | rfl
      · exact hasc i hi hik h0
      · exact asc_not hna hi h0
   ·
    refine Ax <| Ad <| Af <| A4 <| Af <| Ai fun ds => Aa rfl (Ag (Al rfl <| Au rfl hs25)) ?_
    refine Aa rfl (Be  Bs (Ap rfl <| Ao rfl <| Ap rfl <| Ac) hx.plain (Ap rfl <| Au rfl hs25) rfl hlt) ?_
    refine Aa rfl (Aq Bd (Ac) (hx.cell1 hlt rfl)) ?_
    refine Aa rfl (Ae (Ap rfl <| Ac)) ?_
    refine Aa rfl (Ae (Al rfl <| Ac)) ?_
    refine Ah <| Ad <| Af <| Af <| Ai fun ds => Aa rfl (Ag (Al rfl <| Ac)) ?_
    refine Aa rfl (Cl (Ac) Ab) ?_
    refine Aa rfl (Ag (Ac)) ?_
    refine At rfl rfl (Ac) (.inl (congrArg Value.bool (decide_eq_false (by omega)))) rfl ?_
    refine At rfl rfl (Al rfl <| Ac) (.inl (congrArg Value.bool (decide_eq_false (by omega)))) rfl ?_
    refine At rfl rfl (Ap rfl <| Ac) (.inl (congrArg Value.bool (decide_eq_false (by omega)))) rfl ?_
    refine At rfl rfl (Ap rfl <| Al rfl <| Ac) (.inl (congrArg Value.bool (decide_eq_false (by omega)))) rfl ?_
    refine At rfl rfl (Ay rfl <| Ac) (.inl (congrArg Value.bool (decide_eq_false (by omega)))) rfl ?_
    refine At rfl rfl (Ay rfl <| Al rfl <| Ac) (.inl (congrArg Value.bool (decide_eq_false (by omega)))) rfl ?_
    refine At rfl rfl (Ay rfl <| Ap rfl <| Ac) (.inl (congrArg Value.bool (decide_eq_false (by omega)))) rfl ?_
    refine Aa rfl (A8 (Ay rfl <| Ap rfl <| Al rfl <| Ac) (decide_eq_false (by omega)) Ab) ?_
    refine Ah <| Ad <| Am (Ac) rfl ?_
    refine Ax <| Ad <| Ai fun ds => Aa rfl (Ag (Bb rfl <| Al rfl <| Au rfl hs5)) ?_
    refine Aa rfl (Ag (Ba rfl <| Ay rfl <| Ac)) ?_
    refine Aa rfl (q_shl Ab (Ac) (k := c) hc (by omega) (show (1 : Int) * 2 ^ c = ((2 ^ c : Nat) : Int) by simp) (Int.le_trans (by decide) (Int.natCast_nonneg _)) (by omega)) ?_
    refine Aa rfl (q_or (Ap rfl <| Ac) (Ac) (m := mset) (k := 2 ^ c) rfl rfl (by omega) (by omega) rfl) ?_
    refine Aa rfl (Ae (Ac)) ?_
    refine Ah <| Bh <| Ad <| Ai fun ds => Aa rfl (B3 (Bb rfl <| Ay rfl <| Ap rfl <| Au rfl hs25) Ab rfl (by omega) (by omega)) ?_
    refine Aa rfl (Ag (Ac)) ?_
    refine Ah <| Ad ⟨_, m - 1, Off.eq (C5 rfl <| Ei rfl <| Bj), by omega, ?_⟩
    refine ⟨k + 1, mset ||| 2 ^ c, by omega, (Ac), (Ap rfl <| Ac), (Bb rfl <| Ba rfl <| Au rfl hs4), mask_lt hm64 hc6, ?_, ?_, rfl⟩
    · rw [List.take_succ_eq_append_getElem hlt, hc]; exact mask_orI hbits
    · intro i hi hik h0
      exact absurd h0 (by omega)
  ·
   refine Af <| Ai fun ds => Aa rfl (B0 (Au rfl hs25) (Ao rfl <| Al rfl <| Ac)) ?_
   refine Ah <| Ad <| Af <| Am (Ac) (by first | rfl | exact decide_eq_false (by omega)) ?_
   refine Bx ?_
   refine Bk <| Bk <| Bn <| Ad <| Af <| Af <| Ai fun ds => Aa rfl (Ag (Al rfl <| Ao rfl <| Bb rfl <| Ay rfl <| Ap rfl <| Ak rfl)) ?_
   refine Aa rfl (Bf Bs (Ac) hx.plain) ?_
   refine Aa rfl (B9 (Ac) Ab) ?_
   refine Ah <| Ad <| Am (Ac) (decide_eq_false (by omega)) ?_
   refine Ax <| Ad <| Af <| Ai fun ds => Aa rfl (Ag (Ay rfl <| Au rfl hs4)) ?_
   refine Aa rfl (Ag (Ay rfl <| Al rfl <| Au rfl hs5)) ?_
   refine Aa rfl (Ae (Al rfl <| Ac)) ?_
   refine Aa rfl (Ae (Al rfl <| Ac)) ?_
   refine Aa rfl (Ae Ab) ?_
   refine Ah <| Ad <| A5 <| post_retN rfl (.tmp (Ap rfl <| Ac) (.tmp (Al rfl <| Ac) (.tmp (Ac) .nil))) (.cons _ <| .refl _) ?_
   exact ⟨_, _, _, rfl, hX, hm64, by rw [List.take_of_length_le (by omega)] at hbits; exact hbits, rfl⟩
set_option maxRecDepth 100000 in
theorem enter_bad {F : Heap} {vs vb vl vn vd : Value} {s : Sale} (hr : SaleR F vs vb vl vn vd s) {vr : Value} {ring : List Int} (hx : Ints F vr ring) (hbad : enterErr s ring ≠ 0) : Ok Try.prog 69 [.agg #[vs, .int .i64 s.premium, .int .i64 s.fee, .int .i64 s.days, vb, vl, vn, vd], vr].toArray F fun u _ => u = .tuple #[.pointer none, .int .i64 0, .int .i64 (enterErr s ring)] := by
 refine Ok.intro Try.func69 rfl Try.ntmps69 rfl fun w0 => ?_
 have hL2 := hr.bidders.plain.lt
 have hlen := hx.plain.lt
 by_cases h0 : (checkS s).2.2 = 0
 ·
  refine Af <| Ai fun ds => Bl rfl (Cc (Ak rfl) rfl fun b1 hb1 nb1 => ?_)
  refine Aa rfl (Ae Ab) ?_
  refine Aa rfl (Ae Ab) ?_
  refine Aa rfl (Ae Ab) ?_
  refine Ah <| Ad <| Af <| Af <| Ai fun ds => Aa rfl (Bg Cd (Ap rfl <| Al rfl <| Ac) rfl rfl (Bm 0 rfl)) ?_
  refine Bl rfl (x_callN bd_66 Az (.cons (Ac) .nil) (look_ok hr (Co h0) h0) fun v2 F3 R6 hr4 hF5 => ?_)
  replace hr := hr.mono hF5
  replace hx := hx.mono hF5
  obtain ⟨ba, kb, rfl, hX, rfl⟩ := hr4
  refine Aa rfl (Ag (Ac)) ?_
  refine Aa rfl (A1 (Ac) rfl) ?_
  refine Aa rfl (A1 (Al rfl <| Ac) rfl) ?_
  refine Aa rfl (Ae (Al rfl <| Ac)) ?_
  refine Aa rfl (Ae (Al rfl <| Ac)) ?_
  refine Ah <| Ad <| Af <| Ai fun ds => Aa rfl (Ag (Ac)) ?_
  refine Aa rfl (B5 (Ac) Ab) ?_
  refine Ah <| Ad <| Am (Ac) (by decide) ?_
  by_cases hany : (ring.any fun z => !(inB 0 (s.bidders.length - 1) z)) = true
  ·
   refine Ax <| Ad <| Af <| Af <| Ai fun ds => Aa rfl (Aj C7 (Ba rfl <| Ay rfl <| Ac)) ?_
   refine Aa rfl (Aq Cx (Ac) (Cell.own 0 rfl rfl)) ?_
   refine Aa rfl (Bf Cr (Ac) hr.bidders.plain) ?_
   refine Aa rfl (Dh (Ac) Ab rfl (by omega) (by omega)) ?_
   refine Aa rfl (Ag (Bb rfl <| Al rfl <| Ak rfl)) ?_
   refine Bv rfl (A9 C6 Az (.cons Ab (.cons (Al rfl <| Ac) (.cons (Ac) .nil))) (B2 _ _ hx) (fun _ _ h => h)) ?_
   refine Ah <| Ad <| Ar (Ac) hany ?_
   refine Af <| Ai fun ds => Aa rfl (Ae Ab) ?_
   refine Aa rfl (Ae Ab) ?_
   refine Aa rfl (Ae Ab) ?_
   refine Ah <| Ad <| A5 <| A7 ?_
   refine Aw rfl (.tmp (Ap rfl <| Ac) (.tmp (Al rfl <| Ac) (.tmp (Ac) .nil))) ?_
   rw [enterE_ring h0, ringErr_4 hany]; rfl
  ·
   replace hany : (ring.any fun z => !(inB 0 (s.bidders.length - 1) z)) = false := by simpa using hany
   refine Ax <| Ad <| Af <| Af <| Ai fun ds => Aa rfl (Aj C7 (Ba rfl <| Ay rfl <| Ac)) ?_
   refine Aa rfl (Aq Cx (Ac) (Cell.own 0 rfl rfl)) ?_
   refine Aa rfl (Bf Cr (Ac) hr.bidders.plain) ?_
   refine Aa rfl (Dh (Ac) Ab rfl (by omega) (by omega)) ?_
   refine Aa rfl (Ag (Bb rfl <| Al rfl <| Ak rfl)) ?_
   refine Bv rfl (A9 C6 Az (.cons Ab (.cons (Al rfl <| Ac) (.cons (Ac) .nil))) (B2 _ _ hx) (fun _ _ h => h)) ?_
   refine Ah <| Ad <| Am (Ac) hany ?_
   refine Ax <| Ad <| Af <| Af <| Ai fun ds => Aa rfl (Ag (Bb rfl <| Ap rfl <| Al rfl <| Ak rfl)) ?_
   refine Aa rfl (Bf Bs (Ac) hx.plain) ?_
   refine Aa rfl (Ag Ab) ?_
   refine Ah <| Ad <| A4 <| B4 [4, 5, 6, 7, 8, 25, 26, 27, 28, 29, 30, 31, 32, 33, 34, 35, 36, 37, 38, 39, 40, 41, 42, 43, 44, 45] (fun m e σ => ∃ (k mset : Nat), m + k = ring.length ∧ e 25 = .int .i64 (k : Int) ∧ e 5 = .int .i64 (mset : Int) ∧ e 4 = .pointer (some ⟨ba, 0, none⟩) ∧ mset < 64 ∧ SetOf mset (ring.take k) ∧ (∀ i (hi : i < ring.length), i < k → 0 < i → ¬ ring[i] ≤ ring[i - 1]) ∧ σ = ⟨F3, [(b1, bx 27 [vs, .int .i64 s.premium, .int .i64 s.fee, .int .i64 s.days, vb, vl, vn, vd]), (kb, mapO [])]⟩) (ring.length) ?_ ?_
   · exact ⟨0, 0, by omega, (Ac), (Bb rfl <| Ap rfl <| Al rfl <| Ac), (Ba rfl <| Ay rfl <| Ac), by omega, fun t => by simp, fun i hi h h0 => absurd h (by omega), rfl⟩
   ·
    rintro m e _ ⟨k, mset, hm9, hs25, hs5, hs4, hm64, hbits, hasc, rfl⟩
    by_cases hlt : k < ring.length
    ·
     obtain ⟨c, hc, hcb, hc6⟩ := ring_nat (Co h0) hany hlt
     have hcp := pow_lt hc6
     refine Af <| Ai fun ds => Aa rfl (B0 (Au rfl hs25) (Ao rfl <| Al rfl <| Ac)) ?_
     refine Ah <| Ad <| Af <| Ar (Ac) (by first | rfl | exact decide_eq_true (by omega)) ?_
     by_cases hk0 : 0 < k
     ·
      refine Ax <| Ad <| Af <| A4 <| Af <| Ai fun ds => Aa rfl (Ag (Al rfl <| Au rfl hs25)) ?_
      refine Aa rfl (Be  Bs (Ap rfl <| Ao rfl <| Ap rfl <| Ac) hx.plain (Ap rfl <| Au rfl hs25) rfl hlt) ?_
      refine Aa rfl (Aq Bd (Ac) (hx.cell1 hlt rfl)) ?_
      refine Aa rfl (Ae (Ap rfl <| Ac)) ?_
      refine Aa rfl (Ae (Al rfl <| Ac)) ?_
      refine Ah <| Ad <| Af <| Af <| Ai fun ds => Aa rfl (Ag (Al rfl <| Ac)) ?_
      refine Aa rfl (Cl (Ac) Ab) ?_
      refine Aa rfl (Ag (Ac)) ?_
      refine As rfl rfl (Ac) (decide_eq_true (by omega)) ?_
      refine Aa rfl (Ag (Ap rfl <| Al rfl <| Ac)) ?_
      refine As rfl rfl (Al rfl <| Ac) (decide_eq_true (by omega)) ?_
      refine Aa rfl (Ag (Ba rfl <| Ap rfl <| Ao rfl <| Bb rfl <| Ay rfl <| Ap rfl <| Ak rfl)) ?_
      refine As rfl rfl (Ap rfl <| Ac) (decide_eq_true (by omega)) ?_
      refine Aa rfl (Ag (Ay rfl <| Ap rfl <| Ac)) ?_
      refine As rfl rfl (Ap rfl <| Al rfl <| Ac) (decide_eq_true (by omega)) ?_
      refine Aa rfl (Dh (Ac) Ab rfl (by omega) (by omega)) ?_
      refine As rfl rfl (Ay rfl <| Ac) (decide_eq_true (by omega)) ?_
      refine Aa rfl (Be (k := k - 1) Bs (Ap rfl <| Ac) hx.plain (Ac) (by omega) (by omega)) ?_
      refine As rfl rfl (Ay rfl <| Al rfl <| Ac) (decide_eq_true (by omega)) ?_
      refine Aa rfl (Aq Bd (Ac) (hx.cell1 (by omega) rfl)) ?_
      refine As rfl rfl (Ay rfl <| Ap rfl <| Ac) (decide_eq_true (by omega)) ?_
      refine Aa rfl (q_leq (Ay rfl <| Al rfl <| Ac) (Ac)) ?_
      refine Aa rfl (A6 (Ay rfl <| Ap rfl <| Al rfl <| Ac) (decide_eq_true (by omega)) (Ac)) ?_
      refine Ah <| Ad ?_
      by_cases hle : ring[k] ≤ ring[k - 1]
      ·
       refine Ar (Ac) (decide_eq_true hle) ?_
       refine Af <| Ai fun ds => Aa rfl (Ae Ab) ?_
       refine Aa rfl (Ae Ab) ?_
       refine Aa rfl (Ae Ab) ?_
       refine Ah <| Ad <| A5 <| A7 (Bc (A7 (A7 (Bc (A7 ?_)))))
       refine Aw rfl (.tmp (Ap rfl <| Ac) (.tmp (Al rfl <| Ac) (.tmp (Ac) .nil))) ?_
       rw [enterE_ring h0, ringErr_2 hany (notAsc_at (by omega) hlt hle)]; rfl
      ·
       refine Am (Ac) (decide_eq_false hle) ?_
       refine Ax <| Ad <| Ai fun ds => Aa rfl (Ag (Bb rfl <| Al rfl <| Au rfl hs5)) ?_
       refine Aa rfl (Ag (Ba rfl <| Ay rfl <| Ac)) ?_
       refine Aa rfl (q_shl Ab (Ac) (k := c) hc (by omega) (show (1 : Int) * 2 ^ c = ((2 ^ c : Nat) : Int) by simp) (Int.le_trans (by decide) (Int.natCast_nonneg _)) (by omega)) ?_
       refine Aa rfl (q_or (Ap rfl <| Ac) (Ac) (m := mset) (k := 2 ^ c) rfl rfl (by omega) (by omega) rfl) ?_
       refine Aa rfl (Ae (Ac)) ?_
       refine Ah <| Bh <| Ad <| Ai fun ds => Aa rfl (B3 (Bb rfl <| Ay rfl <| Ap rfl <| Au rfl hs25) Ab rfl (by omega) (by omega)) ?_
       refine Aa rfl (Ag (Ac)) ?_
       refine Ah <| Ad ⟨_, m - 1, Off.eq (C5 rfl <| Ei rfl <| Bj), by omega, ?_⟩
       refine ⟨k + 1, mset ||| 2 ^ c, by omega, (Ac), (Ap rfl <| Ac), (Bb rfl <| Ba rfl <| Au rfl hs4), mask_lt hm64 hc6, ?_, ?_, rfl⟩
       · rw [List.take_succ_eq_append_getElem hlt, hc]; exact mask_orI hbits
       · intro i hi hik h0
         rcases Nat.lt_succ_iff_lt_or_eq.1 hik with hik | rfl
         · exact hasc i hi hik h0
         · exact hle
     ·
      refine Ax <| Ad <| Af <| A4 <| Af <| Ai fun ds => Aa rfl (Ag (Al rfl <| Au rfl hs25)) ?_
      refine Aa rfl (Be  Bs (Ap rfl <| Ao rfl <| Ap rfl <| Ac) hx.plain (Ap rfl <| Au rfl hs25) rfl hlt) ?_
      refine Aa rfl (Aq Bd (Ac) (hx.cell1 hlt rfl)) ?_
      refine Aa rfl (Ae (Ap rfl <| Ac)) ?_
      refine Aa rfl (Ae (Al rfl <| Ac)) ?_
      refine Ah <| Ad <| Af <| Af <| Ai fun ds => Aa rfl (Ag (Al rfl <| Ac)) ?_
      refine Aa rfl (Cl (Ac) Ab) ?_
      refine Aa rfl (Ag (Ac)) ?_
      refine At rfl rfl (Ac) (.inl (congrArg Value.bool (decide_eq_false (by omega)))) rfl ?_
      refine At rfl rfl (Al rfl <| Ac) (.inl (congrArg Value.bool (decide_eq_false (by omega)))) rfl ?_
      refine At rfl rfl (Ap rfl <| Ac) (.inl (congrArg Value.bool (decide_eq_false (by omega)))) rfl ?_
      refine At rfl rfl (Ap rfl <| Al rfl <| Ac) (.inl (congrArg Value.bool (decide_eq_false (by omega)))) rfl ?_
      refine At rfl rfl (Ay rfl <| Ac) (.inl (congrArg Value.bool (decide_eq_false (by omega)))) rfl ?_
      refine At rfl rfl (Ay rfl <| Al rfl <| Ac) (.inl (congrArg Value.bool (decide_eq_false (by omega)))) rfl ?_
      refine At rfl rfl (Ay rfl <| Ap rfl <| Ac) (.inl (congrArg Value.bool (decide_eq_false (by omega)))) rfl ?_
      refine Aa rfl (A8 (Ay rfl <| Ap rfl <| Al rfl <| Ac) (decide_eq_false (by omega)) Ab) ?_
      refine Ah <| Ad <| Am (Ac) rfl ?_
      refine Ax <| Ad <| Ai fun ds => Aa rfl (Ag (Bb rfl <| Al rfl <| Au rfl hs5)) ?_
      refine Aa rfl (Ag (Ba rfl <| Ay rfl <| Ac)) ?_
      refine Aa rfl (q_shl Ab (Ac) (k := c) hc (by omega) (show (1 : Int) * 2 ^ c = ((2 ^ c : Nat) : Int) by simp) (Int.le_trans (by decide) (Int.natCast_nonneg _)) (by omega)) ?_
      refine Aa rfl (q_or (Ap rfl <| Ac) (Ac) (m := mset) (k := 2 ^ c) rfl rfl (by omega) (by omega) rfl) ?_
      refine Aa rfl (Ae (Ac)) ?_
      refine Ah <| Bh <| Ad <| Ai fun ds => Aa rfl (B3 (Bb rfl <| Ay rfl <| Ap rfl <| Au rfl hs25) Ab rfl (by omega) (by omega)) ?_
      refine Aa rfl (Ag (Ac)) ?_
      refine Ah <| Ad ⟨_, m - 1, Off.eq (C5 rfl <| Ei rfl <| Bj), by omega, ?_⟩
      refine ⟨k + 1, mset ||| 2 ^ c, by omega, (Ac), (Ap rfl <| Ac), (Bb rfl <| Ba rfl <| Au rfl hs4), mask_lt hm64 hc6, ?_, ?_, rfl⟩
      · rw [List.take_succ_eq_append_getElem hlt, hc]; exact mask_orI hbits
      · intro i hi hik h0
        exact absurd h0 (by omega)
    ·
     refine Af <| Ai fun ds => Aa rfl (B0 (Au rfl hs25) (Ao rfl <| Al rfl <| Ac)) ?_
     refine Ah <| Ad <| Af <| Am (Ac) (by first | rfl | exact decide_eq_false (by omega)) ?_
     by_cases h1 : ring.length = 1
     ·
      refine Bx ?_
      refine Bk <| Bk <| Bn <| Ad <| Af <| Af <| Ai fun ds => Aa rfl (Ag (Al rfl <| Ao rfl <| Bb rfl <| Ay rfl <| Ap rfl <| Ak rfl)) ?_
      refine Aa rfl (Bf Bs (Ac) hx.plain) ?_
      refine Aa rfl (B9 (Ac) Ab) ?_
      refine Ah <| Ad <| Ar (Ac) (decide_eq_true (by omega)) ?_
      refine Af <| Ai fun ds => Aa rfl (Ae Ab) ?_
      refine Aa rfl (Ae Ab) ?_
      refine Aa rfl (Ae Ab) ?_
      refine Ah <| Ad <| A5 <| A7 ?_
      refine Aw rfl (.tmp (Ap rfl <| Ac) (.tmp (Al rfl <| Ac) (.tmp (Ac) .nil))) ?_
      rw [enterE_ring h0, ringErr_3 hany (asc_of fun i hi h0 => hasc i hi (by omega) h0) h1]; rfl
     ·
      refine Bx ?_
      refine Bk <| Bk <| Bn <| Ad <| Af <| Af <| Ai fun ds => Aa rfl (Ag (Al rfl <| Ao rfl <| Bb rfl <| Ay rfl <| Ap rfl <| Ak rfl)) ?_
      refine Aa rfl (Bf Bs (Ac) hx.plain) ?_
      refine Aa rfl (B9 (Ac) Ab) ?_
      refine Ah <| Ad <| Am (Ac) (decide_eq_false (by omega)) ?_
      refine Ax <| Ad <| Af <| Ai fun ds => Aa rfl (Ag (Ay rfl <| Au rfl hs4)) ?_
      refine Aa rfl (Ag (Ay rfl <| Al rfl <| Au rfl hs5)) ?_
      refine Aa rfl (Ae (Al rfl <| Ac)) ?_
      refine Aa rfl (Ae (Al rfl <| Ac)) ?_
      refine Aa rfl (Ae Ab) ?_
      refine Ah <| Ad <| A5 <| Aw rfl (.tmp (Ap rfl <| Ac) (.tmp (Al rfl <| Ac) (.tmp (Ac) .nil))) ?_
      exact absurd ((enterE_ring h0).trans (ringErr_0 hany (asc_of fun i hi h0 => hasc i hi (by omega) h0) h1)) hbad
 ·
  refine Af <| Ai fun ds => Bl rfl (Cc (Ak rfl) rfl fun b8 hb8 nb8 => ?_)
  refine Aa rfl (Ae Ab) ?_
  refine Aa rfl (Ae Ab) ?_
  refine Aa rfl (Ae Ab) ?_
  refine Ah <| Ad <| Af <| Af <| Ai fun ds => Aa rfl (Bg Cd (Ap rfl <| Al rfl <| Ac) rfl rfl (Bm 0 rfl)) ?_
  refine Bv rfl (A9 bd_66 Az (.cons (Ac) .nil) (look_bad hr h0) (fun _ _ h => h)) ?_
  refine Aa rfl (Ag (Ac)) ?_
  refine Aa rfl (A1 (Ac) rfl) ?_
  refine Aa rfl (A1 (Al rfl <| Ac) rfl) ?_
  refine Aa rfl (Ae (Al rfl <| Ac)) ?_
  refine Aa rfl (Ae (Al rfl <| Ac)) ?_
  refine Ah <| Ad <| Af <| Ai fun ds => Aa rfl (Ag (Ac)) ?_
  refine Aa rfl (B5 (Ac) Ab) ?_
  refine Ah <| Ad <| Ar (Ac) (decide_eq_true h0) ?_
  refine Af <| Ai fun ds => Aa rfl (Ag (Ap rfl <| Ac)) ?_
  refine Aa rfl (Ae Ab) ?_
  refine Aa rfl (Ae Ab) ?_
  refine Aa rfl (Ae (Ap rfl <| Ac)) ?_
  refine Ah <| Ad <| A5 <| A7 ?_
  refine Aw rfl (.tmp (Ap rfl <| Ac) (.tmp (Al rfl <| Ac) (.tmp (Ac) .nil))) ?_
  rw [enterE_bad h0]; rfl
end Go.Proofs.Ytaikojfonleccaa
namespace Go.Proofs.Ytaikojfonleccaa
open Go.RowKit
theorem bd_100 : Body Try.prog 100 := Br (by kernel_rfl)
theorem bd_101 : Body Try.prog 101 := Br (by kernel_rfl)
theorem fd_156_3 : FieldT Try.prog 156 3 80 := Ca (by kernel_rfl)
theorem one_152 : OneT Try.prog 152 := Dj (by kernel_rfl)
theorem mapK : MapT Try.prog 152 3 34 (.slice none 0 0) := ⟨Try.underlying152, C4 (by kernel_rfl), Go.Maps.int_keyed Try.underlying3⟩
theorem isKn {z : Nat} (h : z < 64) : IsK Try.prog 3 (.int .i64 (z : Int)) := isK_int Try.underlying3 (by omega) (by omega)
theorem Dy {m k : Nat} : decide ((((m / 2 ^ k) &&& 1 : Nat) : Int) = 0) = !(m.testBit k) := by
 rw [← Dw]
 have : (m / 2 ^ k) &&& 1 = 0 ∨ (m / 2 ^ k) &&& 1 = 1 := by
   have := Nat.and_one_is_mod (m / 2 ^ k); omega
 rcases this with h | h <;> rw [h] <;> rfl
theorem strong_or {s : Sale} {l : Nat} {mem : Nat → Bool} : strongP s l mem = -1 ∨ ∃ o : Nat, o < s.bidders.length ∧ strongP s l mem = (o : Int) := by
 rcases strong_spec (s := s) (l := l) (mem := mem) s.bidders.length with ⟨h, -⟩ | ⟨b, h1, -, h, -⟩
 · exact .inl h
 · exact .inr ⟨b, h1, h⟩
theorem sellP_none {s : Sale} {set l : Nat} (h : strongP s l (fun _ => true) = -1) : sellP s set l = ⟨-1, 0⟩ := if_pos (.inl (by omega))
theorem sellP_low {s : Sale} {set l o : Nat} (h : strongP s l (fun _ => true) = (o : Int)) (h2 : mostN s l o < (s.lot l).reserve) : sellP s set l = ⟨-1, 0⟩ := by
 unfold sellP; rw [h]; exact if_pos (.inr (by simpa using h2))
theorem sellP_at {s : Sale} {set l o : Nat} (h : strongP s l (fun _ => true) = (o : Int)) (h2 : ¬ mostN s l o < (s.lot l).reserve) : sellP s set l = ⟨o, climbS s (s.lot l).reserve (othersTo s l set o (strongP s l set.testBit) s.bidders.length) (mostN s l o)⟩ := by
 unfold sellP; rw [h]; simp only [Int.toNat_natCast]; exact if_neg (by omega)
def SoldR (F : Heap) (H' : List (Nat × Obj)) (u : Value) (kb : Nat) (s : Sale) (set : Nat) : Prop := ∃ es, H' = [(kb, mapO es)] ∧ KnownC Try.prog 3 F es s ∧ Sl F u 2 Res.enc (sellL s set s.lots.length)
set_option maxRecDepth 100000 in
theorem sell_ok {F : Heap} {b kb : Nat} {vs vb vl vn vd : Value} {s : Sale} (hX : AucX 156 F b vs vb vl vn vd kb s) (hv : ValidS s) {es : List (Value × Value)} (hK : KnownC Try.prog 3 F es s) {set : Nat} (hset : set < 64) : OkM Try.prog 70 [.pointer (some ⟨b, 0, none⟩), .int .i64 (set : Int)].toArray F [(kb, mapO es)] fun u F' H' => SoldR F' H' u kb s set := by
 refine OkM.intro Try.func70 rfl Try.ntmps70 rfl fun w0 => ?_
 have hL1 := hX.sale.lots.plain.lt
 have hL2 := hX.sale.bidders.plain.lt
 have hnl := hv.nl
 have hnb := hv.nb
 rcases keys_or (es := es) (.int .i64 (set : Int)) with hno | ⟨j, u, hj⟩
 ·
  refine Af <| Ai fun ds => Aa rfl (Ae Ab) ?_
  refine Ah <| Ad <| Af <| Ai fun ds => Aa rfl (Ag (Al rfl <| Ak rfl)) ?_
  refine Aa rfl (Bu (Ac)) ?_
  refine Aa rfl (Aj fd_156_3 (Ac)) ?_
  refine Aa rfl (Aq one_152 (Ac) hX.known_cell.cell) ?_
  refine Aa rfl (Ag (Ay rfl <| Al rfl <| Ak rfl)) ?_
  refine Aa rfl (q_lookup2N mapK (Al rfl <| Ac) (Ac) (i := 0) rfl (isKn hset) hK.keys hno) ?_
  refine Aa rfl (Ag (Ac)) ?_
  refine Aa rfl (A1 (Ac) rfl) ?_
  refine Aa rfl (A1 (Al rfl <| Ac) rfl) ?_
  refine Aa rfl (Ae (Al rfl <| Ac)) ?_
  refine Aa rfl (Ae (Al rfl <| Ac)) ?_
  refine Ah <| Ad <| Af <| Af <| Ai fun ds => Aa rfl (Ag (Ac)) ?_
  refine Ah <| Ad <| Am (Ac) rfl ?_
  refine Ax <| Ad <| Af <| Af <| Ai fun ds => Aa rfl (Ag (Ba rfl <| Ay rfl <| Al rfl <| Ak rfl)) ?_
  refine Aa rfl (Bu (Ac)) ?_
  refine Aa rfl (Aj E4 (Ac)) ?_
  refine Aa rfl (Aj Cp (Ac)) ?_
  refine Aa rfl (Aq C0 (Ac) (CellF.own hX.blk rfl).cell) ?_
  refine Aa rfl (Bf C1 (Ac) hX.sale.lots.plain) ?_
  refine Aa rfl (Ag Ab) ?_
  refine Ah <| Ad <| A4 <| B4 [5, 7, 8, 9, 10, 11, 12, 30, 31, 32, 33, 34, 35, 36, 37, 38, 39, 40, 41, 42, 43, 44, 45, 46, 47, 48, 49, 50, 51, 52, 53, 54, 55, 56, 57, 58, 59, 60, 61, 62, 63, 64, 65, 66, 67, 68, 69, 70, 71, 72, 73, 74, 75, 76, 77, 78, 79, 80, 81, 82, 83, 84, 85, 86, 87, 88, 89, 90, 91, 92, 93, 94, 95, 96, 97, 98, 99, 100, 101, 102, 103, 104, 105, 106, 107, 108, 109, 110, 111, 112, 113, 114] (fun m e σ => ∃ k : Nat, m + k = s.lots.length ∧ e 30 = .int .i64 (k : Int) ∧ ∃ v R, e 5 = v ∧ Own 63 2 v (sellL s set k).length ((sellL s set k).flatMap Res.enc) R ∧ σ = ⟨F, (kb, mapO es) :: R⟩) (s.lots.length) ?_ ?_
  · exact ⟨0, by omega, (Ac), _, _, (Ba rfl <| Al rfl <| Ac), Own.nil, rfl⟩
  ·
   rintro m e _ ⟨k, hm9, hs30, v5, R5, hs5, ho, rfl⟩; have hsl := sellL_length (s := s) (set := set) (k := k)
   by_cases hlt : k < s.lots.length
   ·
    have hk6 : k < 6 := by omega
    obtain ⟨e1, e2, e3, e4, e5⟩ := lot_facts hv hlt
    refine Af <| Ai fun ds => Aa rfl (B0 (Au rfl hs30) (Ao rfl <| Al rfl <| Ac)) ?_
    refine Ah <| Ad <| Af <| Ar (Ac) (by first | rfl | exact decide_eq_true (by omega)) ?_
    rcases strong_or (s := s) (l := k) (mem := fun _ => true) with hso | ⟨o, hob, hso⟩
    ·
     refine Ax <| Ad <| Af <| A4 <| Af <| Ai fun ds => Aa rfl (Ag (Al rfl <| Au rfl hs30)) ?_
     refine Aa rfl (Be (k := k) C1 (Ap rfl <| Ao rfl <| Ap rfl <| Ac) hX.sale.lots.plain (Ap rfl <| Au rfl hs30) rfl hlt) ?_
     refine Aa rfl (Bg agg_69 (Ac) rfl rfl (hX.sale.lots.whole hlt)) ?_
     refine Bl rfl (B6 zr_69 rfl fun b2 hb2 nb2 => ?_)
     refine Aa rfl (Ae (Ap rfl <| Al rfl <| Ac)) ?_
     refine Ck (B8 sz_69 (Al rfl <| Ac) (Ap rfl <| Ac) (i := 0) rfl rfl rfl rfl Lot.enc_one (.here) ?_)
     refine Ah <| Ad <| Af <| Ai fun ds => Aa rfl (Ag (Ay rfl <| Ap rfl <| Ao rfl <| Bb rfl <| Ay rfl <| Ak rfl)) ?_
     refine Aa rfl (Ag (Al rfl <| Ac)) ?_
     refine Bv rfl (A9 bd_100 Az (.cons (Al rfl <| Ac) (.cons (Ac) (.cons Ab .nil))) (strongest_all hX hv hk6) (fun _ _ h => h.trans (by rw [hso]))) ?_
     refine Aa rfl (Ae (Ac)) ?_
     refine Ah <| Ad <| Af <| Af <| Ch (.inl rfl) (fun _ _ h => h) (by kernel_rfl) (by kernel_rfl) fun ds => ?_
     refine A0 rfl (Ag (Ac)) ?_
     refine A0 rfl (B0 (Ac) Ab) ?_
     refine A0 rfl (Ag (Ac)) ?_
     refine A2 rfl rfl (Ac) (.inl (congrArg Value.bool (by decide))) rfl ?_
     refine A2 rfl rfl (Al rfl <| Ac) (.inl (congrArg Value.bool (by decide))) rfl ?_
     refine A2 rfl rfl (Ap rfl <| Ac) (.inl (congrArg Value.bool (by decide))) rfl ?_
     refine A2 rfl rfl (Ap rfl <| Al rfl <| Ac) (.inl (congrArg Value.bool (by decide))) rfl ?_
     refine A2 rfl rfl (Ay rfl <| Ac) (.inl (congrArg Value.bool (by decide))) rfl ?_
     refine A2 rfl rfl (Ay rfl <| Al rfl <| Ac) (.inl (congrArg Value.bool (by decide))) rfl ?_
     refine A2 rfl rfl (Ay rfl <| Ap rfl <| Ac) (.inl (congrArg Value.bool (by decide))) rfl ?_
     refine A2 rfl rfl (Ay rfl <| Ap rfl <| Al rfl <| Ac) (.inl (congrArg Value.bool (by decide))) rfl ?_
     refine A2 rfl rfl (Ba rfl <| Ac) (.inl (congrArg Value.bool (by decide))) rfl ?_
     refine A2 rfl rfl (Ba rfl <| Al rfl <| Ac) (.inl (congrArg Value.bool (by decide))) rfl ?_
     refine A2 rfl rfl (Ba rfl <| Ap rfl <| Ac) (.inl (congrArg Value.bool (by decide))) rfl ?_
     refine A0 rfl (A6 (Ba rfl <| Ap rfl <| Al rfl <| Ac) (by decide) Ab) ?_
     refine Cj ?_
     refine Ad <| Ar (Ac) rfl ?_
     have hP := sellP_none (set := set) hso
     refine Af <| Ai fun ds => Aa rfl (Ag (Bb rfl <| Ba rfl <| Al rfl <| Au rfl hs5)) ?_
     refine Aa rfl (Db bt_63 (.cons Ab rfl .nil) (.cons rfl rfl (Nat.le_of_ble_eq_true rfl) (.cons (.here) .nil) .nil)) ?_
     refine Bl rfl (Dn (offs := [(0, 2)]) (zl := [.int .i64 0, .int .i64 0]) Cm zr_63 rfl (.cons (Ac) rfl .nil) (by intro i p h; rcases i with _ | i <;> simp at h <;> subst h <;> rfl) (.cons rfl rfl (Nat.le_of_ble_eq_true rfl) (.cons (.here) (.cons (.next <| .here) .nil)) .nil) (by decide) (by decide) fun b3 hb3 nb3 => ?_)
     refine Bl rfl (Dg Cm el_63 (Ap rfl <| Ac) ho (Ac) (Ea (s := 2) 0 rfl rfl (by simp [Value.oneCell'])) (by omega) (by omega) (.s <| .s <| .s <| .z) .last fun v4 R5 ho6 => ?_)
     have ho2 := ho6.snoc (x := sellP s set k) rfl (by rw [hP]; rfl)
     refine Aa rfl (Ae (Ac)) ?_
     refine Ah <| Ad <| Bx ?_
     refine Bk (Bn ?_)
     refine Ad <| Ct (fun _ _ h => h.drop (.cons _ <| .cons _ <| .cons_cons _ <| .refl _)) ?_
     refine Ai fun ds => Aa rfl (B3 (Bb rfl <| Ba rfl <| Ay rfl <| Ap rfl <| Au rfl hs30) Ab rfl (by omega) (by omega)) ?_
     refine Aa rfl (Ag (Ac)) ?_
     refine Ah <| Ad ⟨_, m - 1, Off.eq (ou32 rfl <| Bj), by omega, ?_⟩
     refine ⟨k + 1, by omega, (Ac), _, _, (Ap rfl <| Ac), by rw [sellL_succ]; exact ho2, rfl⟩
    ·
     have ho6 : o < 6 := by omega
     refine Ax <| Ad <| Af <| A4 <| Af <| Ai fun ds => Aa rfl (Ag (Al rfl <| Au rfl hs30)) ?_
     refine Aa rfl (Be (k := k) C1 (Ap rfl <| Ao rfl <| Ap rfl <| Ac) hX.sale.lots.plain (Ap rfl <| Au rfl hs30) rfl hlt) ?_
     refine Aa rfl (Bg agg_69 (Ac) rfl rfl (hX.sale.lots.whole hlt)) ?_
     refine Bl rfl (B6 zr_69 rfl fun b7 hb7 nb7 => ?_)
     refine Aa rfl (Ae (Ap rfl <| Al rfl <| Ac)) ?_
     refine Ck (B8 sz_69 (Al rfl <| Ac) (Ap rfl <| Ac) (i := 0) rfl rfl rfl rfl Lot.enc_one (.here) ?_)
     refine Ah <| Ad <| Af <| Ai fun ds => Aa rfl (Ag (Ay rfl <| Ap rfl <| Ao rfl <| Bb rfl <| Ay rfl <| Ak rfl)) ?_
     refine Aa rfl (Ag (Al rfl <| Ac)) ?_
     refine Bv rfl (A9 bd_100 Az (.cons (Al rfl <| Ac) (.cons (Ac) (.cons Ab .nil))) (strongest_all hX hv hk6) (fun _ _ h => h.trans (by rw [hso]))) ?_
     refine Aa rfl (Ae (Ac)) ?_
     refine Ah <| Ad <| Af <| Af <| Ch (.inl rfl) (fun _ _ h => h) (by kernel_rfl) (by kernel_rfl) fun ds => ?_
     refine A0 rfl (Ag (Ac)) ?_
     refine A0 rfl (B0 (Ac) Ab) ?_
     refine A0 rfl (Ag (Ac)) ?_
     refine A3 rfl rfl (Ac) (decide_eq_false (by omega)) ?_
     refine A0 rfl (Ag (Ba rfl <| Ay rfl <| Al rfl <| Ao rfl <| Bb rfl <| Ay rfl <| Ak rfl)) ?_
     refine A3 rfl rfl (Al rfl <| Ac) (decide_eq_false (by omega)) ?_
     refine A0 rfl (Ag (Ba rfl <| Ac)) ?_
     refine A3 rfl rfl (Ap rfl <| Ac) (decide_eq_false (by omega)) ?_
     refine A0 rfl (Ag (Ay rfl <| Al rfl <| Ac)) ?_
     refine A3 rfl rfl (Ap rfl <| Al rfl <| Ac) (decide_eq_false (by omega)) ?_
     refine A0 rfl (Bu (Ap rfl <| Ac)) ?_
     refine A3 rfl rfl (Ay rfl <| Ac) (decide_eq_false (by omega)) ?_
     refine A0 rfl (Aj E3 (Ac)) ?_
     refine A3 rfl rfl (Ay rfl <| Al rfl <| Ac) (decide_eq_false (by omega)) ?_
     refine A0 rfl (Bw (k := k) Eo (Ac) (Ap rfl <| Al rfl <| Ac) rfl (by omega)) ?_
     refine A3 rfl rfl (Ay rfl <| Ap rfl <| Ac) (decide_eq_false (by omega)) ?_
     refine A0 rfl (Bw (k := o) Ep (Ac) (Ap rfl <| Al rfl <| Ac) rfl (by omega)) ?_
     refine A3 rfl rfl (Ay rfl <| Ap rfl <| Al rfl <| Ac) (decide_eq_false (by omega)) ?_
     refine A0 rfl (Aq Bd (Ac) (hX.most_cell (by omega : k < 6) (by omega : o < 6)).cell) ?_
     refine A3 rfl rfl (Ba rfl <| Ac) (decide_eq_false (by omega)) ?_
     refine A0 rfl (Aj fd_69_2 (Bb rfl <| Ac)) ?_
     refine A3 rfl rfl (Ba rfl <| Al rfl <| Ac) (decide_eq_false (by omega)) ?_
     refine A0 rfl (Aq Bd (Ac) (Cell.own 0 rfl rfl)) ?_
     refine A3 rfl rfl (Ba rfl <| Ap rfl <| Ac) (decide_eq_false (by omega)) ?_
     refine A0 rfl (B0 (Ap rfl <| Ac) (Ac)) ?_
     refine A0 rfl (A8 (Ba rfl <| Ap rfl <| Al rfl <| Ac) (decide_eq_false (by omega)) (Ac)) ?_
     refine Cj ?_
     refine Ad ?_
     by_cases hlow : mostN s k o < (s.lot k).reserve
     ·
      refine Ar (Ac) (decide_eq_true (by rw [e1]; exact hlow)) ?_
      have hP := sellP_low (set := set) hso hlow
      refine Af <| Ai fun ds => Aa rfl (Ag (Bb rfl <| Ba rfl <| Al rfl <| Au rfl hs5)) ?_
      refine Aa rfl (Db bt_63 (.cons Ab rfl .nil) (.cons rfl rfl (Nat.le_of_ble_eq_true rfl) (.cons (.here) .nil) .nil)) ?_
      refine Bl rfl (Dn (offs := [(0, 2)]) (zl := [.int .i64 0, .int .i64 0]) Cm zr_63 rfl (.cons (Ac) rfl .nil) (by intro i p h; rcases i with _ | i <;> simp at h <;> subst h <;> rfl) (.cons rfl rfl (Nat.le_of_ble_eq_true rfl) (.cons (.here) (.cons (.next <| .here) .nil)) .nil) (by decide) (by decide) fun b8 hb8 nb8 => ?_)
      refine Bl rfl (Dg Cm el_63 (Ap rfl <| Ac) ho (Ac) (Ea (s := 2) 0 rfl rfl (by simp [Value.oneCell'])) (by omega) (by omega) (.s <| .s <| .s <| .z) .last fun v9 R10 ho11 => ?_)
      have ho2 := ho11.snoc (x := sellP s set k) rfl (by rw [hP]; rfl)
      refine Aa rfl (Ae (Ac)) ?_
      refine Ah <| Ad <| Bx ?_
      refine Bk (Bn ?_)
      refine Ad <| Ct (fun _ _ h => h.drop (.cons _ <| .cons _ <| .cons_cons _ <| .refl _)) ?_
      refine Ai fun ds => Aa rfl (B3 (Bb rfl <| Ba rfl <| Ay rfl <| Ap rfl <| Au rfl hs30) Ab rfl (by omega) (by omega)) ?_
      refine Aa rfl (Ag (Ac)) ?_
      refine Ah <| Ad ⟨_, m - 1, Off.eq (ou32 rfl <| Bj), by omega, ?_⟩
      refine ⟨k + 1, by omega, (Ac), _, _, (Ap rfl <| Ac), by rw [sellL_succ]; exact ho2, rfl⟩
     ·
      refine Am (Ac) (decide_eq_false (by rw [e1]; exact hlow)) ?_
      refine Ax <| Ad <| Af <| Ai fun ds => Aa rfl (Ae Ab) ?_
      refine Ah <| Ad <| Af <| Ai fun ds => Aa rfl (Ag (Bb rfl <| Ba rfl <| Ap rfl <| Ao rfl <| Bb rfl <| Ay rfl <| Ak rfl)) ?_
      refine Aa rfl (Ag (Bb rfl <| Ay rfl <| Al rfl <| Ac)) ?_
      refine Aa rfl (Ag (Bb rfl <| Ba rfl <| Ay rfl <| Ao rfl <| Bb rfl <| Ay rfl <| Ak rfl)) ?_
      refine Bv rfl (A9 bd_100 Az (.cons (Ap rfl <| Ac) (.cons (Al rfl <| Ac) (.cons (Ac) .nil))) (strongest_set hX hv hk6 hset) (fun _ _ h => h)) ?_
      refine Aa rfl (Ae (Ac)) ?_
      refine Ah <| Ad <| Af <| Af <| Ai fun ds => Aa rfl (Ag (Bb rfl <| Ba rfl <| Ay rfl <| Ap rfl <| Al rfl <| Ao rfl <| Bb rfl <| Ay rfl <| Ak rfl)) ?_
      refine Aa rfl (Bu (Ac)) ?_
      refine Aa rfl (Aj E4 (Ac)) ?_
      refine Aa rfl (Aj C7 (Ac)) ?_
      refine Aa rfl (Aq Cx (Ac) (CellF.own hX.blk rfl).cell) ?_
      refine Aa rfl (Bf Cr (Ac) hX.sale.bidders.plain) ?_
      refine Aa rfl (Ag Ab) ?_
      refine Ah <| Ad <| A4 <| B4 [10, 12, 67, 68, 69, 70, 71, 72, 73, 74, 75, 76, 77, 78, 79, 80, 81, 82, 83, 84, 85, 86, 87, 88, 89, 90, 91, 92, 93, 94, 95] (fun m e σ => ∃ c : Nat, m + c = s.bidders.length ∧ e 67 = .int .i64 (c : Int) ∧ e 10 = .int .i64 (othersTo s k set (o : Int) (strongP s k set.testBit) c) ∧ σ = ⟨F, (b7, bx 69 s.lots[k].enc) :: (kb, mapO es) :: R5⟩) (s.bidders.length) ?_ ?_
      · exact ⟨0, by omega, (Ac), (Ba rfl <| Ay rfl <| Ac), rfl⟩
      ·
       rintro m2 e2 _ ⟨c, hm2, ht67, ht10, rfl⟩
       by_cases hlc : c < s.bidders.length
       ·
        have hc6 : c < 6 := by omega
        refine Af <| Ai fun ds => Aa rfl (B0 (Au rfl ht67) (Ao rfl <| Al rfl <| Ac)) ?_
        refine Ah <| Ad <| Af <| Ar (Ac) (by first | rfl | exact decide_eq_true (by omega)) ?_
        by_cases hne : (c : Int) ≠ o
        ·
         refine Ax <| Ad <| Af <| A4 <| Af <| Ai fun ds => Aa rfl (Ag (Al rfl <| Au rfl ht67)) ?_
         refine Aa rfl (Ae (Ac)) ?_
         refine Ah <| Ad <| Af <| Ai fun ds => Aa rfl (Ag (Ac)) ?_
         refine Aa rfl (Ag (Ay rfl <| Ao rfl <| Bb rfl <| Ba rfl <| Ay rfl <| Ac)) ?_
         refine Aa rfl (B5 (Al rfl <| Ac) (Ac)) ?_
         refine Aa rfl (Ag (Ac)) ?_
         refine As rfl rfl (Ac) (decide_eq_true hne) ?_
         refine Aa rfl (Ag (Ay rfl <| Ap rfl <| Al rfl <| Ao rfl <| Bt rfl <| Ay rfl <| Ap rfl <| Ao rfl <| Bb rfl <| Ay rfl <| Ak rfl)) ?_
         refine As rfl rfl (Al rfl <| Ac) (decide_eq_true hne) ?_
         refine Aa rfl (Ag (Ay rfl <| Al rfl <| Ac)) ?_
         refine As rfl rfl (Ap rfl <| Ac) (decide_eq_true hne) ?_
         refine Aa rfl (q_shr (Al rfl <| Ac) (Ac) rfl (by show c < 64; omega) shr_nat) ?_
         refine As rfl rfl (Ap rfl <| Al rfl <| Ac) (decide_eq_true hne) ?_
         refine Aa rfl (q_and (Ac) Ab (m := set / 2 ^ c) (k := 1) rfl rfl (by have := Nat.div_le_self set (2 ^ c); omega) (by omega) rfl) ?_
         refine As rfl rfl (Ay rfl <| Ac) (decide_eq_true hne) ?_
         refine Aa rfl (B9 (Ac) Ab) ?_
         refine As rfl rfl (Ay rfl <| Al rfl <| Ac) (decide_eq_true hne) ?_
         refine Aa rfl (Ag (Ac)) ?_
         by_cases hbit : set.testBit c = true
         ·
          refine As rfl rfl (Ac) (by first | (rw [Dy, hbit]; done) | (rw [Dy, hbit]; rfl)) ?_
          refine Aa rfl (Ag (Ba rfl <| Ap rfl <| Ac)) ?_
          refine As rfl rfl (Al rfl <| Ac) (by first | (rw [Dy, hbit]; done) | (rw [Dy, hbit]; rfl)) ?_
          refine Aa rfl (Ag (Ba rfl <| Ay rfl <| Ap rfl <| Ao rfl <| Ay rfl <| Ap rfl <| Al rfl <| Ac)) ?_
          refine As rfl rfl (Ap rfl <| Ac) (by first | (rw [Dy, hbit]; done) | (rw [Dy, hbit]; rfl)) ?_
          refine Aa rfl (B9 (Al rfl <| Ac) (Ac)) ?_
          refine As rfl rfl (Ba rfl <| Al rfl <| Ac) (decide_eq_true hne) ?_
          refine Aa rfl (A8 (Ap rfl <| Al rfl <| Ac) (by first | (rw [Dy, hbit]; done) | (rw [Dy, hbit]; rfl)) (Ac)) ?_
          refine Aa rfl (A6 (Ba rfl <| Ap rfl <| Ac) (decide_eq_true hne) (Ac)) ?_
          refine Ah <| Ad ?_
          by_cases hm : (c : Int) = (strongP s k set.testBit)
          ·
           refine Ar (Ac) (decide_eq_true hm) ?_
           refine Ai fun ds => Aa rfl (Ag (Bb rfl <| Ap rfl <| Au rfl ht10)) ?_
           refine Aa rfl (Ag (Bb rfl <| Ap rfl <| Al rfl <| Ao rfl <| Bt rfl <| Ay rfl <| Ap rfl <| Ao rfl <| Bb rfl <| Ay rfl <| Ak rfl)) ?_
           refine Aa rfl (Ag (Bb rfl <| Ay rfl <| Ao rfl <| Bt rfl <| Ac)) ?_
           refine Aa rfl (Ag (Bb rfl <| Ap rfl <| Ac)) ?_
           refine Aa rfl (Bu (Ap rfl <| Ac)) ?_
           refine Aa rfl (Aj E3 (Ac)) ?_
           refine Aa rfl (Bw (k := k) Eo (Ac) (Ap rfl <| Al rfl <| Ac) rfl (by omega)) ?_
           refine Aa rfl (Bw (k := c) Ep (Ac) (Ap rfl <| Al rfl <| Ac) rfl (by omega)) ?_
           refine Aa rfl (Aq Bd (Ac) (hX.most_cell (by omega : k < 6) (by omega : c < 6)).cell) ?_
           refine Aa rfl (q_max2 (Ba rfl <| Ac) (Ac)) ?_
           refine Aa rfl (Ae (Ac)) ?_
           refine Ah <| Bh <| Ad <| Ai fun ds => Aa rfl (B3 (Bb rfl <| Ba rfl <| Ay rfl <| Al rfl <| Au rfl ht67) Ab rfl (by omega) (by omega)) ?_
           refine Aa rfl (Ag (Ac)) ?_
           refine Ah <| Ad ⟨_, m2 - 1, Off.eq (C5 rfl <| Ei rfl <| ou4 rfl <| Et rfl <| Eu rfl <| Bj), by omega, ?_⟩
           exact ⟨c + 1, by omega, (Ac), by rw [othersTo_succ, if_pos (show otherOk set o (strongP s k set.testBit) c from ⟨hne, .inr hm⟩)]; exact (Ap rfl <| Ac), rfl⟩
          ·
           refine Am (Ac) (decide_eq_false hm) ?_
           refine Ax <| Bh <| Ad <| Ai fun ds => Aa rfl (B3 (Bb rfl <| Ap rfl <| Au rfl ht67) Ab rfl (by omega) (by omega)) ?_
           refine Aa rfl (Ag (Ac)) ?_
           refine Ah <| Ad ⟨_, m2 - 1, Off.eq (C5 rfl <| ou4 rfl <| Bj), by omega, ?_⟩
           exact ⟨c + 1, by omega, (Ac), by rw [othersTo_succ, if_neg (show ¬ otherOk set o (strongP s k set.testBit) c from fun h => h.2.elim (fun h => by rw [hbit] at h; cases h) hm)]; exact (Bb rfl <| Ay rfl <| Au rfl ht10), rfl⟩
         ·
          replace hbit : set.testBit c = false := by simpa using hbit
          refine At rfl rfl (Ac) (.inl (congrArg Value.bool (by first | (rw [Dy, hbit]; done) | (rw [Dy, hbit]; rfl)))) rfl ?_
          refine At rfl rfl (Al rfl <| Ac) (.inl (congrArg Value.bool (by first | (rw [Dy, hbit]; done) | (rw [Dy, hbit]; rfl)))) rfl ?_
          refine At rfl rfl (Ap rfl <| Ac) (.inl (congrArg Value.bool (by first | (rw [Dy, hbit]; done) | (rw [Dy, hbit]; rfl)))) rfl ?_
          refine As rfl rfl (Ba rfl <| Al rfl <| Ac) (decide_eq_true hne) ?_
          refine Aa rfl (A6 (Ap rfl <| Al rfl <| Ac) (by first | (rw [Dy, hbit]; done) | (rw [Dy, hbit]; rfl)) Ab) ?_
          refine Aa rfl (A6 (Ba rfl <| Ap rfl <| Ac) (decide_eq_true hne) (Ac)) ?_
          refine Ah <| Ad <| Ar (Ac) rfl ?_
          refine Ai fun ds => Aa rfl (Ag (Bb rfl <| Ap rfl <| Au rfl ht10)) ?_
          refine Aa rfl (Ag (Bb rfl <| Ap rfl <| Al rfl <| Ao rfl <| Bt rfl <| Ay rfl <| Ap rfl <| Ao rfl <| Bb rfl <| Ay rfl <| Ak rfl)) ?_
          refine Aa rfl (Ag (Bb rfl <| Ay rfl <| Ao rfl <| Bt rfl <| Ac)) ?_
          refine Aa rfl (Ag (Bb rfl <| Ap rfl <| Ac)) ?_
          refine Aa rfl (Bu (Ap rfl <| Ac)) ?_
          refine Aa rfl (Aj E3 (Ac)) ?_
          refine Aa rfl (Bw (k := k) Eo (Ac) (Ap rfl <| Al rfl <| Ac) rfl (by omega)) ?_
          refine Aa rfl (Bw (k := c) Ep (Ac) (Ap rfl <| Al rfl <| Ac) rfl (by omega)) ?_
          refine Aa rfl (Aq Bd (Ac) (hX.most_cell (by omega : k < 6) (by omega : c < 6)).cell) ?_
          refine Aa rfl (q_max2 (Ba rfl <| Ac) (Ac)) ?_
          refine Aa rfl (Ae (Ac)) ?_
          refine Ah <| Bh <| Ad <| Ai fun ds => Aa rfl (B3 (Bb rfl <| Ba rfl <| Ay rfl <| Al rfl <| Au rfl ht67) Ab rfl (by omega) (by omega)) ?_
          refine Aa rfl (Ag (Ac)) ?_
          refine Ah <| Ad ⟨_, m2 - 1, Off.eq (C5 rfl <| Ei rfl <| ou4 rfl <| Et rfl <| Eu rfl <| Bj), by omega, ?_⟩
          exact ⟨c + 1, by omega, (Ac), by rw [othersTo_succ, if_pos (show otherOk set o (strongP s k set.testBit) c from ⟨hne, .inl hbit⟩)]; exact (Ap rfl <| Ac), rfl⟩
        ·
         refine Ax <| Ad <| Af <| A4 <| Af <| Ai fun ds => Aa rfl (Ag (Al rfl <| Au rfl ht67)) ?_
         refine Aa rfl (Ae (Ac)) ?_
         refine Ah <| Ad <| Af <| Ai fun ds => Aa rfl (Ag (Ac)) ?_
         refine Aa rfl (Ag (Ay rfl <| Ao rfl <| Bb rfl <| Ba rfl <| Ay rfl <| Ac)) ?_
         refine Aa rfl (B5 (Al rfl <| Ac) (Ac)) ?_
         refine Aa rfl (Ag (Ac)) ?_
         refine At rfl rfl (Ac) (.inl (congrArg Value.bool (decide_eq_false hne))) rfl ?_
         refine At rfl rfl (Al rfl <| Ac) (.inl (congrArg Value.bool (decide_eq_false hne))) rfl ?_
         refine At rfl rfl (Ap rfl <| Ac) (.inl (congrArg Value.bool (decide_eq_false hne))) rfl ?_
         refine At rfl rfl (Ap rfl <| Al rfl <| Ac) (.inl (congrArg Value.bool (decide_eq_false hne))) rfl ?_
         refine At rfl rfl (Ay rfl <| Ac) (.inl (congrArg Value.bool (decide_eq_false hne))) rfl ?_
         refine At rfl rfl (Ay rfl <| Al rfl <| Ac) (.inl (congrArg Value.bool (decide_eq_false hne))) rfl ?_
         refine At rfl rfl (Ac) (.inr rfl) rfl ?_
         refine At rfl rfl (Al rfl <| Ac) (.inr rfl) rfl ?_
         refine At rfl rfl (Ap rfl <| Ac) (.inr rfl) rfl ?_
         refine At rfl rfl (Ba rfl <| Al rfl <| Ac) (.inl (congrArg Value.bool (decide_eq_false hne))) rfl ?_
         refine Aa rfl (A8 (Ba rfl <| Ap rfl <| Ac) (decide_eq_false hne) Ab) ?_
         refine Ah <| Ad <| Am (Ac) rfl ?_
         refine Ax <| Bh <| Ad <| Ai fun ds => Aa rfl (B3 (Bb rfl <| Ap rfl <| Au rfl ht67) Ab rfl (by omega) (by omega)) ?_
         refine Aa rfl (Ag (Ac)) ?_
         refine Ah <| Ad ⟨_, m2 - 1, Off.eq (C5 rfl <| ou4 rfl <| Bj), by omega, ?_⟩
         exact ⟨c + 1, by omega, (Ac), by rw [othersTo_succ, if_neg (show ¬ otherOk set o (strongP s k set.testBit) c from fun h => hne h.1)]; exact (Bb rfl <| Ay rfl <| Au rfl ht10), rfl⟩
       ·
        refine Af <| Ai fun ds => Aa rfl (B0 (Au rfl ht67) (Ao rfl <| Al rfl <| Ac)) ?_
        refine Ah <| Ad <| Af <| Am (Ac) (by first | rfl | exact decide_eq_false (by omega)) ?_
        obtain rfl : c = s.bidders.length := by omega
        have hob := othersTo_bound hv (l := k) (set := set) (one := (o : Int)) (member := (strongP s k set.testBit)) (k := s.bidders.length)
        have hmb := most_bound hv (l := k) (b := o) (Nat.le_refl _)
        refine Bx ?_
        refine Bk <| Bk <| Bn <| Ad <| Er (.inl rfl) (fun _ _ h => h) (.cons_cons _ <| .cons_cons _ <| List.nil_sublist _) [] (by kernel_rfl) fun ds => ?_
        refine Bi 0 rfl (by kernel_rfl) (by kernel_rfl) (by kernel_rfl) (by kernel_rfl) rfl rfl (fun _ h => h.drop (.cons_cons _ <| .cons_cons _ <| List.nil_sublist _)) (fun _ _ _ h => h) (Ag (Al rfl <| Ao rfl <| Bt rfl <| Ay rfl <| Ap rfl <| Au rfl hs5)) ?_
        refine Bi 1 rfl (by kernel_rfl) (by kernel_rfl) (by kernel_rfl) (by kernel_rfl) rfl rfl (fun _ h => h.drop (.cons_cons _ <| .cons_cons _ <| List.nil_sublist _)) (fun _ _ _ h => h) (Ag (Ap rfl <| Ao rfl <| Bb rfl <| Ba rfl <| Ay rfl <| Ac)) ?_
        refine Bi 2 rfl (by kernel_rfl) (by kernel_rfl) (by kernel_rfl) (by kernel_rfl) rfl rfl (fun _ h => h.drop (.cons_cons _ <| .cons_cons _ <| List.nil_sublist _)) (fun _ _ _ h => h) (Ag (Ap rfl <| Al rfl <| Ao rfl <| Bt rfl <| Ay rfl <| Ap rfl <| Ao rfl <| Bb rfl <| Ay rfl <| Ak rfl)) ?_
        refine Bi 3 rfl (by kernel_rfl) (by kernel_rfl) (by kernel_rfl) (by kernel_rfl) rfl rfl (fun _ h => h.drop (.cons_cons _ <| .cons_cons _ <| List.nil_sublist _)) (fun _ _ _ h => h) (Aj fd_69_2 (Ay rfl <| Ao rfl <| Bt rfl <| Al rfl <| Ac)) ?_
        refine Bi 4 rfl (by kernel_rfl) (by kernel_rfl) (by kernel_rfl) (by kernel_rfl) rfl rfl (fun _ h => h.drop (.cons_cons _ <| .cons_cons _ <| List.nil_sublist _)) (fun _ _ _ h => h) (Aq Bd (Ac) (Cell.own 0 rfl rfl)) ?_
        refine Bi 5 rfl (by kernel_rfl) (by kernel_rfl) (by kernel_rfl) (by kernel_rfl) rfl rfl (fun _ h => h.drop (.cons_cons _ <| .cons_cons _ <| List.nil_sublist _)) (fun _ _ _ h => h) (Ag (Ay rfl <| Ap rfl <| Au rfl ht10)) ?_
        refine Bi 6 rfl (by kernel_rfl) (by kernel_rfl) (by kernel_rfl) (by kernel_rfl) rfl rfl (fun _ h => h.drop (.cons_cons _ <| .cons_cons _ <| List.nil_sublist _)) (fun _ _ _ h => h) (Ag (Ay rfl <| Ap rfl <| Al rfl <| Ao rfl <| Bt rfl <| Ay rfl <| Ap rfl <| Ao rfl <| Bb rfl <| Ay rfl <| Ak rfl)) ?_
        refine Bi 7 rfl (by kernel_rfl) (by kernel_rfl) (by kernel_rfl) (by kernel_rfl) rfl rfl (fun _ h => h.drop (.cons_cons _ <| .cons_cons _ <| List.nil_sublist _)) (fun _ _ _ h => h) (Ag (Ba rfl <| Ao rfl <| Bt rfl <| Ac)) ?_
        refine Bi 8 rfl (by kernel_rfl) (by kernel_rfl) (by kernel_rfl) (by kernel_rfl) rfl rfl (fun _ h => h.drop (.cons_cons _ <| .cons_cons _ <| List.nil_sublist _)) (fun _ _ _ h => h) (Ag (Ba rfl <| Al rfl <| Ao rfl <| Bb rfl <| Ba rfl <| Ay rfl <| Ac)) ?_
        refine Bi 9 rfl (by kernel_rfl) (by kernel_rfl) (by kernel_rfl) (by kernel_rfl) rfl rfl (fun _ h => h.drop (.cons_cons _ <| .cons_cons _ <| List.nil_sublist _)) (fun _ _ _ h => h) (Bu (Ap rfl <| Ac)) ?_
        refine Bi 10 rfl (by kernel_rfl) (by kernel_rfl) (by kernel_rfl) (by kernel_rfl) rfl rfl (fun _ h => h.drop (.cons_cons _ <| .cons_cons _ <| List.nil_sublist _)) (fun _ _ _ h => h) (Aj E3 (Ac)) ?_
        refine Bi 11 rfl (by kernel_rfl) (by kernel_rfl) (by kernel_rfl) (by kernel_rfl) rfl rfl (fun _ h => h.drop (.cons_cons _ <| .cons_cons _ <| List.nil_sublist _)) (fun _ _ _ h => h) (Bw (k := k) Eo (Ac) (Ap rfl <| Al rfl <| Ac) rfl (by omega)) ?_
        refine Bi 12 rfl (by kernel_rfl) (by kernel_rfl) (by kernel_rfl) (by kernel_rfl) rfl rfl (fun _ h => h.drop (.cons_cons _ <| .cons_cons _ <| List.nil_sublist _)) (fun _ _ _ h => h) (Bw (k := o) Ep (Ac) (Ap rfl <| Al rfl <| Ac) rfl (by omega)) ?_
        refine Bi 13 rfl (by kernel_rfl) (by kernel_rfl) (by kernel_rfl) (by kernel_rfl) rfl rfl (fun _ h => h.drop (.cons_cons _ <| .cons_cons _ <| List.nil_sublist _)) (fun _ _ _ h => h) (Aq Bd (Ac) (hX.most_cell (by omega : k < 6) (by omega : o < 6)).cell) ?_
        refine Dd 14 rfl (by kernel_rfl) rfl (Bo (A9 bd_101 Az (.cons (Ba rfl <| Ap rfl <| Al rfl <| Ac) (.cons (Ba rfl <| Al rfl <| Ac) (.cons (Ba rfl <| Ac) (.cons (Ac) .nil)))) (price_ok hX hv (by rw [e1]; omega) (by rw [e1]; omega) hob.1 hob.2 hmb.1 hmb.2) (fun _ _ h => h)) ⟨fun _ _ => (fun _ h => h.drop (.cons_cons _ <| .cons_cons _ <| List.nil_sublist _)), ?_⟩)
        refine Bi 15 rfl (by kernel_rfl) (by kernel_rfl) (by kernel_rfl) (by kernel_rfl) rfl rfl (fun _ h => h.drop (.cons_cons _ <| .cons_cons _ <| List.nil_sublist _)) (fun _ _ _ h => h) (Db bt_63 (.cons (Ba rfl <| Ay rfl <| Al rfl <| Ac) rfl (.cons (Ac) rfl .nil)) (.cons rfl rfl (Nat.le_of_ble_eq_true rfl) (.cons (.here) .nil) (.cons rfl rfl (Nat.le_of_ble_eq_true rfl) (.cons (.next <| .here) .nil) .nil))) ?_
        refine Dd 16 rfl (by kernel_rfl) rfl (Dn (offs := [(0, 2)]) (zl := [.int .i64 0, .int .i64 0]) Cm zr_63 rfl (.cons (Ac) rfl .nil) (by intro i p h; rcases i with _ | i <;> simp at h <;> subst h <;> rfl) (.cons rfl rfl (Nat.le_of_ble_eq_true rfl) (.cons (.here) (.cons (.next <| .here) .nil)) .nil) (by decide) (by decide) fun b13 hb13 nb13 => ⟨fun _ _ => (fun _ h => h.drop (.cons _ <| .cons_cons _ <| .cons_cons _ <| List.nil_sublist _)), ?_⟩)
        refine Dd 17 rfl (by kernel_rfl) rfl (Dg Cm el_63 (Bb rfl <| Ac) ho (Ac) (Ea (s := 2) 0 rfl rfl (by simp [Value.oneCell'])) (by omega) (by omega) (.s <| .s <| .s <| .z) .last fun v14 R15 ho16 => ⟨fun _ _ => (fun _ h => h.drop (.cons _ <| .cons_cons _ <| .cons_cons _ <| List.nil_sublist _)), ?_⟩)
        have ho3 := ho16.snoc (x := sellP s set k) rfl (by rw [sellP_at hso hlow, ← e1]; rfl)
        refine Bi 18 rfl (by kernel_rfl) (by kernel_rfl) (by kernel_rfl) (by kernel_rfl) rfl rfl (fun _ h => h.drop (.cons _ <| .cons_cons _ <| .cons_cons _ <| List.nil_sublist _)) (fun _ _ _ h => h) (Ae (Ac)) ?_
        refine De (by kernel_rfl) ?_ _
        refine Bh <| Ad <| Ct (fun _ _ h => h.drop (.cons _ <| .cons _ <| .cons_cons _ <| .refl _)) ?_
        refine Ai fun ds => Aa rfl (B3 (Bb rfl <| Ay rfl <| Ao rfl <| Bt rfl <| Ay rfl <| Ap rfl <| Au rfl hs30) Ab rfl (by omega) (by omega)) ?_
        refine Aa rfl (Ag (Ac)) ?_
        refine Ah <| Ad ⟨_, m - 1, Off.eq (C5 rfl <| ou4 rfl <| Et rfl <| off_in rfl <| ou32 rfl <| ou4 rfl <| Et rfl <| Bj), by omega, ?_⟩
        refine ⟨k + 1, by omega, (Ac), _, _, (Ap rfl <| Ac), by rw [sellL_succ]; exact ho3, rfl⟩
   ·
    refine Af <| Ai fun ds => Aa rfl (B0 (Au rfl hs30) (Ao rfl <| Al rfl <| Ac)) ?_
    refine Ah <| Ad <| Af <| Am (Ac) (by first | rfl | exact decide_eq_false (by omega)) ?_
    obtain rfl : k = s.lots.length := by omega
    refine WC_freezeRM (σ := ⟨_, _⟩) (fun m hm => hm) ho (.s <| .z) .last fun F17 hF18 hz19 => ?_
    replace hX := hX.mono hF18
    replace hK := hK.mono hF18
    have hn2 := ho.sl (fun _ => rfl) hz19 (by have := sellL_length (s := s) (set := set) (k := s.lots.length); omega)
    refine Bx ?_
    refine Bk <| Bk <| Bn <| Ad <| Af <| Ai fun ds => Aa rfl (Ag (Al rfl <| Ao rfl <| Bb rfl <| Ay rfl <| Ak rfl)) ?_
    refine Aa rfl (Bu (Ac)) ?_
    refine Aa rfl (Aj fd_156_3 (Ac)) ?_
    refine Aa rfl (Aq one_152 (Ac) hX.known_cell.cell) ?_
    refine Aa rfl (Ag (Ay rfl <| Al rfl <| Ao rfl <| Bb rfl <| Ay rfl <| Ak rfl)) ?_
    refine Aa rfl (Ag (Ay rfl <| Ap rfl <| Au rfl hs5)) ?_
    refine Ck (x_updateN mapK (Ap rfl <| Ac) (Al rfl <| Ac) (Ac) (i := 0) rfl (isKn hset) hK.keys hno (.here) ?_)
    refine Ah <| Ad <| Af <| Ai fun ds => Aa rfl (Ag (Ay rfl <| Ap rfl <| Al rfl <| Au rfl hs5)) ?_
    refine Aa rfl (Ae (Ac)) ?_
    refine Ah <| Ad <| A5 <| post_retM rfl (.tmp (Ac) .nil) (.cons (.here) <| .nil) rfl ?_
    exact ⟨_, rfl, hK.snoc (isKn hset) hno hn2, hn2⟩
 ·
  refine Af <| Ai fun ds => Aa rfl (Ae Ab) ?_
  refine Ah <| Ad <| Af <| Ai fun ds => Aa rfl (Ag (Al rfl <| Ak rfl)) ?_
  refine Aa rfl (Bu (Ac)) ?_
  refine Aa rfl (Aj fd_156_3 (Ac)) ?_
  refine Aa rfl (Aq one_152 (Ac) hX.known_cell.cell) ?_
  refine Aa rfl (Ag (Ay rfl <| Al rfl <| Ak rfl)) ?_
  refine Aa rfl (q_lookup2S mapK (Al rfl <| Ac) (Ac) (i := 0) rfl (isKn hset) hK.keys hK.nodup hj) ?_
  refine Aa rfl (Ag (Ac)) ?_
  refine Aa rfl (A1 (Ac) rfl) ?_
  refine Aa rfl (A1 (Al rfl <| Ac) rfl) ?_
  refine Aa rfl (Ae (Al rfl <| Ac)) ?_
  refine Aa rfl (Ae (Al rfl <| Ac)) ?_
  refine Ah <| Ad <| Af <| Af <| Ai fun ds => Aa rfl (Ag (Ac)) ?_
  refine Ah <| Ad <| Ar (Ac) rfl ?_
  refine Af <| Ai fun ds => Aa rfl (Ag (Ap rfl <| Ac)) ?_
  refine Aa rfl (Ae (Ac)) ?_
  refine Ah <| Ad <| A5 <| A7 ?_
  refine post_retM rfl (.tmp (Ac) .nil) (.cons (.here) <| .nil) rfl ?_
  exact ⟨es, rfl, hK, hK.vals _ _ _ hj⟩
end Go.Proofs.Ytaikojfonleccaa
namespace Go.Proofs.Ytaikojfonleccaa
open Go.RowKit
theorem zr_77 : ZeroT Try.prog 77 (.agg #[.int .i64 0, .int .i64 0]) := C4 (by kernel_rfl)
theorem agg_77 : AggT Try.prog 77 2 := aggT_of (by kernel_rfl)
theorem Dk : FieldT Try.prog 63 0 0 := Ca (by kernel_rfl)
theorem fd_69_3 : FieldT Try.prog 69 3 3 := Ca (by kernel_rfl)
theorem fd_77_0 : FieldT Try.prog 77 0 0 := Ca (by kernel_rfl)
theorem fd_77_1 : FieldT Try.prog 77 1 1 := Ca (by kernel_rfl)
theorem one_4 : OneT Try.prog 4 := Dj (by kernel_rfl)
theorem sl_40 : SliceT Try.prog 40 77 2 := Ek (by kernel_rfl)
theorem sz_77 : SizeT Try.prog 77 2 := C8 (by kernel_rfl)
set_option maxRecDepth 100000 in
theorem part_ok {F : Heap} {p m : Int} (h0 : 0 ≤ p) (h1 : p ≤ 100000) (hm0 : 0 ≤ m) (hm : m ≤ 500) : Ok Try.prog 73 [.int .i64 p, .int .i64 m].toArray F fun r _ => r = .int .i64 (partP p m) := by
 refine Ok.intro Try.func73 rfl Try.ntmps73 rfl fun w0 => ?_
 have hm1 : 0 ≤ p * m := Int.mul_nonneg h0 hm0
 have hm2 : p * m ≤ 100000 * m := Int.mul_le_mul_of_nonneg_right h1 hm0
 refine Af <| Ai fun ds => Aa rfl (Ae Ab) ?_
 refine Ah <| Ad <| Af <| Ai fun ds => Aa rfl (Ag (Al rfl <| Ak rfl)) ?_
 refine Aa rfl (Ag (Ap rfl <| Ak rfl)) ?_
 refine Aa rfl (q_mul (Al rfl <| Ac) (Ac) rfl (by omega) (by omega)) ?_
 refine Aa rfl (B3 (Ac) Ab rfl (by omega) (by omega)) ?_
 refine Aa rfl (q_quo (Ac) Ab (by omega) (by omega) (by omega)) ?_
 refine Aa rfl (Ae (Ac)) ?_
 refine Ah <| Ad <| A5 <| Aw rfl (.tmp (Ac) .nil) ?_
 rfl
end Go.Proofs.Ytaikojfonleccaa
namespace Go.Proofs.Ytaikojfonleccaa
open Go.RowKit
theorem bd_69 : Body Try.prog 69 := Br (by kernel_rfl)
theorem bd_70 : Body Try.prog 70 := Br (by kernel_rfl)
theorem bd_73 : Body Try.prog 73 := Br (by kernel_rfl)
theorem fd_63_1 : FieldT Try.prog 63 1 1 := Ca (by kernel_rfl)
theorem stoodR : Try.prog.stoodInHeld 63 = false := by kernel_rfl
theorem guardR : Try.prog.eqGuardType Try.prog.depth 63 = false := by kernel_rfl
theorem oneR : OneT Try.prog 3 := Dj (by kernel_rfl)
theorem res_nobody {s : Sale} (hv : ValidS s) {l : Nat} (hl : l < s.lots.length) {ring : List Int} (h : (soldS s l ring).bidder = -1) : (soldS s l ring).price = 0 := by rw [(sold_nobody hv hl ring).1 h]
set_option maxRecDepth 100000 in
theorem account_ok {F : Heap} {vs vb vl vn vd : Value} {s : Sale} (hr : SaleR F vs vb vl vn vd s) {vr : Value} {ring : List Int} (hx : Ints F vr ring) {vq : Value} {rs : List Back} (hq : Sl F vq 2 Back.enc rs) : Ok Try.prog 23 [.agg #[vs, .int .i64 s.premium, .int .i64 s.fee, .int .i64 s.days, vb, vl, vn, vd], vr, vq].toArray F fun u F' => AccR F' u (accE s ring rs) := by
 refine Ok.intro Try.func23 rfl Try.ntmps23 rfl fun w0 => ?_
 have hL1 := hr.lots.plain.lt
 have hL2 := hr.bidders.plain.lt
 have hL3 := hr.sellers.plain.lt
 have hL4 := hq.plain.lt
 by_cases hok : enterErr s ring = 0
 ·
  have hv := Co (enterE_ok hok).1
  have hnl := hv.nl
  have hnb := hv.nb
  have hnse := hv.nse
  refine Af <| Ai fun ds => Bl rfl (Cc (Ak rfl) rfl fun b1 hb1 nb1 => ?_)
  refine Aa rfl (Ae Ab) ?_
  refine Aa rfl (Ae Ab) ?_
  refine Aa rfl (Ae Ab) ?_
  refine Aa rfl (Ae Ab) ?_
  refine Ah <| Ad <| Af <| Ai fun ds => Aa rfl (Bg Cd (Ay rfl <| Ac) rfl rfl (Bm 0 rfl)) ?_
  refine Aa rfl (Ag (Ay rfl <| Ap rfl <| Ak rfl)) ?_
  refine Bl rfl (x_callN bd_69 Az (.cons (Al rfl <| Ac) (.cons (Ac) .nil)) (enter_ok hr hx hok) fun v2 F3 R6 hr4 hF5 => ?_)
  replace hr := hr.mono hF5
  replace hq := hq.mono hF5
  obtain ⟨ba, kb, set, rfl, hX, hset, hsof, rfl⟩ := hr4
  refine Aa rfl (Ag (Ac)) ?_
  refine Aa rfl (A1 (Ac) rfl) ?_
  refine Aa rfl (A1 (Al rfl <| Ac) rfl) ?_
  refine Aa rfl (A1 (Ap rfl <| Ac) rfl) ?_
  refine Aa rfl (Ae (Ap rfl <| Ac)) ?_
  refine Aa rfl (Ae (Ap rfl <| Ac)) ?_
  refine Aa rfl (Ae (Ap rfl <| Ac)) ?_
  refine Ah <| Ad <| Af <| Af <| Ai fun ds => Aa rfl (Ag (Ac)) ?_
  refine Aa rfl (B5 (Ac) Ab) ?_
  refine Ah <| Ad <| Am (Ac) (by decide) ?_
  refine Ax <| Ad <| Af <| Ai fun ds => Aa rfl (Ag (Ay rfl <| Ac)) ?_
  refine Aa rfl (Ag (Ay rfl <| Ac)) ?_
  refine WL_order (.cons (.next <| .here) <| .cons (.here) <| .nil) ?_
  refine Bl rfl (x_callM bd_70 Az (.cons (Al rfl <| Ac) (.cons (Ac) .nil)) rfl (sell_ok hX hv KnownC.nil (set := set) hset) fun v11 F12 H15 hr13 hF14 => ?_)
  replace hr := hr.mono hF14
  replace hq := hq.mono hF14
  obtain ⟨es2, rfl, hK2, hal⟩ := hr13
  rw [sellL_eq hv (fun b _ => hsof b)] at hal
  refine Aa rfl (Ae (Ac)) ?_
  refine Ah <| Ad <| Af <| Ai fun ds => Aa rfl (Ae Ab) ?_
  refine Ah <| Ad <| Af <| Af <| Ai fun ds => Aa rfl (Ag (Bb rfl <| Ay rfl <| Ap rfl <| Ak rfl)) ?_
  refine Aa rfl (Bf sl_40 (Ac) hq.plain) ?_
  refine Aa rfl (Ag Ab) ?_
  refine Ah <| Ad <| A4 <| B4 [6, 7, 8, 9, 13, 15, 35, 36, 37, 38, 39, 40, 41, 42, 43, 44, 45, 46, 47, 48, 49, 50, 51, 52, 53, 54, 55, 56, 57, 58, 59, 60, 61, 62, 63, 64, 65, 66, 67, 68, 69, 70, 71, 72, 73, 74, 75, 76, 77, 78, 79, 80, 81, 82, 83, 84, 85] (fun m e σ => ∃ G, F12.le G ∧ ∃ k mask : Nat, m + k = rs.length ∧ e 35 = .int .i64 (k : Int) ∧ e 13 = .int .i64 (mask : Int) ∧ e 8 = .int .i64 0 ∧ mask < 64 ∧ (∀ t : Nat, mask.testBit t = backB (rs.take k) t) ∧ (∀ j, j < k → retErrAt s ring rs j = 0) ∧ σ = ⟨G, [(kb, mapO es2), (b1, bx 27 [vs, .int .i64 s.premium, .int .i64 s.fee, .int .i64 s.days, vb, vl, vn, vd])]⟩) (rs.length) ?_ ?_
  · exact ⟨_, Heap.le_refl _, 0, 0, by omega, (Ac), (Ap rfl <| Al rfl <| Ac), (Bb rfl <| Ay rfl <| Al rfl <| Ac), by omega, fun t => by simp [backB], fun j h => absurd h (by omega), rfl⟩
  ·
   rintro m e _ ⟨G, hFG, k, mask, hm9, hs35, hs13, hs8, hm64, hbits, hno, rfl⟩; replace hr := hr.mono hFG; replace hq := hq.mono hFG; replace hal := hal.mono hFG
   by_cases hlt : k < rs.length
   ·
    refine Af <| Ai fun ds => Aa rfl (B0 (Au rfl hs35) (Ao rfl <| Al rfl <| Ac)) ?_
    refine Ah <| Ad <| Af <| Ar (Ac) (by first | rfl | exact decide_eq_true (by omega)) ?_
    by_cases h1 : inB 0 (s.lots.length - 1) rs[k].lot = true
    ·
     obtain ⟨l, hl, hll⟩ := inB_nat h1
     obtain ⟨e1, -⟩ := lot_facts hv hll
     have hll2 : l < (allS s ring).length := by rw [D3]; exact hll
     have hl6 : l < 6 := by omega
     have hlp := pow_lt hl6
     have hln : rs[k].lot.toNat = l := by rw [hl]; rfl
     have hbe : (rs.take k).any (fun y => decide (y.lot = rs[k].lot)) = mask.testBit l := by rw [hbits, hl]; rfl
     refine Ax <| Ad <| Af <| A4 <| Af <| Ai fun ds => Aa rfl (Be  sl_40 (Al rfl <| Ao rfl <| Ap rfl <| Ac) hq.plain (Al rfl <| Au rfl hs35) rfl hlt) ?_
     refine Aa rfl (Bg agg_77 (Ac) rfl rfl (hq.whole hlt)) ?_
     refine Bl rfl (B6 zr_77 rfl fun b17 hb17 nb17 => ?_)
     refine Ck (B8 sz_77 (Ac) (Al rfl <| Ac) (i := 0) rfl rfl rfl rfl Back.enc_one (.here) ?_)
     refine Ah <| Ad <| Af <| A4 <| Af <| Ai fun ds => Aa rfl (Aj Cp (Ay rfl <| Ao rfl <| Bb rfl <| Ba rfl <| Ac)) ?_
     refine Aa rfl (Aq C0 (Ac) (Cell.own 2 rfl rfl)) ?_
     refine Aa rfl (Bf C1 (Ac) hr.lots.plain) ?_
     refine Aa rfl (Dh (Ac) Ab rfl (by omega) (by omega)) ?_
     refine Aa rfl (Aj fd_77_0 (Ay rfl <| Ac)) ?_
     refine Aa rfl (Aq Bd (Ac) (Cell.own 0 rfl rfl)) ?_
     refine Bl rfl (Bz Bs C3 rfl (.cons (Ac) .nil) rfl rfl (by decide) (by simp [Value.oneCell']) fun b18 hb18 nb18 => ?_)
     refine Bp (i := 0) rfl hb18 .here fun F19 hF20 hz21 => ?_
     replace hr := hr.mono hF20
     replace hal := hal.mono hF20
     replace hFG := Heap.le_trans hFG hF20
     have hsl22 := Ci hz21
     refine Bv rfl (A9 C6 Az (.cons Ab (.cons (Ap rfl <| Al rfl <| Ac) (.cons (Ac) .nil))) (B2 _ _ hsl22) (fun _ _ h => h)) ?_
     refine Aa rfl (Ae (Ac)) ?_
     refine Ah <| Ad <| Am (Ac) (by simp [h1]) ?_
     by_cases hany : (rs.take k).any (fun y => decide (y.lot = rs[k].lot)) = true
     ·
      refine Af <| Ai fun ds => Aa rfl (Ag (Ba rfl <| Ay rfl <| Al rfl <| Au rfl hs13)) ?_
      refine Aa rfl (Aj fd_77_0 (Ba rfl <| Ap rfl <| Ac)) ?_
      refine Aa rfl (Aq Bd (Ac) (Cell.own 0 rfl rfl)) ?_
      refine Aa rfl (q_shr (Ap rfl <| Ac) (Ac) (k := l) hl (by show l < 64; omega) shr_nat) ?_
      refine Aa rfl (q_and (Ac) Ab (m := mask / 2 ^ l) (k := 1) rfl rfl (by have := Nat.div_le_self mask (2 ^ l); omega) (by omega) rfl) ?_
      refine Aa rfl (B9 (Ac) Ab) ?_
      refine Aa rfl (Ae (Ac)) ?_
      refine Ah <| Ad <| Ar (Ac) (by rw [Dw, ← hbe]; exact hany) ?_
      refine Af <| Ai fun ds => Aa rfl (Ae Ab) ?_
      refine Aa rfl (Ae Ab) ?_
      refine Aa rfl (Ae Ab) ?_
      refine Aa rfl (Ae Ab) ?_
      refine Ah <| Ad <| A5 <| Bc (A7 (Bc (A7 (A7 (Bc (A7 ?_))))))
      refine Aw rfl (.tmp (Ap rfl <| Al rfl <| Ac) (.tmp (Ap rfl <| Ac) (.tmp (Al rfl <| Ac) (.tmp (Ac) .nil)))) ?_
      rw [accE_ret hok (retErr_bad hlt hno (show retErrAt s ring rs k = 5 by rw [Ez hlt]; simp [h1, hany]) (by decide)) (by decide)]
      exact ⟨_, _, rfl, Sl.nil, Sl.nil⟩
     ·
      replace hany : (rs.take k).any (fun y => decide (y.lot = rs[k].lot)) = false := by simpa using hany
      refine Af <| Ai fun ds => Aa rfl (Ag (Ba rfl <| Ay rfl <| Al rfl <| Au rfl hs13)) ?_
      refine Aa rfl (Aj fd_77_0 (Ba rfl <| Ap rfl <| Ac)) ?_
      refine Aa rfl (Aq Bd (Ac) (Cell.own 0 rfl rfl)) ?_
      refine Aa rfl (q_shr (Ap rfl <| Ac) (Ac) (k := l) hl (by show l < 64; omega) shr_nat) ?_
      refine Aa rfl (q_and (Ac) Ab (m := mask / 2 ^ l) (k := 1) rfl rfl (by have := Nat.div_le_self mask (2 ^ l); omega) (by omega) rfl) ?_
      refine Aa rfl (B9 (Ac) Ab) ?_
      refine Aa rfl (Ae (Ac)) ?_
      refine Ah <| Ad <| Am (Ac) (by rw [Dw, ← hbe]; exact hany) ?_
      by_cases h3 : inB 0 s.days rs[k].day = true
      ·
       refine Af <| Ai fun ds => Aa rfl (Aj fd_27_3 (Bb rfl <| Ay rfl <| Ao rfl <| Bb rfl <| Ba rfl <| Ac)) ?_
       refine Aa rfl (Aq Bd (Ac) (Cell.own 2 rfl rfl)) ?_
       refine Aa rfl (Aj fd_77_1 (Bb rfl <| Ap rfl <| Ac)) ?_
       refine Aa rfl (Aq Bd (Ac) (Cell.own 0 rfl rfl)) ?_
       refine Bl rfl (Bz Bs C3 rfl (.cons (Ac) .nil) rfl rfl (by decide) (by simp [Value.oneCell']) fun b23 hb23 nb23 => ?_)
       refine Bp (i := 0) rfl hb23 .here fun F24 hF25 hz26 => ?_
       replace hr := hr.mono hF25
       replace hal := hal.mono hF25
       replace hFG := Heap.le_trans hFG hF25
       have hsl27 := Ci hz26
       refine Bv rfl (A9 C6 Az (.cons Ab (.cons (Ap rfl <| Al rfl <| Ac) (.cons (Ac) .nil))) (B2 _ _ hsl27) (fun _ _ h => h)) ?_
       refine Aa rfl (Ae (Ac)) ?_
       refine Ah <| Ad <| Am (Ac) (by simp [h3]) ?_
       by_cases hd : (s.lot l).defect = true
       ·
        refine Af <| Ai fun ds => Aa rfl (Aj Cp (Bb rfl <| Ba rfl <| Ap rfl <| Al rfl <| Ao rfl <| Bb rfl <| Ba rfl <| Ac)) ?_
        refine Aa rfl (Aq C0 (Ac) (Cell.own 2 rfl rfl)) ?_
        refine Aa rfl (Aj fd_77_0 (Bb rfl <| Ba rfl <| Al rfl <| Ac)) ?_
        refine Aa rfl (Aq Bd (Ac) (Cell.own 0 rfl rfl)) ?_
        refine Aa rfl (Be (k := l) C1 (Ap rfl <| Ac) hr.lots.plain (Ac) hl hll) ?_
        refine Aa rfl (Bq fd_69_3 (Ac)) ?_
        refine Aa rfl (Aq one_4 (Ac) (hr.lots.cell hll rfl)) ?_
        refine Aa rfl (Cu (Ac)) ?_
        refine Aa rfl (Ag (Ac)) ?_
        refine As rfl rfl (Ac) (by first | (rw [e1, hd]; done) | (rw [e1, hd]; rfl)) ?_
        refine Aa rfl (Ag (Bt rfl <| Ay rfl <| Ao rfl <| Ay rfl <| Ac)) ?_
        refine As rfl rfl (Al rfl <| Ac) (by first | (rw [e1, hd]; done) | (rw [e1, hd]; rfl)) ?_
        refine Aa rfl (Aj fd_77_0 (Bt rfl <| Al rfl <| Ac)) ?_
        refine As rfl rfl (Ap rfl <| Ac) (by first | (rw [e1, hd]; done) | (rw [e1, hd]; rfl)) ?_
        refine Aa rfl (Aq Bd (Ac) (Cell.own 0 rfl rfl)) ?_
        refine As rfl rfl (Ap rfl <| Al rfl <| Ac) (by first | (rw [e1, hd]; done) | (rw [e1, hd]; rfl)) ?_
        refine Aa rfl (Be (k := l) Cm (Ap rfl <| Ac) hal.plain (Ac) hl hll2) ?_
        refine As rfl rfl (Ay rfl <| Ac) (by first | (rw [e1, hd]; done) | (rw [e1, hd]; rfl)) ?_
        refine Aa rfl (Bg D8 (Ac) rfl rfl (hal.whole hll2)) ?_
        refine As rfl rfl (Ay rfl <| Al rfl <| Ac) (by first | (rw [e1, hd]; done) | (rw [e1, hd]; rfl)) ?_
        refine Aa rfl (Db bt_63 (.cons Ab rfl .nil) (.cons rfl rfl (Nat.le_of_ble_eq_true rfl) (.cons (.here) .nil) .nil)) ?_
        refine As rfl rfl (Ay rfl <| Ap rfl <| Ac) (by first | (rw [e1, hd]; done) | (rw [e1, hd]; rfl)) ?_
        refine Aa rfl (q_eqlZ2 Try.underlying63 stoodR guardR (by decide) (by decide) rfl rfl Try.underlying3 Try.underlying3 oneR oneR (Al rfl <| Ac) (Ac)) ?_
        refine Aa rfl (A8 (Ay rfl <| Ap rfl <| Al rfl <| Ac) (by first | (rw [e1, hd]; done) | (rw [e1, hd]; rfl)) (Ac)) ?_
        refine Aa rfl (Ae (Ac)) ?_
        refine Ah <| Ad ?_
        by_cases hbid : (soldS s l ring).bidder = -1
        ·
         have hpr := res_nobody hv hll hbid
         refine Ar (Ac) (by rw [En]; simp [hbid, hpr]) ?_
         refine Af <| Ai fun ds => Aa rfl (Ae Ab) ?_
         refine Aa rfl (Ae Ab) ?_
         refine Aa rfl (Ae Ab) ?_
         refine Aa rfl (Ae Ab) ?_
         refine Ah <| Ad <| A5 <| Bc (A7 (Bc (A7 (A7 (Bc (A7 ?_))))))
         refine Aw rfl (.tmp (Ap rfl <| Al rfl <| Ac) (.tmp (Ap rfl <| Ac) (.tmp (Al rfl <| Ac) (.tmp (Ac) .nil)))) ?_
         rw [accE_ret hok (retErr_bad hlt hno (show retErrAt s ring rs k = 9 by rw [Ez hlt]; simp [h1, hany, h3, hln, hd, hbid]) (by decide)) (by decide)]
         exact ⟨_, _, rfl, Sl.nil, Sl.nil⟩
        ·
         refine Am (Ac) (by rw [En]; simp [hbid]) ?_
         refine Ax <| Bh <| Ad <| Ai fun ds => Aa rfl (Ag (Bt rfl <| Ba rfl <| Ay rfl <| Al rfl <| Au rfl hs13)) ?_
         refine Aa rfl (Aj fd_77_0 (Bt rfl <| Ba rfl <| Ap rfl <| Ac)) ?_
         refine Aa rfl (Aq Bd (Ac) (Cell.own 0 rfl rfl)) ?_
         refine Aa rfl (q_shl Ab (Ac) (k := l) hl (by omega) (show (1 : Int) * 2 ^ l = ((2 ^ l : Nat) : Int) by simp) (Int.le_trans (by decide) (Int.natCast_nonneg _)) (by omega)) ?_
         refine Aa rfl (q_or (Ap rfl <| Al rfl <| Ac) (Ac) (m := mask) (k := 2 ^ l) rfl rfl (by omega) (by omega) rfl) ?_
         refine Aa rfl (Ae (Ac)) ?_
         refine Ah <| Bh <| Ad <| Ct (fun _ _ h => h.drop (.cons _ <| .cons_cons _ <| .cons_cons _ <| .refl _)) ?_
         refine Ai fun ds => Aa rfl (B3 (Bt rfl <| Bb rfl <| Ap rfl <| Al rfl <| Au rfl hs35) Ab rfl (by omega) (by omega)) ?_
         refine Aa rfl (Ag (Ac)) ?_
         refine Ah <| Ad ⟨_, m - 1, Off.eq (ou32 rfl <| C5 rfl <| ou4 rfl <| Eu rfl <| Bj), by omega, ?_⟩
         refine ⟨_, hFG, k + 1, mask ||| 2 ^ l, by omega, (Ac), (Ap rfl <| Ac), (Bt rfl <| Bb rfl <| Ay rfl <| Al rfl <| Au rfl hs8), mask_lt hm64 (by omega), mask_back hlt hl hbits, fun j hjk => ?_, rfl⟩
         rcases Nat.lt_succ_iff_lt_or_eq.1 hjk with hjk | rfl
         · exact hno j hjk
         · rw [Ez hlt]; simp [h1, hany, h3, hln, hd, hbid]
       ·
        replace hd : (s.lot l).defect = false := by simpa using hd
        refine Af <| Ai fun ds => Aa rfl (Aj Cp (Bb rfl <| Ba rfl <| Ap rfl <| Al rfl <| Ao rfl <| Bb rfl <| Ba rfl <| Ac)) ?_
        refine Aa rfl (Aq C0 (Ac) (Cell.own 2 rfl rfl)) ?_
        refine Aa rfl (Aj fd_77_0 (Bb rfl <| Ba rfl <| Al rfl <| Ac)) ?_
        refine Aa rfl (Aq Bd (Ac) (Cell.own 0 rfl rfl)) ?_
        refine Aa rfl (Be (k := l) C1 (Ap rfl <| Ac) hr.lots.plain (Ac) hl hll) ?_
        refine Aa rfl (Bq fd_69_3 (Ac)) ?_
        refine Aa rfl (Aq one_4 (Ac) (hr.lots.cell hll rfl)) ?_
        refine Aa rfl (Cu (Ac)) ?_
        refine Aa rfl (Ag (Ac)) ?_
        refine At rfl rfl (Ac) (.inl (congrArg Value.bool (by first | (rw [e1, hd]; done) | (rw [e1, hd]; rfl)))) rfl ?_
        refine At rfl rfl (Al rfl <| Ac) (.inl (congrArg Value.bool (by first | (rw [e1, hd]; done) | (rw [e1, hd]; rfl)))) rfl ?_
        refine At rfl rfl (Ap rfl <| Ac) (.inl (congrArg Value.bool (by first | (rw [e1, hd]; done) | (rw [e1, hd]; rfl)))) rfl ?_
        refine At rfl rfl (Ap rfl <| Al rfl <| Ac) (.inl (congrArg Value.bool (by first | (rw [e1, hd]; done) | (rw [e1, hd]; rfl)))) rfl ?_
        refine At rfl rfl (Ay rfl <| Ac) (.inl (congrArg Value.bool (by first | (rw [e1, hd]; done) | (rw [e1, hd]; rfl)))) rfl ?_
        refine At rfl rfl (Ay rfl <| Al rfl <| Ac) (.inl (congrArg Value.bool (by first | (rw [e1, hd]; done) | (rw [e1, hd]; rfl)))) rfl ?_
        refine At rfl rfl (Ay rfl <| Ap rfl <| Ac) (.inl (congrArg Value.bool (by first | (rw [e1, hd]; done) | (rw [e1, hd]; rfl)))) rfl ?_
        refine Aa rfl (A6 (Ay rfl <| Ap rfl <| Al rfl <| Ac) (by first | (rw [e1, hd]; done) | (rw [e1, hd]; rfl)) Ab) ?_
        refine Aa rfl (Ae (Ac)) ?_
        refine Ah <| Ad <| Ar (Ac) rfl ?_
        refine Af <| Ai fun ds => Aa rfl (Ae Ab) ?_
        refine Aa rfl (Ae Ab) ?_
        refine Aa rfl (Ae Ab) ?_
        refine Aa rfl (Ae Ab) ?_
        refine Ah <| Ad <| A5 <| Bc (A7 (Bc (A7 (A7 (Bc (A7 ?_))))))
        refine Aw rfl (.tmp (Ap rfl <| Al rfl <| Ac) (.tmp (Ap rfl <| Ac) (.tmp (Al rfl <| Ac) (.tmp (Ac) .nil)))) ?_
        rw [accE_ret hok (retErr_bad hlt hno (show retErrAt s ring rs k = 9 by rw [Ez hlt]; simp [h1, hany, h3, hln, hd]) (by decide)) (by decide)]
        exact ⟨_, _, rfl, Sl.nil, Sl.nil⟩
      ·
       replace h3 : inB 0 s.days rs[k].day = false := by simpa using h3
       refine Af <| Ai fun ds => Aa rfl (Aj fd_27_3 (Bb rfl <| Ay rfl <| Ao rfl <| Bb rfl <| Ba rfl <| Ac)) ?_
       refine Aa rfl (Aq Bd (Ac) (Cell.own 2 rfl rfl)) ?_
       refine Aa rfl (Aj fd_77_1 (Bb rfl <| Ap rfl <| Ac)) ?_
       refine Aa rfl (Aq Bd (Ac) (Cell.own 0 rfl rfl)) ?_
       refine Bl rfl (Bz Bs C3 rfl (.cons (Ac) .nil) rfl rfl (by decide) (by simp [Value.oneCell']) fun b28 hb28 nb28 => ?_)
       refine Bp (i := 0) rfl hb28 .here fun F29 hF30 hz31 => ?_
       have hsl32 := Ci hz31
       refine Bv rfl (A9 C6 Az (.cons Ab (.cons (Ap rfl <| Al rfl <| Ac) (.cons (Ac) .nil))) (B2 _ _ hsl32) (fun _ _ h => h)) ?_
       refine Aa rfl (Ae (Ac)) ?_
       refine Ah <| Ad <| Ar (Ac) (by simp [h3]) ?_
       refine Af <| Ai fun ds => Aa rfl (Ae Ab) ?_
       refine Aa rfl (Ae Ab) ?_
       refine Aa rfl (Ae Ab) ?_
       refine Aa rfl (Ae Ab) ?_
       refine Ah <| Ad <| A5 <| Bc (A7 (Bc (A7 (A7 (Bc (A7 ?_))))))
       refine Aw rfl (.tmp (Ap rfl <| Al rfl <| Ac) (.tmp (Ap rfl <| Ac) (.tmp (Al rfl <| Ac) (.tmp (Ac) .nil)))) ?_
       rw [accE_ret hok (retErr_bad hlt hno (show retErrAt s ring rs k = 7 by rw [Ez hlt]; simp [h1, hany, h3]) (by decide)) (by decide)]
       exact ⟨_, _, rfl, Sl.nil, Sl.nil⟩
    ·
     replace h1 : inB 0 (s.lots.length - 1) rs[k].lot = false := by simpa using h1
     refine Ax <| Ad <| Af <| A4 <| Af <| Ai fun ds => Aa rfl (Be  sl_40 (Al rfl <| Ao rfl <| Ap rfl <| Ac) hq.plain (Al rfl <| Au rfl hs35) rfl hlt) ?_
     refine Aa rfl (Bg agg_77 (Ac) rfl rfl (hq.whole hlt)) ?_
     refine Bl rfl (B6 zr_77 rfl fun b33 hb33 nb33 => ?_)
     refine Ck (B8 sz_77 (Ac) (Al rfl <| Ac) (i := 0) rfl rfl rfl rfl Back.enc_one (.here) ?_)
     refine Ah <| Ad <| Af <| A4 <| Af <| Ai fun ds => Aa rfl (Aj Cp (Ay rfl <| Ao rfl <| Bb rfl <| Ba rfl <| Ac)) ?_
     refine Aa rfl (Aq C0 (Ac) (Cell.own 2 rfl rfl)) ?_
     refine Aa rfl (Bf C1 (Ac) hr.lots.plain) ?_
     refine Aa rfl (Dh (Ac) Ab rfl (by omega) (by omega)) ?_
     refine Aa rfl (Aj fd_77_0 (Ay rfl <| Ac)) ?_
     refine Aa rfl (Aq Bd (Ac) (Cell.own 0 rfl rfl)) ?_
     refine Bl rfl (Bz Bs C3 rfl (.cons (Ac) .nil) rfl rfl (by decide) (by simp [Value.oneCell']) fun b34 hb34 nb34 => ?_)
     refine Bp (i := 0) rfl hb34 .here fun F35 hF36 hz37 => ?_
     have hsl38 := Ci hz37
     refine Bv rfl (A9 C6 Az (.cons Ab (.cons (Ap rfl <| Al rfl <| Ac) (.cons (Ac) .nil))) (B2 _ _ hsl38) (fun _ _ h => h)) ?_
     refine Aa rfl (Ae (Ac)) ?_
     refine Ah <| Ad <| Ar (Ac) (by simp [h1]) ?_
     refine Af <| Ai fun ds => Aa rfl (Ae Ab) ?_
     refine Aa rfl (Ae Ab) ?_
     refine Aa rfl (Ae Ab) ?_
     refine Aa rfl (Ae Ab) ?_
     refine Ah <| Ad <| A5 <| Bc (A7 (Bc (A7 (A7 (Bc (A7 ?_))))))
     refine Aw rfl (.tmp (Ap rfl <| Al rfl <| Ac) (.tmp (Ap rfl <| Ac) (.tmp (Al rfl <| Ac) (.tmp (Ac) .nil)))) ?_
     rw [accE_ret hok (retErr_bad hlt hno (show retErrAt s ring rs k = 4 by rw [Ez hlt]; simp [h1]) (by decide)) (by decide)]
     exact ⟨_, _, rfl, Sl.nil, Sl.nil⟩
   ·
    refine Af <| Ai fun ds => Aa rfl (B0 (Au rfl hs35) (Ao rfl <| Al rfl <| Ac)) ?_
    refine Ah <| Ad <| Af <| Am (Ac) (by first | rfl | exact decide_eq_false (by omega)) ?_
    have hret := retErr_ok (s := s) (ring := ring) (rs := rs) (fun j hj => hno j (by omega))
    replace hbits : ∀ t : Nat, mask.testBit t = backB rs t := by rw [List.take_of_length_le (by omega)] at hbits; exact hbits
    refine Bx ?_
    refine Bk <| Bk <| Bn <| Ad <| Af <| WC_cut [6, 7, 86, 87, 88, 89, 90, 91, 92, 93] (fun st σ => ∃ p6 p7, st 6 = .slice (some ⟨p6, 0, none⟩) s.bidders.length s.bidders.length ∧ st 7 = .slice (some ⟨p7, 0, none⟩) s.sellers.length s.sellers.length ∧ σ = ⟨G, [(p6, bx 3 (ivals (fun b => payTo s ring rs b 0) s.bidders.length)), (p7, bx 3 (ivals (fun b => getTo s ring rs b 0) s.sellers.length)), (kb, mapO es2), (b1, bx 27 [vs, .int .i64 s.premium, .int .i64 s.fee, .int .i64 s.days, vb, vl, vn, vd])]⟩) ?_ ?_
    ·
     refine Er (.inl rfl) (fun _ _ h => h) (.cons_cons _ <| .cons_cons _ <| .refl _) [] (by kernel_rfl) fun ds => ?_
     refine Bi 0 rfl (by kernel_rfl) (by kernel_rfl) (by kernel_rfl) (by kernel_rfl) rfl rfl (fun _ h => h.drop (.cons_cons _ <| .cons_cons _ <| .refl _)) (fun _ _ _ h => h) (Aj C7 (Al rfl <| Ao rfl <| Bb rfl <| Ba rfl <| Ac)) ?_
     refine Bi 1 rfl (by kernel_rfl) (by kernel_rfl) (by kernel_rfl) (by kernel_rfl) rfl rfl (fun _ h => h.drop (.cons_cons _ <| .cons_cons _ <| .refl _)) (fun _ _ _ h => h) (Aq Cx (Ac) (Cell.own 1 rfl rfl)) ?_
     refine Bi 2 rfl (by kernel_rfl) (by kernel_rfl) (by kernel_rfl) (by kernel_rfl) rfl rfl (fun _ h => h.drop (.cons_cons _ <| .cons_cons _ <| .refl _)) (fun _ _ _ h => h) (Bf Cr (Ac) hr.bidders.plain) ?_
     refine Bi 4 rfl (by kernel_rfl) (by kernel_rfl) (by kernel_rfl) (by kernel_rfl) rfl rfl (fun _ h => h.drop (.cons_cons _ <| .cons_cons _ <| .refl _)) (fun _ _ _ h => h) (Aj fd_27_5 (Ay rfl <| Ao rfl <| Bb rfl <| Ba rfl <| Ac)) ?_
     refine Bi 5 rfl (by kernel_rfl) (by kernel_rfl) (by kernel_rfl) (by kernel_rfl) rfl rfl (fun _ h => h.drop (.cons_cons _ <| .cons_cons _ <| .refl _)) (fun _ _ _ h => h) (Aq Cx (Ac) (Cell.own 1 rfl rfl)) ?_
     refine Bi 6 rfl (by kernel_rfl) (by kernel_rfl) (by kernel_rfl) (by kernel_rfl) rfl rfl (fun _ h => h.drop (.cons_cons _ <| .cons_cons _ <| .refl _)) (fun _ _ _ h => h) (Bf Cr (Ac) hr.sellers.plain) ?_
     refine WX_pick [3, 7] (by kernel_rfl) (by decide) (in2 ?_ ?_)
     ·
      refine D9 rfl rfl (x_make (k := s.bidders.length) Bs el_3 rfl rfl (Ap rfl <| Al rfl <| Ac) (Ap rfl <| Al rfl <| Ac) rfl (by omega) (by omega) fun b39 hb39 nb39 => ⟨fun _ _ => (fun _ h => h.drop (.cons _ <| .cons_cons _ <| .cons_cons _ <| .refl _)), ?_⟩)
      refine Bi 8 rfl (by kernel_rfl) (by kernel_rfl) (by kernel_rfl) (by kernel_rfl) rfl rfl (fun _ h => h.drop (.cons _ <| .cons_cons _ <| .cons_cons _ <| .refl _)) (fun _ _ _ h => h) (Ae (Ac)) ?_
      refine Dd 7 rfl (by kernel_rfl) rfl (x_make (k := s.sellers.length) Bs el_3 rfl rfl (Ap rfl <| Ac) (Ap rfl <| Ac) rfl (by omega) (by omega) fun b40 hb40 nb40 => ⟨fun _ _ => (fun _ h => h.drop (.cons _ <| .cons _ <| .cons_cons _ <| .cons_cons _ <| .refl _)), ?_⟩)
      refine Bi 9 rfl (by kernel_rfl) (by kernel_rfl) (by kernel_rfl) (by kernel_rfl) rfl rfl (fun _ h => h.drop (.cons _ <| .cons _ <| .cons_cons _ <| .cons_cons _ <| .refl _)) (fun _ _ _ h => h) (Ae (Ac)) ?_
      refine WX_order (.cons (.next <| .here) <| .cons (.here) <| .cons (.here) <| .cons (.here) <| .nil) ?_
      refine De (by kernel_rfl) ?_ _
      refine Ad ⟨_, Off.eq (Ei rfl <| Et rfl <| C9), ?_⟩
      exact ⟨_, _, (Ap rfl <| Ac), (Ac), (by first | (rw [Ef (f := fun b => payTo s ring rs b 0) (fun _ => rfl), Ef (f := fun b => getTo s ring rs b 0) (fun _ => rfl)]; done) | (rw [Ef (f := fun b => payTo s ring rs b 0) (fun _ => rfl), Ef (f := fun b => getTo s ring rs b 0) (fun _ => rfl)]; rfl))⟩
     ·
      refine D9 rfl rfl (x_make (k := s.sellers.length) Bs el_3 rfl rfl (Ac) (Ac) rfl (by omega) (by omega) fun b41 hb41 nb41 => ⟨fun _ _ => (fun _ h => h.drop (.cons _ <| .cons_cons _ <| .cons_cons _ <| .refl _)), ?_⟩)
      refine Dd 3 rfl (by kernel_rfl) rfl (x_make (k := s.bidders.length) Bs el_3 rfl rfl (Ay rfl <| Ac) (Ay rfl <| Ac) rfl (by omega) (by omega) fun b42 hb42 nb42 => ⟨fun _ _ => (fun _ h => h.drop (.cons _ <| .cons _ <| .cons_cons _ <| .cons_cons _ <| .refl _)), ?_⟩)
      refine Bi 8 rfl (by kernel_rfl) (by kernel_rfl) (by kernel_rfl) (by kernel_rfl) rfl rfl (fun _ h => h.drop (.cons _ <| .cons _ <| .cons_cons _ <| .cons_cons _ <| .refl _)) (fun _ _ _ h => h) (Ae (Ac)) ?_
      refine Bi 9 rfl (by kernel_rfl) (by kernel_rfl) (by kernel_rfl) (by kernel_rfl) rfl rfl (fun _ h => h.drop (.cons _ <| .cons _ <| .cons_cons _ <| .cons_cons _ <| .refl _)) (fun _ _ _ h => h) (Ae (Ap rfl <| Ac)) ?_
      refine WX_order (.cons (.here) <| .cons (.here) <| .cons (.here) <| .cons (.here) <| .nil) ?_
      refine De (by kernel_rfl) ?_ _
      refine Ad ⟨_, Off.eq (Ei rfl <| Et rfl <| C9), ?_⟩
      exact ⟨_, _, (Al rfl <| Ac), (Ac), (by first | (rw [Ef (f := fun b => payTo s ring rs b 0) (fun _ => rfl), Ef (f := fun b => getTo s ring rs b 0) (fun _ => rfl)]; done) | (rw [Ef (f := fun b => payTo s ring rs b 0) (fun _ => rfl), Ef (f := fun b => getTo s ring rs b 0) (fun _ => rfl)]; rfl))⟩
    rintro e9 _ ⟨p6, p7, hc6, hc7, rfl⟩
    refine Af <| Af <| Ai fun ds => Aa rfl (Ag (Ao rfl <| Al rfl <| Ao rfl <| Ay rfl <| Ac)) ?_
    refine Aa rfl (Bf Cm (Ac) hal.plain) ?_
    refine Aa rfl (Ag Ab) ?_
    refine Ah <| Ad <| A4 <| B4 [8, 16, 17, 18, 19, 96, 97, 98, 99, 100, 101, 102, 103, 104, 105, 106, 107, 108, 109, 110, 111, 112, 113, 114, 115, 116, 117, 118, 119, 120, 121, 122, 123, 124, 125, 126, 127, 128, 129, 130, 131, 132, 133, 134, 135, 136, 137, 138, 139, 140, 141, 142, 143, 144, 145, 146, 147, 148, 149, 150, 151, 152] (fun m e σ => ∃ k : Nat, m + k = (allS s ring).length ∧ e 96 = .int .i64 (k : Int) ∧ e 8 = .int .i64 (houseTo s ring rs k) ∧ e 6 = .slice (some ⟨p6, 0, none⟩) s.bidders.length s.bidders.length ∧ e 7 = .slice (some ⟨p7, 0, none⟩) s.sellers.length s.sellers.length ∧ σ = ⟨G, [(p6, bx 3 (ivals (fun b => payTo s ring rs b k) s.bidders.length)), (p7, bx 3 (ivals (fun b => getTo s ring rs b k) s.sellers.length)), (kb, mapO es2), (b1, bx 27 [vs, .int .i64 s.premium, .int .i64 s.fee, .int .i64 s.days, vb, vl, vn, vd])]⟩) ((allS s ring).length) ?_ ?_
    · exact ⟨0, by omega, (Ac), (Ap rfl <| Al rfl <| Ao rfl <| Al rfl <| Au rfl hs8), (Ap rfl <| Al rfl <| Au rfl hc6), (Ap rfl <| Al rfl <| Au rfl hc7), rfl⟩
    ·
     rintro m e _ ⟨k, hm9, hu96, hu8, hu6, hu7, rfl⟩
     by_cases hlt : k < (allS s ring).length
     ·
      refine Af <| Ai fun ds => Aa rfl (B0 (Au rfl hu96) (Ao rfl <| Al rfl <| Ac)) ?_
      refine Ah <| Ad <| Af <| Ar (Ac) (by first | rfl | exact decide_eq_true (by omega)) ?_
      have hkl : k < s.lots.length := by rw [← D3 (s := s) (ring := ring)]; exact hlt
      have hel : (allS s ring)[k] = soldS s k ring := En hlt
      have hf := part_facts hv ring hkl
      have hsb := sold_bound hv hkl ring
      have hab := fun b => acc_bound hv (ring := ring) (rs := rs) (b := b) k (by omega)
      obtain ⟨e1, e2, e3, e4, e5⟩ := lot_facts hv hkl
      rw [← hel] at hf hsb
      by_cases hne : (allS s ring)[k].bidder = -1
      ·
       refine Ax <| Ad <| Af <| A4 <| Af <| Ai fun ds => Aa rfl (Ag (Al rfl <| Au rfl hu96)) ?_
       refine Aa rfl (Be  Cm (Ap rfl <| Ao rfl <| Ap rfl <| Ac) hal.plain (Ap rfl <| Au rfl hu96) rfl hlt) ?_
       refine Aa rfl (Bg D8 (Ac) rfl rfl (hal.whole hlt)) ?_
       refine Bl rfl (B6 zr_63 rfl fun b44 hb44 nb44 => ?_)
       refine Aa rfl (Ae (Ap rfl <| Al rfl <| Ac)) ?_
       refine Ck (B8 sz_63 (Al rfl <| Ac) (Ap rfl <| Ac) (i := 0) rfl rfl rfl rfl Res.enc_one (.here) ?_)
       refine Ah <| Ad <| Af <| Af <| Ai fun ds => Aa rfl (Aj Dk (Al rfl <| Ac)) ?_
       refine Aa rfl (Aq Bd (Ac) (Cell.own 0 rfl rfl)) ?_
       refine Aa rfl (B9 (Ac) Ab) ?_
       refine Aa rfl (Ag (Ac)) ?_
       refine At rfl rfl (Ac) (.inl (congrArg Value.bool (decide_eq_true hne))) rfl ?_
       refine At rfl rfl (Al rfl <| Ac) (.inl (congrArg Value.bool (decide_eq_true hne))) rfl ?_
       refine At rfl rfl (Ap rfl <| Ac) (.inl (congrArg Value.bool (decide_eq_true hne))) rfl ?_
       refine At rfl rfl (Ap rfl <| Al rfl <| Ac) (.inl (congrArg Value.bool (decide_eq_true hne))) rfl ?_
       refine At rfl rfl (Ay rfl <| Ac) (.inl (congrArg Value.bool (decide_eq_true hne))) rfl ?_
       refine Aa rfl (A6 (Ay rfl <| Al rfl <| Ac) (decide_eq_true hne) Ab) ?_
       refine Ah <| Ad <| Ar (Ac) rfl ?_
       have hdead : liveB s ring rs k = false := by unfold liveB; rw [← hel]; simp [hne]
       obtain ⟨d1, d2, d3⟩ := acc_dead hdead
       refine Bx ?_
       refine Bk (Bn ?_)
       refine Ad <| Ct (fun _ _ h => h.drop (.cons _ <| .cons_cons _ <| .cons_cons _ <| .cons_cons _ <| .cons_cons _ <| .refl _)) ?_
       refine Ai fun ds => Aa rfl (B3 (Bb rfl <| Au rfl hu96) Ab rfl (by omega) (by omega)) ?_
       refine Aa rfl (Ag (Ac)) ?_
       refine Ah <| Ad ⟨_, m - 1, Off.eq (C5 rfl <| Et rfl <| Bj), by omega, ?_⟩
       exact ⟨k + 1, by omega, (Ac), by rw [d3]; exact (Bb rfl <| Ap rfl <| Au rfl hu8), (Bb rfl <| Ap rfl <| Ao rfl <| Ap rfl <| Al rfl <| Au rfl hc6), (Bb rfl <| Ap rfl <| Ao rfl <| Ap rfl <| Al rfl <| Au rfl hc7), by rw [d1, d2]⟩
      ·
       refine Ax <| Ad <| Af <| A4 <| Af <| Ai fun ds => Aa rfl (Ag (Al rfl <| Au rfl hu96)) ?_
       refine Aa rfl (Be  Cm (Ap rfl <| Ao rfl <| Ap rfl <| Ac) hal.plain (Ap rfl <| Au rfl hu96) rfl hlt) ?_
       refine Aa rfl (Bg D8 (Ac) rfl rfl (hal.whole hlt)) ?_
       refine Bl rfl (B6 zr_63 rfl fun b45 hb45 nb45 => ?_)
       refine Aa rfl (Ae (Ap rfl <| Al rfl <| Ac)) ?_
       refine Ck (B8 sz_63 (Al rfl <| Ac) (Ap rfl <| Ac) (i := 0) rfl rfl rfl rfl Res.enc_one (.here) ?_)
       refine Ah <| Ad <| Af <| Af <| Ai fun ds => Aa rfl (Aj Dk (Al rfl <| Ac)) ?_
       refine Aa rfl (Aq Bd (Ac) (Cell.own 0 rfl rfl)) ?_
       refine Aa rfl (B9 (Ac) Ab) ?_
       refine Aa rfl (Ag (Ac)) ?_
       refine As rfl rfl (Ac) (decide_eq_false hne) ?_
       refine Aa rfl (Ag (Ba rfl <| Ap rfl <| Ao rfl <| Ap rfl <| Al rfl <| Ao rfl <| Al rfl <| Au rfl hs13)) ?_
       refine As rfl rfl (Al rfl <| Ac) (decide_eq_false hne) ?_
       refine Aa rfl (Ag (Ay rfl <| Al rfl <| Ac)) ?_
       refine As rfl rfl (Ap rfl <| Ac) (decide_eq_false hne) ?_
       refine Aa rfl (q_shr (Al rfl <| Ac) (Ac) rfl (by show k < 64; omega) shr_nat) ?_
       refine As rfl rfl (Ap rfl <| Al rfl <| Ac) (decide_eq_false hne) ?_
       refine Aa rfl (q_and (Ac) Ab (m := mask / 2 ^ k) (k := 1) rfl rfl (by have := Nat.div_le_self mask (2 ^ k); omega) (by omega) rfl) ?_
       refine As rfl rfl (Ay rfl <| Ac) (decide_eq_false hne) ?_
       refine Aa rfl (B9 (Ac) Ab) ?_
       refine Aa rfl (A8 (Ay rfl <| Al rfl <| Ac) (decide_eq_false hne) (Ac)) ?_
       refine Ah <| Ad ?_
       by_cases hbk : backB rs k = true
       ·
        refine Ar (Ac) (by rw [Dw, hbits]; exact hbk) ?_
        have hdead : liveB s ring rs k = false := by unfold liveB; rw [← hel]; simp [hbk]
        obtain ⟨d1, d2, d3⟩ := acc_dead hdead
        refine Bx ?_
        refine Bk (Bn ?_)
        refine Ad <| Ct (fun _ _ h => h.drop (.cons _ <| .cons_cons _ <| .cons_cons _ <| .cons_cons _ <| .cons_cons _ <| .refl _)) ?_
        refine Ai fun ds => Aa rfl (B3 (Bb rfl <| Au rfl hu96) Ab rfl (by omega) (by omega)) ?_
        refine Aa rfl (Ag (Ac)) ?_
        refine Ah <| Ad ⟨_, m - 1, Off.eq (C5 rfl <| Et rfl <| Bj), by omega, ?_⟩
        exact ⟨k + 1, by omega, (Ac), by rw [d3]; exact (Bb rfl <| Ap rfl <| Au rfl hu8), (Bb rfl <| Ap rfl <| Ao rfl <| Ap rfl <| Al rfl <| Au rfl hc6), (Bb rfl <| Ap rfl <| Ao rfl <| Ap rfl <| Al rfl <| Au rfl hc7), by rw [d1, d2]⟩
       ·
        replace hbk : backB rs k = false := by simpa using hbk
        refine Am (Ac) (by rw [Dw, hbits]; exact hbk) ?_
        obtain ⟨c, hc⟩ := Int.eq_ofNat_of_zero_le (show 0 ≤ (allS s ring)[k].bidder by omega)
        obtain ⟨d, hd⟩ := Int.eq_ofNat_of_zero_le e4
        have hcb : c < s.bidders.length := by omega
        have hds : d < s.sellers.length := by omega
        have habc := hab c
        have habd := hab d
        have hlive : liveB s ring rs k = true := by unfold liveB; rw [← hel]; simp [hne, hbk]
        refine Ax <| Ad <| Af <| Ch (.inl rfl) (fun _ _ h => h) (by kernel_rfl) (by kernel_rfl) fun ds => ?_
        refine A0 rfl (Aj fd_63_1 (Ba rfl <| Ap rfl <| Al rfl <| Ac)) ?_
        refine A0 rfl (Aq Bd (Ac) (Cell.own 0 rfl rfl)) ?_
        refine A0 rfl (Aj fd_27_1 (Bb rfl <| Ap rfl <| Ao rfl <| Ap rfl <| Al rfl <| Ao rfl <| Al rfl <| Ao rfl <| Bb rfl <| Ba rfl <| Ac)) ?_
        refine A0 rfl (Aq Bd (Ac) (Cell.own 4 rfl rfl)) ?_
        refine WQ_c rfl (A9 bd_73 Az (.cons (Ap rfl <| Ac) (.cons (Ac) .nil)) (part_ok (by omega) (by omega) hv.pre.1 hv.pre.2) (fun _ _ h => h)) ?_
        refine A0 rfl (Aj fd_63_1 (Bb rfl <| Ac)) ?_
        refine A0 rfl (Aq Bd (Ac) (Cell.own 0 rfl rfl)) ?_
        refine A0 rfl (Aj fd_27_2 (Bb rfl <| Ay rfl <| Ap rfl <| Al rfl <| Ao rfl <| Ap rfl <| Al rfl <| Ao rfl <| Al rfl <| Ao rfl <| Bb rfl <| Ba rfl <| Ac)) ?_
        refine A0 rfl (Aq Bd (Ac) (Cell.own 4 rfl rfl)) ?_
        refine WQ_c rfl (A9 bd_73 Az (.cons (Ap rfl <| Ac) (.cons (Ac) .nil)) (part_ok (by omega) (by omega) hv.fee.1 hv.fee.2) (fun _ _ h => h)) ?_
        refine A0 rfl (Ae (Ay rfl <| Al rfl <| Ac)) ?_
        refine A0 rfl (Ae (Al rfl <| Ac)) ?_
        refine Cj ?_
        refine Ad <| Af <| Er (.inl rfl) (fun _ _ h => h) (.cons_cons _ <| .cons_cons _ <| .cons_cons _ <| .cons_cons _ <| .cons_cons _ <| .refl _) [11] (by kernel_rfl) fun ds => ?_
        refine Bi 0 rfl (by kernel_rfl) (by kernel_rfl) (by kernel_rfl) (by kernel_rfl) rfl rfl (fun _ h => h.drop (.cons_cons _ <| .cons_cons _ <| .cons_cons _ <| .cons_cons _ <| .cons_cons _ <| .refl _)) (fun _ _ _ h => h) (Ag (Bb rfl <| Ba rfl <| Ay rfl <| Ao rfl <| Ap rfl <| Al rfl <| Au rfl hc6)) ?_
        refine Bi 1 rfl (by kernel_rfl) (by kernel_rfl) (by kernel_rfl) (by kernel_rfl) rfl rfl (fun _ h => h.drop (.cons_cons _ <| .cons_cons _ <| .cons_cons _ <| .cons_cons _ <| .cons_cons _ <| .refl _)) (fun _ _ _ h => h) (Aj Dk (Bb rfl <| Ba rfl <| Ac)) ?_
        refine Bi 2 rfl (by kernel_rfl) (by kernel_rfl) (by kernel_rfl) (by kernel_rfl) rfl rfl (fun _ h => h.drop (.cons_cons _ <| .cons_cons _ <| .cons_cons _ <| .cons_cons _ <| .cons_cons _ <| .refl _)) (fun _ _ _ h => h) (Aq Bd (Ac) (Cell.own 0 rfl rfl)) ?_
        refine Bi 3 rfl (by kernel_rfl) (by kernel_rfl) (by kernel_rfl) (by kernel_rfl) rfl rfl (fun _ h => h.drop (.cons_cons _ <| .cons_cons _ <| .cons_cons _ <| .cons_cons _ <| .cons_cons _ <| .refl _)) (fun _ _ _ h => h) (Be (k := c) Bs (Ap rfl <| Ac) (plain_row (Nat.le_refl _) (by omega)) (Ac) hc hcb) ?_
        refine Bi 4 rfl (by kernel_rfl) (by kernel_rfl) (by kernel_rfl) (by kernel_rfl) rfl rfl (fun _ h => h.drop (.cons_cons _ <| .cons_cons _ <| .cons_cons _ <| .cons_cons _ <| .cons_cons _ <| .refl _)) (fun _ _ _ h => h) (Aq Bd (Ac) (cell_row 1 rfl (ivals_get hcb))) ?_
        refine Bi 5 rfl (by kernel_rfl) (by kernel_rfl) (by kernel_rfl) (by kernel_rfl) rfl rfl (fun _ h => h.drop (.cons_cons _ <| .cons_cons _ <| .cons_cons _ <| .cons_cons _ <| .cons_cons _ <| .refl _)) (fun _ _ _ h => h) (Aj fd_63_1 (Bb rfl <| Ba rfl <| Ay rfl <| Ac)) ?_
        refine Bi 6 rfl (by kernel_rfl) (by kernel_rfl) (by kernel_rfl) (by kernel_rfl) rfl rfl (fun _ h => h.drop (.cons_cons _ <| .cons_cons _ <| .cons_cons _ <| .cons_cons _ <| .cons_cons _ <| .refl _)) (fun _ _ _ h => h) (Aq Bd (Ac) (Cell.own 0 rfl rfl)) ?_
        refine Bi 7 rfl (by kernel_rfl) (by kernel_rfl) (by kernel_rfl) (by kernel_rfl) rfl rfl (fun _ h => h.drop (.cons_cons _ <| .cons_cons _ <| .cons_cons _ <| .cons_cons _ <| .cons_cons _ <| .refl _)) (fun _ _ _ h => h) (Ag (Ba rfl <| Ac)) ?_
        refine Bi 8 rfl (by kernel_rfl) (by kernel_rfl) (by kernel_rfl) (by kernel_rfl) rfl rfl (fun _ h => h.drop (.cons_cons _ <| .cons_cons _ <| .cons_cons _ <| .cons_cons _ <| .cons_cons _ <| .refl _)) (fun _ _ _ h => h) (B3 (Al rfl <| Ac) (Ac) rfl (by omega) (by omega)) ?_
        refine Bi 9 rfl (by kernel_rfl) (by kernel_rfl) (by kernel_rfl) (by kernel_rfl) rfl rfl (fun _ h => h.drop (.cons_cons _ <| .cons_cons _ <| .cons_cons _ <| .cons_cons _ <| .cons_cons _ <| .refl _)) (fun _ _ _ h => h) (B3 (Ay rfl <| Ac) (Ac) rfl (by omega) (by omega)) ?_
        refine Bi 10 rfl (by kernel_rfl) (by kernel_rfl) (by kernel_rfl) (by kernel_rfl) rfl rfl (fun _ h => h.drop (.cons_cons _ <| .cons_cons _ <| .cons_cons _ <| .cons_cons _ <| .cons_cons _ <| .refl _)) (fun _ _ _ h => h) (Be (k := c) Bs (Ba rfl <| Al rfl <| Ac) (plain_row (Nat.le_refl _) (by omega)) (Ay rfl <| Ap rfl <| Al rfl <| Ac) hc hcb) ?_
        refine WX_x0 11 rfl (by kernel_rfl) (x_storeK sz_3 (Ac) (by simp [base, addc] : addc (base (.slice (some ⟨p6, 0, none⟩) s.bidders.length s.bidders.length)) (c * 1) = ⟨p6, c, none⟩) (Al rfl <| Ac) (i := 1) rfl (by rw [ivals_length]; omega) rfl (.next <| .here) ⟨(fun h => nomatch h), ?_⟩)
        refine De (by kernel_rfl) ?_ _
        refine Ad <| Af <| Er (.inl rfl) (fun _ _ h => h) (.cons_cons _ <| .cons_cons _ <| .cons_cons _ <| .cons_cons _ <| .cons_cons _ <| .refl _) [15] (by kernel_rfl) fun ds => ?_
        refine Bi 0 rfl (by kernel_rfl) (by kernel_rfl) (by kernel_rfl) (by kernel_rfl) rfl rfl (fun _ h => h.drop (.cons_cons _ <| .cons_cons _ <| .cons_cons _ <| .cons_cons _ <| .cons_cons _ <| .refl _)) (fun _ _ _ h => h) (Ag (Bt rfl <| Ay rfl <| Ap rfl <| Al rfl <| Ao rfl <| Ap rfl <| Al rfl <| Au rfl hc7)) ?_
        refine Bi 1 rfl (by kernel_rfl) (by kernel_rfl) (by kernel_rfl) (by kernel_rfl) rfl rfl (fun _ h => h.drop (.cons_cons _ <| .cons_cons _ <| .cons_cons _ <| .cons_cons _ <| .cons_cons _ <| .refl _)) (fun _ _ _ h => h) (Aj Cp (Bt rfl <| Ba rfl <| Ao rfl <| Ap rfl <| Al rfl <| Ao rfl <| Al rfl <| Ao rfl <| Bb rfl <| Ba rfl <| Ac)) ?_
        refine Bi 2 rfl (by kernel_rfl) (by kernel_rfl) (by kernel_rfl) (by kernel_rfl) rfl rfl (fun _ h => h.drop (.cons_cons _ <| .cons_cons _ <| .cons_cons _ <| .cons_cons _ <| .cons_cons _ <| .refl _)) (fun _ _ _ h => h) (Aq C0 (Ac) (Cell.own 4 rfl rfl)) ?_
        refine Bi 3 rfl (by kernel_rfl) (by kernel_rfl) (by kernel_rfl) (by kernel_rfl) rfl rfl (fun _ h => h.drop (.cons_cons _ <| .cons_cons _ <| .cons_cons _ <| .cons_cons _ <| .cons_cons _ <| .refl _)) (fun _ _ _ h => h) (Ag (Bt rfl <| Ay rfl <| Ac)) ?_
        refine Bi 4 rfl (by kernel_rfl) (by kernel_rfl) (by kernel_rfl) (by kernel_rfl) rfl rfl (fun _ h => h.drop (.cons_cons _ <| .cons_cons _ <| .cons_cons _ <| .cons_cons _ <| .cons_cons _ <| .refl _)) (fun _ _ _ h => h) (Be (k := k) C1 (Al rfl <| Ac) hr.lots.plain (Ac) rfl hkl) ?_
        refine Bi 5 rfl (by kernel_rfl) (by kernel_rfl) (by kernel_rfl) (by kernel_rfl) rfl rfl (fun _ h => h.drop (.cons_cons _ <| .cons_cons _ <| .cons_cons _ <| .cons_cons _ <| .cons_cons _ <| .refl _)) (fun _ _ _ h => h) (Bq fd_69_1 (Ac)) ?_
        refine Bi 6 rfl (by kernel_rfl) (by kernel_rfl) (by kernel_rfl) (by kernel_rfl) rfl rfl (fun _ h => h.drop (.cons_cons _ <| .cons_cons _ <| .cons_cons _ <| .cons_cons _ <| .cons_cons _ <| .refl _)) (fun _ _ _ h => h) (Aq Bd (Ac) (hr.lots.cell hkl rfl)) ?_
        refine Bi 7 rfl (by kernel_rfl) (by kernel_rfl) (by kernel_rfl) (by kernel_rfl) rfl rfl (fun _ h => h.drop (.cons_cons _ <| .cons_cons _ <| .cons_cons _ <| .cons_cons _ <| .cons_cons _ <| .refl _)) (fun _ _ _ h => h) (Be (k := d) Bs (Ay rfl <| Ap rfl <| Ac) (plain_row (Nat.le_refl _) (by omega)) (Ac) (by rw [e1]; exact hd) hds) ?_
        refine Bi 8 rfl (by kernel_rfl) (by kernel_rfl) (by kernel_rfl) (by kernel_rfl) rfl rfl (fun _ h => h.drop (.cons_cons _ <| .cons_cons _ <| .cons_cons _ <| .cons_cons _ <| .cons_cons _ <| .refl _)) (fun _ _ _ h => h) (Aq Bd (Ac) (cell_row 2 rfl (ivals_get hds))) ?_
        refine Bi 9 rfl (by kernel_rfl) (by kernel_rfl) (by kernel_rfl) (by kernel_rfl) rfl rfl (fun _ h => h.drop (.cons_cons _ <| .cons_cons _ <| .cons_cons _ <| .cons_cons _ <| .cons_cons _ <| .refl _)) (fun _ _ _ h => h) (Aj fd_63_1 (Bt rfl <| Ba rfl <| Ap rfl <| Al rfl <| Ac)) ?_
        refine Bi 10 rfl (by kernel_rfl) (by kernel_rfl) (by kernel_rfl) (by kernel_rfl) rfl rfl (fun _ h => h.drop (.cons_cons _ <| .cons_cons _ <| .cons_cons _ <| .cons_cons _ <| .cons_cons _ <| .refl _)) (fun _ _ _ h => h) (Aq Bd (Ac) (Cell.own 0 rfl rfl)) ?_
        refine Bi 11 rfl (by kernel_rfl) (by kernel_rfl) (by kernel_rfl) (by kernel_rfl) rfl rfl (fun _ h => h.drop (.cons_cons _ <| .cons_cons _ <| .cons_cons _ <| .cons_cons _ <| .cons_cons _ <| .refl _)) (fun _ _ _ h => h) (Ag (Bb rfl <| Ay rfl <| Ap rfl <| Ac)) ?_
        refine Bi 12 rfl (by kernel_rfl) (by kernel_rfl) (by kernel_rfl) (by kernel_rfl) rfl rfl (fun _ h => h.drop (.cons_cons _ <| .cons_cons _ <| .cons_cons _ <| .cons_cons _ <| .cons_cons _ <| .refl _)) (fun _ _ _ h => h) (Dh (Al rfl <| Ac) (Ac) rfl (by omega) (by omega)) ?_
        refine Bi 13 rfl (by kernel_rfl) (by kernel_rfl) (by kernel_rfl) (by kernel_rfl) rfl rfl (fun _ h => h.drop (.cons_cons _ <| .cons_cons _ <| .cons_cons _ <| .cons_cons _ <| .cons_cons _ <| .refl _)) (fun _ _ _ h => h) (B3 (Ay rfl <| Ac) (Ac) rfl (by omega) (by omega)) ?_
        refine Bi 14 rfl (by kernel_rfl) (by kernel_rfl) (by kernel_rfl) (by kernel_rfl) rfl rfl (fun _ h => h.drop (.cons_cons _ <| .cons_cons _ <| .cons_cons _ <| .cons_cons _ <| .cons_cons _ <| .refl _)) (fun _ _ _ h => h) (Be (k := d) Bs (Ba rfl <| Ay rfl <| Al rfl <| Ac) (plain_row (Nat.le_refl _) (by omega)) (Ay rfl <| Ap rfl <| Al rfl <| Ac) (by rw [e1]; exact hd) hds) ?_
        refine WX_x0 15 rfl (by kernel_rfl) (x_storeK sz_3 (Ac) (by simp [base, addc] : addc (base (.slice (some ⟨p7, 0, none⟩) s.sellers.length s.sellers.length)) (d * 1) = ⟨p7, d, none⟩) (Al rfl <| Ac) (i := 2) rfl (by rw [ivals_length]; omega) rfl (.next <| .next <| .here) ⟨(fun h => nomatch h), ?_⟩)
        refine De (by kernel_rfl) ?_ _
        refine Ad <| Ai fun ds => Aa rfl (Ag (Bt rfl <| Bb rfl <| Ay rfl <| Ap rfl <| Au rfl hu8)) ?_
        refine Aa rfl (Ag (Bb rfl <| Ba rfl <| Ay rfl <| Ac)) ?_
        refine Aa rfl (Ag (Bb rfl <| Ba rfl <| Ay rfl <| Ac)) ?_
        refine Aa rfl (B3 (Al rfl <| Ac) (Ac) rfl (by omega) (by omega)) ?_
        refine Aa rfl (B3 (Ap rfl <| Al rfl <| Ac) (Ac) rfl (by omega) (by omega)) ?_
        refine Aa rfl (Ae (Ac)) ?_
        refine Ah <| Bh <| Ad <| Ct (fun _ _ h => h.drop (.cons _ <| .cons_cons _ <| .cons_cons _ <| .cons_cons _ <| .cons_cons _ <| .refl _)) ?_
        refine Ai fun ds => Aa rfl (B3 (Bt rfl <| Bb rfl <| Ba rfl <| Ay rfl <| Au rfl hu96) Ab rfl (by omega) (by omega)) ?_
        refine Aa rfl (Ag (Ac)) ?_
        refine Ah <| Ad ⟨_, m - 1, Off.eq (ou32 rfl <| C5 rfl <| Ei rfl <| ou4 rfl <| Et rfl <| Bj), by omega, ?_⟩
        refine ⟨k + 1, by omega, (Ac), by rw [house_live hlive, ← hel]; exact (Ap rfl <| Ac), (Bt rfl <| Bb rfl <| Ba rfl <| Ay rfl <| Ap rfl <| Ao rfl <| Ap rfl <| Al rfl <| Au rfl hc6), (Bt rfl <| Bb rfl <| Ba rfl <| Ay rfl <| Ap rfl <| Ao rfl <| Ap rfl <| Al rfl <| Au rfl hc7), ?_⟩
        rw [← pay_set hlive (hel ▸ hc), ← get_set hlive hd, hel]
     ·
      refine Af <| Ai fun ds => Aa rfl (B0 (Au rfl hu96) (Ao rfl <| Al rfl <| Ac)) ?_
      refine Ah <| Ad <| Af <| Am (Ac) (by first | rfl | exact decide_eq_false (by omega)) ?_
      obtain rfl : k = (allS s ring).length := by omega
      refine Bx ?_
      refine Bk <| Bk <| Bn <| Ad <| Af <| WC_freeze0 (i := 0) rfl rfl (.here) fun F46 hF47 hz6 => ?_
      refine WC_freeze0 (i := 0) rfl rfl (.here) fun F48 hF49 hz7 => ?_
      replace hz6 := hF49 _ _ hz6
      refine Ai fun ds => Aa rfl (Ag (Al rfl <| Ao rfl <| Ap rfl <| Al rfl <| Au rfl hc6)) ?_
      refine Aa rfl (Ag (Ap rfl <| Ao rfl <| Ap rfl <| Al rfl <| Au rfl hc7)) ?_
      refine Aa rfl (Ag (Ap rfl <| Al rfl <| Au rfl hu8)) ?_
      refine Aa rfl (Ae (Ap rfl <| Ac)) ?_
      refine Aa rfl (Ae (Ap rfl <| Ac)) ?_
      refine Aa rfl (Ae (Ap rfl <| Ac)) ?_
      refine Aa rfl (Ae Ab) ?_
      refine Ah <| Ad <| A5 <| Aw rfl (.tmp (Ap rfl <| Al rfl <| Ac) (.tmp (Ap rfl <| Ac) (.tmp (Al rfl <| Ac) (.tmp (Ac) .nil)))) ?_
      rw [accE_ok hok hret]
      rw [D3] at hz6 hz7
      exact ⟨_, _, by rw [D3]; rfl, ivals_ints hz6 (by omega), ivals_ints hz7 (by omega)⟩
 ·
  refine Af <| Ai fun ds => Bl rfl (Cc (Ak rfl) rfl fun b50 hb50 nb50 => ?_)
  refine Aa rfl (Ae Ab) ?_
  refine Aa rfl (Ae Ab) ?_
  refine Aa rfl (Ae Ab) ?_
  refine Aa rfl (Ae Ab) ?_
  refine Ah <| Ad <| Af <| Ai fun ds => Aa rfl (Bg Cd (Ay rfl <| Ac) rfl rfl (Bm 0 rfl)) ?_
  refine Aa rfl (Ag (Ay rfl <| Ap rfl <| Ak rfl)) ?_
  refine Bv rfl (A9 bd_69 Az (.cons (Al rfl <| Ac) (.cons (Ac) .nil)) (enter_bad hr hx hok) (fun _ _ h => h)) ?_
  refine Aa rfl (Ag (Ac)) ?_
  refine Aa rfl (A1 (Ac) rfl) ?_
  refine Aa rfl (A1 (Al rfl <| Ac) rfl) ?_
  refine Aa rfl (A1 (Ap rfl <| Ac) rfl) ?_
  refine Aa rfl (Ae (Ap rfl <| Ac)) ?_
  refine Aa rfl (Ae (Ap rfl <| Ac)) ?_
  refine Aa rfl (Ae (Ap rfl <| Ac)) ?_
  refine Ah <| Ad <| Af <| Af <| Ai fun ds => Aa rfl (Ag (Ac)) ?_
  refine Aa rfl (B5 (Ac) Ab) ?_
  refine Ah <| Ad <| Ar (Ac) (decide_eq_true hok) ?_
  refine Af <| Ai fun ds => Aa rfl (Ag (Ap rfl <| Ac)) ?_
  refine Aa rfl (Ae Ab) ?_
  refine Aa rfl (Ae Ab) ?_
  refine Aa rfl (Ae Ab) ?_
  refine Aa rfl (Ae (Ap rfl <| Al rfl <| Ac)) ?_
  refine Ah <| Ad <| A5 <| A7 ?_
  refine Aw rfl (.tmp (Ap rfl <| Al rfl <| Ac) (.tmp (Ap rfl <| Ac) (.tmp (Al rfl <| Ac) (.tmp (Ac) .nil)))) ?_
  rw [accE_bad hok]
  exact ⟨_, _, rfl, Sl.nil, Sl.nil⟩
end Go.Proofs.Ytaikojfonleccaa
namespace Go.Proofs.Ytaikojfonleccaa
open Go.RowKit
def dstB (ops : Array Oper) (j : Nat) : Nat := match (ops[j]?).bind (·.dst) with | some d => d | none => 0
def depB (ops : Array Oper) (i j : Nat) : Bool := match ops[i]? with | some o => o.after.any fun x => Region.binds .any x && x.on == j | none => false
/-- All operations ahead of 'k' have places of their own, and wait for earlier ones only; what is behind them is at most one operation, that waits for all. -/
def factB (n : Nat) (ops : Array Oper) (k : Nat) : Bool :=
 (List.range k).all (fun i => match ops[i]? with
   | some o => (match o.dst with | some d => Nat.blt d n | none => false) && o.guard.isNone && o.after.all (fun x => !(Region.binds .any x) || Nat.blt x.on i) && (List.range i).all (fun j => !(Nat.beq (dstB ops j) (dstB ops i)))
   | none => false) &&
 (ops.size == k || (ops.size == k + 1 && (match ops[k]? with
   | some o => o.dst.isNone && o.guard.isNone && o.after.all (fun x => !(Region.binds .any x) || Nat.blt x.on k) && (List.range k).all (depB ops k)
   | none => false)))
def AllTo (H : Nat → Prop) : Nat → Prop
 | 0 => True
 | k + 1 => AllTo H k ∧ H k
theorem AllTo.get {H : Nat → Prop} : ∀ {k : Nat}, AllTo H k → ∀ i, i < k → H i
 | 0, _, i, h => absurd h (by omega)
 | k + 1, h, i, hi => by
   by_cases hk : i = k
   · subst hk; exact h.2
   · exact AllTo.get h.1 i (by omega)
section
variable {P : Program} {n : Nat} {B : Base} {e0 : Env} {σ : St}
/-- What operation 'i' does, told by facts. -/
def Hop (P : Program) (n : Nat) (B : Base) (ops : Array Oper) (k : Nat) (Φ : Nat → Heap → Value → Prop) (e0 : Env) (σ : St) (i : Nat) : Prop :=
 ∀ e F, σ.F.le F → (∀ t, (∀ j, j < k → t ≠ dstB ops j) → e t = e0 t) → (∀ j, depB ops i j = true → j < k → Φ j F (e (dstB ops j))) →
   ∃ d op ty pos af, ops[i]? = some ⟨some d, op, ty, pos, af, none⟩ ∧ OpX P n B ⟨some d, op, ty, pos, af, none⟩ e ⟨F, σ.H⟩ fun v σ' => ∃ F', σ' = ⟨F', σ.H⟩ ∧ F.le F' ∧ Φ i F' v
/-- What the operation behind all others does. -/
def Hend (P : Program) (n : Nat) (B : Base) (ops : Array Oper) (k : Nat) (Φ : Nat → Heap → Value → Prop) (e0 : Env) (σ : St) (Q : Exit → Env → St → Prop) : Prop :=
 ∀ e F, σ.F.le F → (∀ t, (∀ j, j < k → t ≠ dstB ops j) → e t = e0 t) → (∀ j, j < k → Φ j F (e (dstB ops j))) →
   (ops.size = k → Q .normal e ⟨F, σ.H⟩) ∧ (ops.size = k + 1 → ∃ op ty pos af, ops[k]? = some ⟨none, op, ty, pos, af, none⟩ ∧ OpX P n B ⟨none, op, ty, pos, af, none⟩ e ⟨F, σ.H⟩ fun _ σ' => Q .normal e σ')
/-- The same, by whether there is one. -/
def HendT (P : Program) (n : Nat) (B : Base) (ops : Array Oper) (k : Nat) (Φ : Nat → Heap → Value → Prop) (e0 : Env) (σ : St) (Q : Exit → Env → St → Prop) : Bool → Prop
 | false => ∀ e F, σ.F.le F → (∀ t, (∀ j, j < k → t ≠ dstB ops j) → e t = e0 t) → (∀ j, j < k → Φ j F (e (dstB ops j))) → Q .normal e ⟨F, σ.H⟩
 | true => ∀ e F, σ.F.le F → (∀ t, (∀ j, j < k → t ≠ dstB ops j) → e t = e0 t) → (∀ j, j < k → Φ j F (e (dstB ops j))) → ∃ op ty pos af, ops[k]? = some ⟨none, op, ty, pos, af, none⟩ ∧ OpX P n B ⟨none, op, ty, pos, af, none⟩ e ⟨F, σ.H⟩ fun _ σ' => Q .normal e σ'
theorem HendT.to {ops : Array Oper} {k : Nat} {Φ : Nat → Heap → Value → Prop} {Q : Exit → Env → St → Prop} {tail : Bool} (ht : Nat.beq ops.size (k + 1) = tail) (h : HendT P n B ops k Φ e0 σ Q tail) : Hend P n B ops k Φ e0 σ Q := by
 intro e F h1 h2 h3
 cases tail with
 | false => exact ⟨fun _ => h e F h1 h2 h3, fun hs => by rw [hs] at ht; simp at ht⟩
 | true => exact ⟨fun hs => by rw [hs] at ht; simp at ht, fun _ => h e F h1 h2 h3⟩
def freshB (ops : Array Oper) (k t : Nat) : Bool := (List.range k).all fun j => !(Nat.beq t (dstB ops j))
theorem B7 {ops : Array Oper} {k t : Nat} {e : Env} (he : ∀ t, (∀ j, j < k → t ≠ dstB ops j) → e t = e0 t) (h : freshB ops k t = true) : e t = e0 t :=
 he t fun j hj hh => by
   have := List.all_eq_true.1 h j (by simpa using hj)
   rw [← hh] at this
   simp at this
theorem Cv {e : Env} {t : Nat} {v : Value} (h : e t = v) : ev e (.tmp t) = v := h
theorem B1 {e e0 : Env} {t : Nat} {v : Value} (h0 : e t = e0 t) (h : ev e0 (.tmp t) = v) : ev e (.tmp t) = v := h0.trans h
/-- A new block that is written no more. -/
theorem OpX_freeze {o : Oper} {e : Env} {K : Value → St → Prop} (h : OpX P n B o e σ fun v σ' => ∃ b ob, B.w0.heap.size ≤ b ∧ σ' = ⟨σ.F, (b, ob) :: σ.H⟩ ∧ ∀ F', σ.F.le F' → F' b = some ob → K v ⟨F', σ.H⟩) : OpX P n B o e σ K := by
 intro a w ha hw next Qx hnext
 refine h a w ha hw next Qx fun v σ' w' hK hw' => ?_
 obtain ⟨b, ob, hb, rfl, hK⟩ := hK
 have hn := (hw'.own (b, ob) (by simp)).2.1
 have hfz := hw'.freeze (i := 0) rfl hb
 exact hnext v _ w' (hK _ (grown_le hn) Ew) hfz
theorem Du {α : Type} {F : Heap} {b T s m : Nat} {l : List Value} {enc : α → List Value} {xs : List α} (h : F b = some (bx T l)) (hl : l = xs.flatMap enc) (hm : xs.length = m) (hs : ∀ x, (enc x).length = s) (hlt : m < 281474976710656) : Sl F (.slice (some ⟨b, 0, none⟩) m m) s enc xs := by
 subst hl; subst hm
 exact Own.sl (E := T) (R := [(b, bx T (xs.flatMap enc))]) (own_box (flat_len hs xs)) hs (fun p hp => by simp at hp; subst hp; exact h) hlt
theorem depB_of {ops : Array Oper} {i : Nat} {o : Oper} (ho : ops[i]? = some o) {j : Nat} (h : depB ops i j = true) : ∃ x ∈ o.after, Region.binds .any x = true ∧ x.on = j := by
 unfold depB at h
 rw [ho] at h
 obtain ⟨x, hx, hb⟩ := Array.any_eq_true'.1 h
 simp only [Bool.and_eq_true, beq_iff_eq] at hb
 exact ⟨x, hx, hb.1, hb.2⟩
def undone (listed : Array Bool) : Nat := listed.toList.count false
theorem count_set : ∀ {l : List Bool} {i : Nat} (hi : i < l.length), l[i] = false → (l.set i true).count false + 1 = l.count false
 | [], i, hi, _ => by simp at hi
 | a :: l, 0, _, hv => by simp at hv; subst hv; simp
 | a :: l, i + 1, hi, hv => by
   have := count_set (l := l) (i := i) (by simpa using hi) (by simpa using hv)
   simp only [List.set_cons_succ, List.count_cons]
   omega
theorem undone_set {listed : Array Bool} {i : Nat} (h : listed.getD i true = false) : undone (listed.setIfInBounds i true) + 1 = undone listed := by
 have hi : i < listed.size := by
   rcases Nat.lt_or_ge i listed.size with h' | h'
   · exact h'
   · simp [Array.getD, Nat.not_lt.2 h'] at h
 have hv : listed.toList[i]'(by simpa using hi) = false := by simpa [Array.getD, hi] using h
 unfold undone
 rw [Array.toList_setIfInBounds]
 exact count_set (by simpa using hi) hv
theorem factB_op {ops : Array Oper} {k : Nat} (hB : factB n ops k = true) {i : Nat} (hi : i < k) : ∃ o d, ops[i]? = some o ∧ o.dst = some d ∧ d < n ∧ o.guard = none ∧ (∀ x ∈ o.after, Region.binds .any x = true → x.on < i) ∧ ∀ j, j < i → dstB ops j ≠ dstB ops i := by
 unfold factB at hB
 simp only [Bool.and_eq_true] at hB
 have h := List.all_eq_true.1 hB.1 i (by simpa using hi)
 split at h
 · rename_i o ho
   simp only [Bool.and_eq_true] at h
   obtain ⟨⟨⟨h1, h2⟩, h3⟩, h4⟩ := h
   split at h1
   · rename_i d hd
     refine ⟨o, d, ho, hd, by simpa using h1, by simpa using h2, fun x hx hb => ?_, fun j hj he => ?_⟩
     · have := Array.all_eq_true'.1 h3 x hx
       simpa [hb] using this
     · have := List.all_eq_true.1 h4 j (by simpa using hj)
       rw [he] at this
       simp at this
   · cases h1
 · cases h
theorem factB_end {ops : Array Oper} {k : Nat} (hB : factB n ops k = true) : ops.size = k ∨ (ops.size = k + 1 ∧ ∃ o, ops[k]? = some o ∧ o.dst = none ∧ o.guard = none ∧ (∀ x ∈ o.after, Region.binds .any x = true → x.on < k) ∧ ∀ j, j < k → depB ops k j = true) := by
 unfold factB at hB
 simp only [Bool.and_eq_true, Bool.or_eq_true, beq_iff_eq] at hB
 rcases hB.2 with h | ⟨h1, h2⟩
 · exact .inl h
 · refine .inr ⟨h1, ?_⟩
   split at h2
   · rename_i o ho
     simp only [Bool.and_eq_true] at h2
     obtain ⟨⟨⟨q1, q2⟩, q3⟩, q4⟩ := h2
     refine ⟨o, ho, by simpa using q1, by simpa using q2, fun x hx hb => ?_, fun j hj => ?_⟩
     · have := Array.all_eq_true'.1 q3 x hx
       simpa [hb] using this
     · exact List.all_eq_true.1 q4 j (by simpa using hj)
   · cases h2
theorem wpAny_facts {ops : Array Oper} {k : Nat} {Φ : Nat → Heap → Value → Prop} {Q : Exit → Env → St → Prop} (hB : factB n ops k = true) (hm : ∀ i F F' v, F.le F' → Φ i F v → Φ i F' v)
   (hops : AllTo (Hop P n B ops k Φ e0 σ) k) (hend : Hend P n B ops k Φ e0 σ Q) : ∀ (fuel : Nat) (listed : Array Bool) (a : Act) (w : World) (e : Env) (F : Heap), Fits n B a e → Holds B ⟨F, σ.H⟩ w → σ.F.le F →
     (∀ t, (∀ j, j < k → t ≠ dstB ops j) → e t = e0 t) → (∀ j, j < k → listed.getD j false = true → Φ j F (e (dstB ops j))) → listed.size = ops.size → listed.getD k false = false → undone listed = fuel →
     wpAny P .any ops (lift n B Q) fuel listed a w := by
 have hready : ∀ (listed : Array Bool), listed.size = ops.size → undone listed ≠ 0 → ∃ i, i ∈ Region.ready .any ops listed := by
   intro listed hsz hun
   have hex : ∃ i, i < listed.size ∧ listed.getD i false = false := by
     have : false ∈ listed.toList := by
       rw [← List.count_pos_iff]; unfold undone at hun; omega
     obtain ⟨i, hi, he⟩ := List.mem_iff_getElem.1 this
     exact ⟨i, by simpa using hi, by simp at hi; simp [Array.getD, hi]; simpa using he⟩
   obtain ⟨i, ⟨hi, hli⟩, hmin⟩ := least_exists hex
   refine ⟨i, mem_ready.2 ⟨by simp [Array.getD, hi] at hli ⊢; exact hli, ?_⟩⟩
   have hlt : ∀ j, j < i → listed.getD j false = true := fun j hj => by
     cases hc : listed.getD j false with
     | true => rfl
     | false => exact absurd (hmin j ⟨by omega, hc⟩) (by omega)
   by_cases hik : i < k
   · obtain ⟨o, d, h1, -, -, -, h5, -⟩ := factB_op hB hik
     exact ⟨o, h1, fun x hx hb => hlt _ (h5 x hx hb)⟩
   · rcases factB_end hB with h | ⟨h, o, h1, -, -, h4, -⟩
     · omega
     · have : i = k := by omega
       subst this
       exact ⟨o, h1, fun x hx hb => hlt _ (h4 x hx hb)⟩
 intro fuel
 induction fuel with
 | zero =>
   intro listed a w e F hf hw hF he hΦ hsz hk0 hun
   have hall : ∀ j, j < listed.size → listed.getD j false = true := fun j hj => by
     cases hc : listed.getD j false with
     | true => rfl
     | false =>
       have h1 : false ∈ listed.toList := List.mem_iff_getElem.2 ⟨j, by simpa using hj, by simp [Array.getD, hj] at hc; simpa using hc⟩
       rw [← List.count_pos_iff] at h1
       unfold undone at hun; omega
   have hsk : ops.size = k := by
     rcases factB_end hB with h | ⟨h, -⟩
     · exact h
     · have := hall k (by omega); rw [hk0] at this; cases this
   refine ⟨?_, B.ds, e, ⟨F, σ.H⟩, hf, hw, (hend e F hF he fun j hj => hΦ j hj (hall j (by omega))).1 hsk⟩
   cases hr : Region.ready .any ops listed with
   | nil => rfl
   | cons i l =>
     have : i ∈ Region.ready .any ops listed := by rw [hr]; simp
     obtain ⟨h1, o, ho, -⟩ := mem_ready.1 this
     have hi : i < listed.size := by rw [hsz]; exact (Array.getElem?_eq_some_iff.1 ho).1
     have h2 := hall i hi
     simp [Array.getD, hi] at h1 h2
     rw [h1] at h2; cases h2
 | succ fuel ih =>
   intro listed a w e F hf hw hF he hΦ hsz hk0 hun
   obtain ⟨i0, hi0⟩ := hready listed hsz (by omega)
   refine ⟨fun h => (by rw [h] at hi0; cases hi0), fun i hi => ?_⟩
   obtain ⟨h1, o, ho, hdeps⟩ := mem_ready.1 hi
   have hil : i < listed.size := by rw [hsz]; exact (Array.getElem?_eq_some_iff.1 ho).1
   have hun' := undone_set h1
   by_cases hik : i < k
   · obtain ⟨o', d', h2, h3, h4, h5, h6, h7⟩ := factB_op hB hik
     obtain ⟨d, op, ty, pos, af, q1, q2⟩ := hops.get i hik e F hF he fun j hj hjk => by
       obtain ⟨x, hx, hb, rfl⟩ := depB_of ho hj
       exact hΦ _ hjk (hdeps x hx hb)
     rw [q1] at ho
     cases ho
     rw [q1] at h2
     cases h2
     have hdd : dstB ops i = d := by unfold dstB; rw [q1]; rfl
     have hdn : d < n := by
       have : d = d' := by simpa using h3
       subst this; exact h4
     unfold wpOp
     simp only [q1]
     rw [if_pos (by simp [Region.wanted])]
     refine .inl (q2 a w hf hw _ _ fun v σ' w' hK hw' => ?_)
     obtain ⟨F', rfl, hle, hφ⟩ := hK
     refine ih (listed.setIfInBounds i true) _ w' (upd e d v) F' (hf.put hdn v) hw' (Heap.le_trans hF hle) (fun t ht => ?_) (fun j hj hlj => ?_) (by simpa using hsz) ?_ (by omega)
     · unfold upd
       rw [if_neg (fun h => ht i hik (by rw [h, hdd]))]
       exact he t ht
     · by_cases hji : j = i
       · subst hji
         rw [hdd]
         simp only [upd, if_true]
         exact hφ
       · have hne : dstB ops j ≠ d := by
           rw [← hdd]
           rcases Nat.lt_or_ge j i with h | h
           · exact h7 j h
           · obtain ⟨-, -, -, -, -, -, -, h8⟩ := factB_op hB hj
             exact (h8 i (by omega)).symm
         simp only [upd, if_neg hne]
         rw [getD_set_ne false (Ne.symm hji)] at hlj
         exact hm _ _ _ _ hle (hΦ j hj hlj)
     · rw [getD_set_ne false (by omega)]; exact hk0
   · rcases factB_end hB with h | ⟨h, o', q1, q2, q3, q4, q5⟩
     · omega
     · have hie : i = k := by omega
       subst hie
       rw [q1] at ho
       cases ho
       have hfull : ∀ j, j < i → listed.getD j false = true := fun j hj => by
         obtain ⟨x, hx, hb, rfl⟩ := depB_of q1 (q5 j hj)
         exact hdeps x hx hb
       obtain ⟨op, ty, pos, af, p1, p2⟩ := (hend e F hF he fun j hj => hΦ j hj (hfull j hj)).2 h
       rw [q1] at p1
       cases p1
       unfold wpOp
       simp only [q1]
       rw [if_pos (by simp [Region.wanted])]
       refine .inl (p2 a w hf hw _ _ fun v σ' w' hK hw' => ?_)
       have hz : fuel = 0 := by
         have hcnt : undone (listed.setIfInBounds i true) = 0 := by
           have hall : ∀ j, j < (listed.setIfInBounds i true).size → (listed.setIfInBounds i true).getD j false = true := fun j hj => by
             by_cases hji : j = i
             · subst hji; simp [Array.getD, hil]
             · rw [getD_set_ne false (Ne.symm hji)]
               exact hfull j (by simp at hj; omega)
           unfold undone
           rw [List.count_eq_zero]
           intro hmem
           obtain ⟨j, hj, hje⟩ := List.mem_iff_getElem.1 hmem
           have hj' : j < (listed.setIfInBounds i true).size := by simpa using hj
           have h9 := hall j hj'
           simp only [Array.getD, hj', dif_pos] at h9
           rw [Array.getElem_toList] at hje
           have h10 : (listed.setIfInBounds i true)[j]'hj' = true := h9
           rw [h10] at hje; cases hje
         omega
       subst hz
       refine ⟨?_, B.ds, e, σ', hf, hw', hK⟩
       cases hr : Region.ready .any ops (listed.setIfInBounds i true) with
       | nil => rfl
       | cons q l =>
         have hq : q ∈ Region.ready .any ops (listed.setIfInBounds i true) := by rw [hr]; simp
         obtain ⟨h1q, o, hoq, -⟩ := mem_ready.1 hq
         have hqs : q < listed.size := by rw [hsz]; exact (Array.getElem?_eq_some_iff.1 hoq).1
         by_cases hqi : q = i
         · subst hqi; simp [Array.getD, hil] at h1q
         · have h2 := hfull q (by omega)
           rw [getD_set_ne true (Ne.symm hqi)] at h1q
           simp [Array.getD, hqs] at h1q h2
           rw [h1q] at h2; cases h2
def AllMono : List (Heap → Value → Prop) → Prop
 | [] => True
 | p :: l => (∀ F F' v, F.le F' → p F v → p F' v) ∧ AllMono l
def phiOf : List (Heap → Value → Prop) → Nat → Heap → Value → Prop
 | [], _ => fun _ _ => True
 | p :: _, 0 => p
 | _ :: l, i + 1 => phiOf l i
theorem AllMono.phi : ∀ {l : List (Heap → Value → Prop)}, AllMono l → ∀ i F F' v, F.le F' → phiOf l i F v → phiOf l i F' v
 | [], _, _, _, _, _, _, h => h
 | _ :: _, h, 0, _, _, _, hF, hp => h.1 _ _ _ hF hp
 | _ :: _, h, i + 1, _, _, _, hF, hp => h.2.phi i _ _ _ hF hp
theorem WC_drawF {id : Nat} {l : List Oper} {Q : Exit → Env → St → Prop} (k : Nat) (hp : Plainly B.ro l) (hO : ∀ e σ, Q .outgrown e σ → False) (hm : P.follows .mixedOrders = true) (hB : factB n l.toArray k = true) (tail : Bool) (ht : Nat.beq l.toArray.size (k + 1) = tail)
   (φs : List (Heap → Value → Prop)) (hmono : AllMono φs)
   (hops : ∀ ds, AllTo (Hop P n (B.at ds) l.toArray k (phiOf φs) e0 σ) k) (hend : ∀ ds, HendT P n (B.at ds) l.toArray k (phiOf φs) e0 σ Q tail) : WC P n B (.region id l.toArray true) Q e0 σ := by
 intro ds a w ha hw
 refine wpIn_region_any hm (wpAny_in (lift_in hO) (by simpa using hp.mem) _ _ _ _ ?_)
 have := wpAny_facts (P := P) (e0 := e0) (σ := σ) (Q := Q) hB hmono.phi (hops ds) ((hend ds).to ht) l.toArray.size (Array.replicate l.toArray.size false) a _ e0 σ.F ha hw.drew (Heap.le_refl _) (fun _ _ => rfl) (fun j _ h => by simp [Array.getD] at h) (by simp) (by simp [Array.getD]) (by simp [undone])
 exact this
end
end Go.Proofs.Ytaikojfonleccaa
namespace Go.Proofs.Ytaikojfonleccaa
open Go.RowKit
theorem ring_len {s : Sale} (hv : ValidS s) {ring : List Int} (h1 : ringErr s ring = 0) : ring.length ≤ 6 := by
 obtain ⟨ha, hn, -⟩ := ringErr_ok h1
 have key : ∀ k (hk : k < ring.length), (k : Int) ≤ ring[k] := by
   intro k
   induction k with
   | zero => intro hk; exact (in_bounds (in_of_any ha hk)).1
   | succ k ih =>
     intro hk
     have h2 := ih (by omega)
     have h3 := asc_not hn hk (by omega)
     simp only [Nat.add_sub_cancel] at h3
     omega
 have hnb := hv.nb
 rcases Nat.eq_zero_or_pos ring.length with h | h
 · omega
 · have h2 := key (ring.length - 1) (by omega)
   have h3 := (in_bounds (in_of_any ha (k := ring.length - 1) (by omega))).2
   omega
end Go.Proofs.Ytaikojfonleccaa
namespace Go.Proofs.Ytaikojfonleccaa
open Go.RowKit
section
variable {P : Program} {n : Nat} {B : Base} {e : Env} {σ : St} {d : Option Nat} {ty : TypeId} {pos : String} {af : Array Edge} {gd : Option (Nat × Bool)}
theorem q_neqZ2 {T : Nat} {x y : Operand} {a0 b0 a1 b1 : Int} {u : TypeId} {f0 f1 : Field} {k0 k1 : IntKind} (hu : P.underlying T = some (.struct #[f0, f1])) (hst : P.stoodInHeld T = false) (hg : P.eqGuardType P.depth T = false)
   (n0 : f0.name ≠ "_") (n1 : f1.name ≠ "_") (o0 : f0.offset = 0) (o1 : f1.offset = 1) (h0 : P.underlying f0.type = some (.int k0)) (h1 : P.underlying f1.type = some (.int k1)) (s0 : OneT P f0.type) (s1 : OneT P f1.type)
   (hx : ev e x = .agg #[.int .i64 a0, .int .i64 a1]) (hy : ev e y = .agg #[.int .i64 b0, .int .i64 b1]) :
   OpR P B ⟨d, .binOp .neq T x y u, ty, pos, af, gd⟩ e σ (.bool (!((a0 == b0) && (a1 == b1)))) := fun w _ => by
 have hf : P.fieldsOf T = #[f0, f1] := by simp [Program.fieldsOf, hu]
 have hu' : P.underlying T = some (.struct (P.fieldsOf T)) := by rw [hf]; exact hu
 have p0 : ∀ cs : Array Value, ∀ v, cs[0]? = some v → (part f0.type cs f0.offset).run P w = .ok v w := fun cs v hv => by simp [part, run_one s0, o0, hv]
 have p1 : ∀ cs : Array Value, ∀ v, cs[1]? = some v → (part f1.type cs f1.offset).run P w = .ok v w := fun cs v hv => by simp [part, run_one s1, o1, hv]
 have he := run_neq_struct (P := P) w T #[.int .i64 a0, .int .i64 a1] #[.int .i64 b0, .int .i64 b1]
 rw [run_equalIn_struct w 9999 T _ _ hu' hst, hf] at he
 have hgd := run_eqGuard_agg (P := P) w .neq T x y #[.int .i64 a0, .int .i64 a1] #[.int .i64 b0, .int .i64 b1] hg
 simp only [execOp, hx, hy, Sem.run_bind, hgd, Result.andThen_ok, he]
 simp only [Op.eqFields, ne_eq, n0, n1, not_false_eq_true, if_true, Sem.run_bind, p0 _ _ (show (#[Value.int .i64 a0, Value.int .i64 a1] : Array Value)[0]? = some (.int .i64 a0) from rfl), p0 _ _ (show (#[Value.int .i64 b0, Value.int .i64 b1] : Array Value)[0]? = some (.int .i64 b0) from rfl), Result.andThen_ok, run_equalIn_int w 9998 f0.type .i64 k0 a0 b0 h0]
 cases hab : (a0 == b0) with
 | false => simp
 | true =>
   simp [p1 _ _ (show (#[Value.int .i64 a0, Value.int .i64 a1] : Array Value)[1]? = some (.int .i64 a1) from rfl), p1 _ _ (show (#[Value.int .i64 b0, Value.int .i64 b1] : Array Value)[1]? = some (.int .i64 b1) from rfl), run_equalIn_int w 9998 f1.type .i64 k1 a1 b1 h1]
   by_cases hc : a1 = b1 <;> simp [hc]
end
end Go.Proofs.Ytaikojfonleccaa
namespace Go.Proofs.Ytaikojfonleccaa
open Go.RowKit
set_option maxRecDepth 100000 in
theorem sellTop_ok {F : Heap} {vs vb vl vn vd : Value} {s : Sale} (hr : SaleR F vs vb vl vn vd s) {vr : Value} {ring : List Int} (hx : Ints F vr ring) : Ok Try.prog 19 [.agg #[vs, .int .i64 s.premium, .int .i64 s.fee, .int .i64 s.days, vb, vl, vn, vd], vr].toArray F fun u F' => SellR F' u (sellE s ring) := by
 refine Ok.intro Try.func19 rfl Try.ntmps19 rfl fun w0 => ?_
 by_cases hok : enterErr s ring = 0
 ·
  have hv := Co (enterE_ok hok).1
  refine Af <| Ai fun ds => Bl rfl (Cc (Ak rfl) rfl fun b1 hb1 nb1 => ?_)
  refine Aa rfl (Ae Ab) ?_
  refine Aa rfl (Ae Ab) ?_
  refine Ah <| Ad <| Af <| Ai fun ds => Aa rfl (Bg Cd (Ap rfl <| Ac) rfl rfl (Bm 0 rfl)) ?_
  refine Aa rfl (Ag (Ay rfl <| Ak rfl)) ?_
  refine Bl rfl (x_callN bd_69 Az (.cons (Al rfl <| Ac) (.cons (Ac) .nil)) (enter_ok hr hx hok) fun v2 F3 R6 hr4 hF5 => ?_)
  obtain ⟨ba, kb, set, rfl, hX, hset, hsof, rfl⟩ := hr4
  refine Aa rfl (Ag (Ac)) ?_
  refine Aa rfl (A1 (Ac) rfl) ?_
  refine Aa rfl (A1 (Al rfl <| Ac) rfl) ?_
  refine Aa rfl (A1 (Ap rfl <| Ac) rfl) ?_
  refine Aa rfl (Ae (Ap rfl <| Ac)) ?_
  refine Aa rfl (Ae (Ap rfl <| Ac)) ?_
  refine Aa rfl (Ae (Ap rfl <| Ac)) ?_
  refine Ah <| Ad <| Af <| Af <| Ai fun ds => Aa rfl (Ag (Ac)) ?_
  refine Aa rfl (B5 (Ac) Ab) ?_
  refine Ah <| Ad <| Am (Ac) (by decide) ?_
  refine Ax <| Ad <| Af <| Ai fun ds => Aa rfl (Ag (Ay rfl <| Ac)) ?_
  refine Aa rfl (Ag (Ay rfl <| Ac)) ?_
  refine WL_order (.cons (.next <| .here) <| .cons (.here) <| .nil) ?_
  refine Bl rfl (x_callM bd_70 Az (.cons (Al rfl <| Ac) (.cons (Ac) .nil)) rfl (sell_ok hX hv KnownC.nil (set := set) hset) fun v11 F12 H15 hr13 hF14 => ?_)
  obtain ⟨es2, rfl, hK2, hal⟩ := hr13
  rw [sellL_eq hv (fun b _ => hsof b)] at hal
  refine Aa rfl (Ae (Ac)) ?_
  refine Aa rfl (Ae Ab) ?_
  refine Ah <| Ad <| A5 <| Aw rfl (.tmp (Al rfl <| Ac) (.tmp (Ac) .nil)) ?_
  rw [sellE_ok hok]
  exact ⟨_, rfl, hal⟩
 ·
  refine Af <| Ai fun ds => Bl rfl (Cc (Ak rfl) rfl fun b16 hb16 nb16 => ?_)
  refine Aa rfl (Ae Ab) ?_
  refine Aa rfl (Ae Ab) ?_
  refine Ah <| Ad <| Af <| Ai fun ds => Aa rfl (Bg Cd (Ap rfl <| Ac) rfl rfl (Bm 0 rfl)) ?_
  refine Aa rfl (Ag (Ay rfl <| Ak rfl)) ?_
  refine Bv rfl (A9 bd_69 Az (.cons (Al rfl <| Ac) (.cons (Ac) .nil)) (enter_bad hr hx hok) (fun _ _ h => h)) ?_
  refine Aa rfl (Ag (Ac)) ?_
  refine Aa rfl (A1 (Ac) rfl) ?_
  refine Aa rfl (A1 (Al rfl <| Ac) rfl) ?_
  refine Aa rfl (A1 (Ap rfl <| Ac) rfl) ?_
  refine Aa rfl (Ae (Ap rfl <| Ac)) ?_
  refine Aa rfl (Ae (Ap rfl <| Ac)) ?_
  refine Aa rfl (Ae (Ap rfl <| Ac)) ?_
  refine Ah <| Ad <| Af <| Af <| Ai fun ds => Aa rfl (Ag (Ac)) ?_
  refine Aa rfl (B5 (Ac) Ab) ?_
  refine Ah <| Ad <| Ar (Ac) (decide_eq_true hok) ?_
  refine Af <| Ai fun ds => Aa rfl (Ag (Ap rfl <| Ac)) ?_
  refine Aa rfl (Ae Ab) ?_
  refine Aa rfl (Ae (Al rfl <| Ac)) ?_
  refine Ah <| Ad <| A5 <| A7 ?_
  refine Aw rfl (.tmp (Al rfl <| Ac) (.tmp (Ac) .nil)) ?_
  rw [sellE_bad rfl hok]
  exact ⟨_, rfl, Sl.nil⟩
set_option maxRecDepth 100000 in
theorem share_ok {F : Heap} {vs vb vl vn vd : Value} {s : Sale} (hr : SaleR F vs vb vl vn vd s) {vr : Value} {ring : List Int} (hx : Ints F vr ring) : Ok Try.prog 26 [.agg #[vs, .int .i64 s.premium, .int .i64 s.fee, .int .i64 s.days, vb, vl, vn, vd], vr].toArray F fun u F' => IntsR F' u (shareE s ring) := by
 refine Ok.intro Try.func26 rfl Try.ntmps26 rfl fun w0 => ?_
 have hlen := hx.plain.lt
 by_cases hok : enterErr s ring = 0
 ·
  have hv := Co (enterE_ok hok).1
  have hnl := hv.nl
  have hnb := hv.nb
  have hrl := ring_len hv (enterE_ok hok).2
  have hsv0 : 0 ≤ savedS s ring ∧ savedS s ring ≤ 100000 * s.lots.length := saved_bound hv _ (Nat.le_refl _)
  refine Af <| Ai fun ds => Bl rfl (Cc (Ak rfl) rfl fun b1 hb1 nb1 => ?_)
  refine Aa rfl (Ae Ab) ?_
  refine Aa rfl (Ae Ab) ?_
  refine Ah <| Ad <| Af <| Ai fun ds => Aa rfl (Bg Cd (Ap rfl <| Ac) rfl rfl (Bm 0 rfl)) ?_
  refine Aa rfl (Ag (Ay rfl <| Ak rfl)) ?_
  refine Bl rfl (x_callN bd_69 Az (.cons (Al rfl <| Ac) (.cons (Ac) .nil)) (enter_ok hr hx hok) fun v2 F3 R6 hr4 hF5 => ?_)
  replace hx := hx.mono hF5
  obtain ⟨ba, kb, set, rfl, hX, hset, hsof, rfl⟩ := hr4
  refine Aa rfl (Ag (Ac)) ?_
  refine Aa rfl (A1 (Ac) rfl) ?_
  refine Aa rfl (A1 (Al rfl <| Ac) rfl) ?_
  refine Aa rfl (A1 (Ap rfl <| Ac) rfl) ?_
  refine Aa rfl (Ae (Ap rfl <| Ac)) ?_
  refine Aa rfl (Ae (Ap rfl <| Ac)) ?_
  refine Aa rfl (Ae (Ap rfl <| Ac)) ?_
  refine Ah <| Ad <| Af <| Af <| Ai fun ds => Aa rfl (Ag (Ac)) ?_
  refine Aa rfl (B5 (Ac) Ab) ?_
  refine Ah <| Ad <| Am (Ac) (by decide) ?_
  refine Ax <| Ad <| Af <| Ai fun ds => Aa rfl (Ae Ab) ?_
  refine Ah <| Ad <| Af <| Ai fun ds => Aa rfl (Ag (Ay rfl <| Al rfl <| Ac)) ?_
  refine WL_order (.cons (.next <| .here) <| .cons (.here) <| .nil) ?_
  refine Bl rfl (x_callM bd_70 Az (.cons (Ac) (.cons Ab .nil)) rfl (sell_ok hX hv KnownC.nil (set := 0) (by decide)) fun v11 F12 H15 hr13 hF14 => ?_)
  replace hx := hx.mono hF14
  replace hX := hX.mono hF14
  obtain ⟨es2, rfl, hK2, hal0⟩ := hr13
  rw [sellL_eq (ring := []) hv (fun b _ => by simp [inRing])] at hal0
  refine Aa rfl (Ae (Ac)) ?_
  refine Ah <| Ad <| Af <| Af <| Ai fun ds => Aa rfl (Ag (Ba rfl <| Ac)) ?_
  refine Aa rfl (Ag (Ba rfl <| Ac)) ?_
  refine Bl rfl (x_callM bd_70 Az (.cons (Al rfl <| Ac) (.cons (Ac) .nil)) rfl (sell_ok hX hv hK2 (set := set) hset) fun v20 F21 H24 hr22 hF23 => ?_)
  replace hx := hx.mono hF23
  replace hal0 := hal0.mono hF23
  obtain ⟨es3, rfl, hK3, hal⟩ := hr22
  rw [sellL_eq hv (fun b _ => hsof b)] at hal
  refine Aa rfl (Bf Cm (Ac) hal.plain) ?_
  refine Aa rfl (Ag Ab) ?_
  refine Ah <| Ad <| A4 <| B4 [8, 10, 11, 30, 31, 32, 33, 34, 35, 36, 37, 38, 39, 40, 41, 42, 43, 44, 45, 46, 47, 48, 49, 50, 51, 52, 53, 54, 55, 56] (fun m e σ => ∃ k : Nat, m + k = (allS s ring).length ∧ e 30 = .int .i64 (k : Int) ∧ e 8 = .int .i64 (savedTo s ring k) ∧ σ = ⟨F21, [(kb, mapO es3), (b1, bx 27 [vs, .int .i64 s.premium, .int .i64 s.fee, .int .i64 s.days, vb, vl, vn, vd])]⟩) ((allS s ring).length) ?_ ?_
  · exact ⟨0, by omega, (Ac), (Ba rfl <| Ac), rfl⟩
  ·
   rintro m e _ ⟨k, hm, hs30, hs8, rfl⟩
   by_cases hlt : k < (allS s ring).length
   ·
    refine Af <| Ai fun ds => Aa rfl (B0 (Au rfl hs30) (Ao rfl <| Al rfl <| Ac)) ?_
    refine Ah <| Ad <| Af <| Ar (Ac) (by first | rfl | exact decide_eq_true (by omega)) ?_
    have hk1 : k < s.lots.length := by rw [← D3 (s := s) (ring := ring)]; exact hlt
    have hk2 : k < (allS s []).length := by rw [D3]; exact hk1
    have ha1 : (allS s ring)[k] = soldS s k ring := En hlt
    have ha2 : (allS s [])[k] = soldS s k [] := En hk2
    have hb1 := sold_bound hv hk1 ring
    have hb2 := sold_bound hv hk1 []
    have hsb := saved_bound hv (ring := ring) k (by omega)
    rw [← ha1] at hb1
    rw [← ha2] at hb2
    by_cases hne : 0 ≤ (allS s ring)[k].bidder
    ·
     obtain ⟨c, hc⟩ := Int.eq_ofNat_of_zero_le hne
     have hc6 : c < 6 := by omega
     have hne2 : (soldS s k ring).bidder ≠ -1 := by rw [← ha1]; omega
     refine Ax <| Ad <| Af <| A4 <| Af <| Ai fun ds => Aa rfl (Ag (Al rfl <| Au rfl hs30)) ?_
     refine Aa rfl (Be  Cm (Ap rfl <| Ao rfl <| Ap rfl <| Ac) hal.plain (Ap rfl <| Au rfl hs30) rfl hlt) ?_
     refine Aa rfl (Bg D8 (Ac) rfl rfl (hal.whole hlt)) ?_
     refine Bl rfl (B6 zr_63 rfl fun b26 hb26 nb26 => ?_)
     refine Aa rfl (Ae (Ap rfl <| Al rfl <| Ac)) ?_
     refine Ck (B8 sz_63 (Al rfl <| Ac) (Ap rfl <| Ac) (i := 0) rfl rfl rfl rfl Res.enc_one (.here) ?_)
     refine Ah <| Ad <| Af <| Ai fun ds => Aa rfl (Aj Dk (Al rfl <| Ac)) ?_
     refine Aa rfl (Aq Bd (Ac) (Cell.own 0 rfl rfl)) ?_
     refine Aa rfl (Dp (Ac) Ab) ?_
     refine Aa rfl (Ag (Ac)) ?_
     refine As rfl rfl (Ac) (decide_eq_true hne) ?_
     refine Aa rfl (Ag (Ba rfl <| Ap rfl <| Ao rfl <| Ba rfl <| Ay rfl <| Ac)) ?_
     refine As rfl rfl (Al rfl <| Ac) (decide_eq_true hne) ?_
     refine Aa rfl (Aj Dk (Ay rfl <| Ap rfl <| Ac)) ?_
     refine As rfl rfl (Ap rfl <| Ac) (decide_eq_true hne) ?_
     refine Aa rfl (Aq Bd (Ac) (Cell.own 0 rfl rfl)) ?_
     refine As rfl rfl (Ap rfl <| Al rfl <| Ac) (decide_eq_true hne) ?_
     refine Aa rfl (q_shr (Ap rfl <| Ac) (Ac) (k := c) hc (by show c < 64; omega) shr_nat) ?_
     refine As rfl rfl (Ay rfl <| Ac) (decide_eq_true hne) ?_
     refine Aa rfl (q_and (Ac) Ab (m := set / 2 ^ c) (k := 1) rfl rfl (by have := Nat.div_le_self set (2 ^ c); omega) (by omega) rfl) ?_
     refine As rfl rfl (Ay rfl <| Al rfl <| Ac) (decide_eq_true hne) ?_
     refine Aa rfl (B9 (Ac) Ab) ?_
     refine Aa rfl (A6 (Ay rfl <| Ap rfl <| Ac) (decide_eq_true hne) (Ac)) ?_
     refine Ah <| Ad ?_
     by_cases hin : inRing ring (soldS s k ring).bidder = true
     ·
      have hbc : set.testBit c = true := by rw [hsof c, ← hc, ha1]; exact hin
      refine Ar (Ac) (by rw [Dw]; exact hbc) ?_
      refine Ch (.inl rfl) (fun _ _ h => h) (by kernel_rfl) (by kernel_rfl) fun ds => ?_
      refine A0 rfl (Ag (Bb rfl <| Al rfl <| Au rfl hs8)) ?_
      refine A0 rfl (Ag (Bb rfl <| Ap rfl <| Ao rfl <| Ay rfl <| Al rfl <| Ac)) ?_
      refine A0 rfl (Ag (Ba rfl <| Ay rfl <| Al rfl <| Ac)) ?_
      refine A0 rfl (Be  Cm (Al rfl <| Ac) hal0.plain (Ac) rfl hk2) ?_
      refine A0 rfl (Bq fd_63_1 (Ac)) ?_
      refine A0 rfl (Aq Bd (Ac) (hal0.cell hk2 rfl)) ?_
      refine A0 rfl (Aj fd_63_1 (Bb rfl <| Ap rfl <| Ac)) ?_
      refine A0 rfl (Aq Bd (Ac) (Cell.own 0 rfl rfl)) ?_
      refine A0 rfl (Dh (Ap rfl <| Ac) (Ac) rfl (by omega) (by omega)) ?_
      refine A0 rfl (B3 (Ba rfl <| Ac) (Ac) rfl (by omega) (by omega)) ?_
      refine A0 rfl (Ae (Ac)) ?_
      refine Cj ?_
      refine Bh <| Ad <| Ct (fun _ _ h => h.drop (.cons _ <| .cons_cons _ <| .cons_cons _ <| .refl _)) ?_
      refine Ai fun ds => Aa rfl (B3 (Bb rfl <| Ba rfl <| Ay rfl <| Au rfl hs30) Ab rfl (by omega) (by omega)) ?_
      refine Aa rfl (Ag (Ac)) ?_
      refine Ah <| Ad ⟨_, m - 1, Off.eq (C5 rfl <| Ei rfl <| ou4 rfl <| Et rfl <| Bj), by omega, ?_⟩
      exact ⟨k + 1, by omega, (Ac), by rw [savedTo, if_pos ⟨hne2, hin⟩, ← ha1, ← ha2]; exact (Ap rfl <| Ac), rfl⟩
     ·
      replace hin : inRing ring (soldS s k ring).bidder = false := by simpa using hin
      have hbc : set.testBit c = false := by rw [hsof c, ← hc, ha1]; exact hin
      refine Am (Ac) (by rw [Dw]; exact hbc) ?_
      refine Ax <| Bh <| Ad <| Ct (fun _ _ h => h.drop (.cons _ <| .cons_cons _ <| .cons_cons _ <| .refl _)) ?_
      refine Ai fun ds => Aa rfl (B3 (Bb rfl <| Al rfl <| Au rfl hs30) Ab rfl (by omega) (by omega)) ?_
      refine Aa rfl (Ag (Ac)) ?_
      refine Ah <| Ad ⟨_, m - 1, Off.eq (C5 rfl <| Et rfl <| Eu rfl <| Bj), by omega, ?_⟩
      exact ⟨k + 1, by omega, (Ac), by rw [savedTo, if_neg (fun h => by rw [hin] at h; exact absurd h.2 (by decide))]; exact (Bb rfl <| Ap rfl <| Al rfl <| Au rfl hs8), rfl⟩
    ·
     have hne2 : ¬ (soldS s k ring).bidder ≠ -1 := by rw [← ha1]; omega
     refine Ax <| Ad <| Af <| A4 <| Af <| Ai fun ds => Aa rfl (Ag (Al rfl <| Au rfl hs30)) ?_
     refine Aa rfl (Be  Cm (Ap rfl <| Ao rfl <| Ap rfl <| Ac) hal.plain (Ap rfl <| Au rfl hs30) rfl hlt) ?_
     refine Aa rfl (Bg D8 (Ac) rfl rfl (hal.whole hlt)) ?_
     refine Bl rfl (B6 zr_63 rfl fun b27 hb27 nb27 => ?_)
     refine Aa rfl (Ae (Ap rfl <| Al rfl <| Ac)) ?_
     refine Ck (B8 sz_63 (Al rfl <| Ac) (Ap rfl <| Ac) (i := 0) rfl rfl rfl rfl Res.enc_one (.here) ?_)
     refine Ah <| Ad <| Af <| Ai fun ds => Aa rfl (Aj Dk (Al rfl <| Ac)) ?_
     refine Aa rfl (Aq Bd (Ac) (Cell.own 0 rfl rfl)) ?_
     refine Aa rfl (Dp (Ac) Ab) ?_
     refine Aa rfl (Ag (Ac)) ?_
     refine At rfl rfl (Ac) (.inl (congrArg Value.bool (decide_eq_false hne))) rfl ?_
     refine At rfl rfl (Al rfl <| Ac) (.inl (congrArg Value.bool (decide_eq_false hne))) rfl ?_
     refine At rfl rfl (Ap rfl <| Ac) (.inl (congrArg Value.bool (decide_eq_false hne))) rfl ?_
     refine At rfl rfl (Ap rfl <| Al rfl <| Ac) (.inl (congrArg Value.bool (decide_eq_false hne))) rfl ?_
     refine At rfl rfl (Ay rfl <| Ac) (.inl (congrArg Value.bool (decide_eq_false hne))) rfl ?_
     refine At rfl rfl (Ay rfl <| Al rfl <| Ac) (.inl (congrArg Value.bool (decide_eq_false hne))) rfl ?_
     refine Aa rfl (A8 (Ay rfl <| Ap rfl <| Ac) (decide_eq_false hne) Ab) ?_
     refine Ah <| Ad <| Am (Ac) rfl ?_
     refine Ax <| Bh <| Ad <| Ct (fun _ _ h => h.drop (.cons _ <| .cons_cons _ <| .cons_cons _ <| .refl _)) ?_
     refine Ai fun ds => Aa rfl (B3 (Bb rfl <| Al rfl <| Au rfl hs30) Ab rfl (by omega) (by omega)) ?_
     refine Aa rfl (Ag (Ac)) ?_
     refine Ah <| Ad ⟨_, m - 1, Off.eq (C5 rfl <| Et rfl <| Eu rfl <| Bj), by omega, ?_⟩
     exact ⟨k + 1, by omega, (Ac), by rw [savedTo, if_neg (fun h => hne2 h.1)]; exact (Bb rfl <| Ap rfl <| Al rfl <| Au rfl hs8), rfl⟩
   ·
    refine Af <| Ai fun ds => Aa rfl (B0 (Au rfl hs30) (Ao rfl <| Al rfl <| Ac)) ?_
    refine Ah <| Ad <| Af <| Am (Ac) (by first | rfl | exact decide_eq_false (by omega)) ?_
    obtain rfl : k = (allS s ring).length := by omega
    have hsE : savedTo s ring (allS s ring).length = savedS s ring := by rw [D3]; rfl
    refine Bx ?_
    refine Bk <| Bk <| Bn <| Ad <| Af <| Af <| Ai fun ds => Aa rfl (Ag (Al rfl <| Ao rfl <| Bb rfl <| Ba rfl <| Ak rfl)) ?_
    refine Aa rfl (Bf Bs (Ac) hx.plain) ?_
    refine Aa rfl (Ag Ab) ?_
    refine Ah <| Ad <| A4 <| B4 [4, 12, 13, 59, 60, 61, 62, 63, 64, 65, 66, 67, 68, 69, 70, 71, 72, 73, 74, 75, 76, 77, 78] (fun m e σ => ∃ k : Nat, m + k = ring.length ∧ e 59 = .int .i64 (k : Int) ∧ e 8 = .int .i64 (savedTo s ring (allS s ring).length) ∧ ∃ v R, e 4 = v ∧ Own 3 1 v (shareTo (savedS s ring) ring.length k).length ((shareTo (savedS s ring) ring.length k).flatMap intE) R ∧ σ = ⟨F21, (kb, mapO es3) :: (b1, bx 27 [vs, .int .i64 s.premium, .int .i64 s.fee, .int .i64 s.days, vb, vl, vn, vd]) :: R⟩) (ring.length) ?_ ?_
    · exact ⟨0, by omega, (Ac), (Ay rfl <| Au rfl hs8), _, _, (Ay rfl <| Ao rfl <| Bb rfl <| Ay rfl <| Ap rfl <| Ac), Own.nil, rfl⟩
    ·
     rintro m e _ ⟨k, hm, ht59, ht8, v4, R4, ht4, ho, rfl⟩; have hsl := shareTo_length (saved := savedS s ring) (n := ring.length) (k := k); have hdq : 0 ≤ savedS s ring / ring.length := Int.ediv_nonneg hsv0.1 (by omega); have hdq2 := Int.ediv_le_self (ring.length : Int) hsv0.1
     by_cases hlt : k < ring.length
     ·
      refine Af <| Ai fun ds => Aa rfl (B0 (Au rfl ht59) (Ao rfl <| Al rfl <| Ac)) ?_
      refine Ah <| Ad <| Af <| Ar (Ac) (by first | rfl | exact decide_eq_true (by omega)) ?_
      by_cases hkr : (k : Int) < savedS s ring % ring.length
      ·
       have hxn : shareN (savedS s ring) ring.length k = savedS s ring / ring.length + 1 := by unfold shareN; rw [if_pos hkr]
       refine Ax <| Ad <| Af <| A4 <| Af <| Ai fun ds => Aa rfl (Ag (Al rfl <| Au rfl ht59)) ?_
       refine Aa rfl (Ae (Ac)) ?_
       refine Ah <| Ad <| Af <| Ai fun ds => Aa rfl (Ag (Ap rfl <| Al rfl <| Ao rfl <| Ay rfl <| Au rfl hs8)) ?_
       refine Aa rfl (Ag (Ay rfl <| Ao rfl <| Ay rfl <| Ao rfl <| Bb rfl <| Ba rfl <| Ak rfl)) ?_
       refine Aa rfl (Bf Bs (Ac) hx.plain) ?_
       refine Aa rfl (q_quo (Ap rfl <| Ac) (Ac) (by rw [hsE]; omega) (by rw [hsE]; omega) (by omega)) ?_
       refine Aa rfl (Ae (Ac)) ?_
       refine Ah <| Ad <| Af <| Af <| Ai fun ds => Aa rfl (Ag (Ay rfl <| Al rfl <| Ac)) ?_
       refine Aa rfl (Ag (Ba rfl <| Al rfl <| Ao rfl <| Ay rfl <| Au rfl hs8)) ?_
       refine Aa rfl (Ag (Ba rfl <| Ap rfl <| Ao rfl <| Ay rfl <| Ao rfl <| Bb rfl <| Ba rfl <| Ak rfl)) ?_
       refine Aa rfl (Bf Bs (Ac) hx.plain) ?_
       refine Aa rfl (q_rem (Ap rfl <| Ac) (Ac) (by rw [hsE]; omega) (by omega)) ?_
       refine Aa rfl (B0 (Ay rfl <| Ac) (Ac)) ?_
       refine Ah <| Ad <| Ar (Ac) (decide_eq_true (by rw [hsE]; exact hkr)) ?_
       refine Ai fun ds => Aa rfl (Ag (Ay rfl <| Ap rfl <| Ac)) ?_
       refine Aa rfl (B3 (Ac) Ab rfl (by rw [hsE]; omega) (by rw [hsE]; omega)) ?_
       refine Aa rfl (Ae (Ac)) ?_
       refine Ah <| Ad <| Ai fun ds => Aa rfl (Ag (Bb rfl <| Al rfl <| Au rfl ht4)) ?_
       refine Aa rfl (Ag (Al rfl <| Ac)) ?_
       refine Bl rfl (Bz Bs C3 rfl (.cons (Ac) .nil) rfl rfl (by decide) (by simp [Value.oneCell']) fun b29 hb29 nb29 => ?_)
       refine Bl rfl (Dg Bs el_3 (Ap rfl <| Ac) ho (Ac) (Ea (s := 1) 0 rfl rfl (by simp [Value.oneCell'])) (by omega) (by omega) (.s <| .s <| .s <| .z) .last fun v30 R31 ho32 => ?_)
       have ho2 := ho32.snoc (x := shareN (savedS s ring) ring.length k) rfl (by rw [hxn, ← hsE]; rfl)
       refine Aa rfl (Ae (Ac)) ?_
       refine Ah <| Bh <| Ad <| Ct (fun _ _ h => h.drop (.cons _ <| .cons_cons _ <| .cons_cons _ <| .refl _)) ?_
       refine Ai fun ds => Aa rfl (B3 (Bb rfl <| Ay rfl <| Ap rfl <| Au rfl ht59) Ab rfl (by omega) (by omega)) ?_
       refine Aa rfl (Ag (Ac)) ?_
       refine Ah <| Ad ⟨_, m - 1, Off.eq (C5 rfl <| Ei rfl <| Bj), by omega, ?_⟩
       refine ⟨k + 1, by omega, (Ac), (Bb rfl <| Ba rfl <| Ao rfl <| Ay rfl <| Au rfl hs8), _, _, (Ap rfl <| Ac), by rw [shareTo_succ]; exact ho2, rfl⟩
      ·
       have hxn : shareN (savedS s ring) ring.length k = savedS s ring / ring.length := by unfold shareN; rw [if_neg hkr]; omega
       refine Ax <| Ad <| Af <| A4 <| Af <| Ai fun ds => Aa rfl (Ag (Al rfl <| Au rfl ht59)) ?_
       refine Aa rfl (Ae (Ac)) ?_
       refine Ah <| Ad <| Af <| Ai fun ds => Aa rfl (Ag (Ap rfl <| Al rfl <| Ao rfl <| Ay rfl <| Au rfl hs8)) ?_
       refine Aa rfl (Ag (Ay rfl <| Ao rfl <| Ay rfl <| Ao rfl <| Bb rfl <| Ba rfl <| Ak rfl)) ?_
       refine Aa rfl (Bf Bs (Ac) hx.plain) ?_
       refine Aa rfl (q_quo (Ap rfl <| Ac) (Ac) (by rw [hsE]; omega) (by rw [hsE]; omega) (by omega)) ?_
       refine Aa rfl (Ae (Ac)) ?_
       refine Ah <| Ad <| Af <| Af <| Ai fun ds => Aa rfl (Ag (Ay rfl <| Al rfl <| Ac)) ?_
       refine Aa rfl (Ag (Ba rfl <| Al rfl <| Ao rfl <| Ay rfl <| Au rfl hs8)) ?_
       refine Aa rfl (Ag (Ba rfl <| Ap rfl <| Ao rfl <| Ay rfl <| Ao rfl <| Bb rfl <| Ba rfl <| Ak rfl)) ?_
       refine Aa rfl (Bf Bs (Ac) hx.plain) ?_
       refine Aa rfl (q_rem (Ap rfl <| Ac) (Ac) (by rw [hsE]; omega) (by omega)) ?_
       refine Aa rfl (B0 (Ay rfl <| Ac) (Ac)) ?_
       refine Ah <| Ad <| Am (Ac) (decide_eq_false (by rw [hsE]; exact hkr)) ?_
       refine Ax <| Ad <| Ai fun ds => Aa rfl (Ag (Ba rfl <| Ay rfl <| Ap rfl <| Au rfl ht4)) ?_
       refine Aa rfl (Ag (Ay rfl <| Ap rfl <| Al rfl <| Ac)) ?_
       refine Bl rfl (Bz Bs C3 rfl (.cons (Ac) .nil) rfl rfl (by decide) (by simp [Value.oneCell']) fun b33 hb33 nb33 => ?_)
       refine Bl rfl (Dg Bs el_3 (Ap rfl <| Ac) ho (Ac) (Ea (s := 1) 0 rfl rfl (by simp [Value.oneCell'])) (by omega) (by omega) (.s <| .s <| .s <| .z) .last fun v34 R35 ho36 => ?_)
       have ho2 := ho36.snoc (x := shareN (savedS s ring) ring.length k) rfl (by rw [hxn, ← hsE]; rfl)
       refine Aa rfl (Ae (Ac)) ?_
       refine Ah <| Bh <| Ad <| Ct (fun _ _ h => h.drop (.cons _ <| .cons_cons _ <| .cons_cons _ <| .refl _)) ?_
       refine Ai fun ds => Aa rfl (B3 (Bb rfl <| Ap rfl <| Al rfl <| Au rfl ht59) Ab rfl (by omega) (by omega)) ?_
       refine Aa rfl (Ag (Ac)) ?_
       refine Ah <| Ad ⟨_, m - 1, Off.eq (C5 rfl <| ou4 rfl <| Eu rfl <| Bj), by omega, ?_⟩
       refine ⟨k + 1, by omega, (Ac), (Bb rfl <| Ay rfl <| Al rfl <| Ao rfl <| Ay rfl <| Au rfl hs8), _, _, (Ap rfl <| Ac), by rw [shareTo_succ]; exact ho2, rfl⟩
     ·
      refine Af <| Ai fun ds => Aa rfl (B0 (Au rfl ht59) (Ao rfl <| Al rfl <| Ac)) ?_
      refine Ah <| Ad <| Af <| Am (Ac) (by first | rfl | exact decide_eq_false (by omega)) ?_
      obtain rfl : k = ring.length := by omega
      refine WC_freezeR (σ := ⟨_, _⟩) (by rfl) ho (.s <| .s <| .z) .last fun F37 hF38 hz39 => ?_
      have hn2 := ho.sl (fun _ => rfl) hz39 (by have := shareTo_length (saved := savedS s ring) (n := ring.length) (k := ring.length); omega)
      refine Bx ?_
      refine Bk <| Bk <| Bn <| Ad <| Af <| Ai fun ds => Aa rfl (Ag (Al rfl <| Au rfl ht4)) ?_
      refine Aa rfl (Ae (Ac)) ?_
      refine Aa rfl (Ae Ab) ?_
      refine Ah <| Ad <| A5 <| Aw rfl (.tmp (Al rfl <| Ac) (.tmp (Ac) .nil)) ?_
      rw [shareE_ok hok]
      exact ⟨_, rfl, hn2⟩
 ·
  refine Af <| Ai fun ds => Bl rfl (Cc (Ak rfl) rfl fun b40 hb40 nb40 => ?_)
  refine Aa rfl (Ae Ab) ?_
  refine Aa rfl (Ae Ab) ?_
  refine Ah <| Ad <| Af <| Ai fun ds => Aa rfl (Bg Cd (Ap rfl <| Ac) rfl rfl (Bm 0 rfl)) ?_
  refine Aa rfl (Ag (Ay rfl <| Ak rfl)) ?_
  refine Bv rfl (A9 bd_69 Az (.cons (Al rfl <| Ac) (.cons (Ac) .nil)) (enter_bad hr hx hok) (fun _ _ h => h)) ?_
  refine Aa rfl (Ag (Ac)) ?_
  refine Aa rfl (A1 (Ac) rfl) ?_
  refine Aa rfl (A1 (Al rfl <| Ac) rfl) ?_
  refine Aa rfl (A1 (Ap rfl <| Ac) rfl) ?_
  refine Aa rfl (Ae (Ap rfl <| Ac)) ?_
  refine Aa rfl (Ae (Ap rfl <| Ac)) ?_
  refine Aa rfl (Ae (Ap rfl <| Ac)) ?_
  refine Ah <| Ad <| Af <| Af <| Ai fun ds => Aa rfl (Ag (Ac)) ?_
  refine Aa rfl (B5 (Ac) Ab) ?_
  refine Ah <| Ad <| Ar (Ac) (decide_eq_true hok) ?_
  refine Af <| Ai fun ds => Aa rfl (Ag (Ap rfl <| Ac)) ?_
  refine Aa rfl (Ae Ab) ?_
  refine Aa rfl (Ae (Al rfl <| Ac)) ?_
  refine Ah <| Ad <| A5 <| A7 ?_
  refine Aw rfl (.tmp (Al rfl <| Ac) (.tmp (Ac) .nil)) ?_
  rw [shareE_bad rfl hok]
  exact ⟨_, rfl, Sl.nil⟩
set_option maxRecDepth 100000 in
theorem refInts_ok {F : Heap} {v u : Value} {xs ys : List Int} (hx : Ints F v xs) (hy : Ints F u ys) : Ok Try.prog 25 [v, u].toArray F fun r _ => r = .bool (decide (xs = ys)) := by
 refine Ok.intro Try.func25 rfl Try.ntmps25 rfl fun w0 => ?_
 have hlen := hx.plain.lt
 have hlen2 := hy.plain.lt
 refine Af <| Ai fun ds => Aa rfl (Ae Ab) ?_
 refine Ah <| Ad <| Af <| Ai fun ds => Aa rfl (Ag (Al rfl <| Ak rfl)) ?_
 refine Aa rfl (Bf Bs (Ac) hx.plain) ?_
 refine Aa rfl (Ag (Ap rfl <| Al rfl <| Ak rfl)) ?_
 refine Aa rfl (Bf Bs (Ac) hy.plain) ?_
 refine Aa rfl (B9 (Ap rfl <| Ac) (Ac)) ?_
 refine Aa rfl (Ae (Ac)) ?_
 refine Ah <| Ad <| Af <| Af <| Ai fun ds => Aa rfl (Ae Ab) ?_
 refine Ah <| Ad <| A4 <| B4 [5, 6, 12, 13, 14, 15, 16, 17, 18, 19, 20, 21, 22, 23, 24, 25, 26, 27, 28, 29] (fun m e σ => ∃ (k : Nat) (ok : Bool), m + k = xs.length + 1 ∧ e 6 = .int .i64 (k : Int) ∧ e 5 = .bool ok ∧ σ = ⟨F, []⟩ ∧ (ok = true → k ≤ xs.length ∧ xs.length = ys.length ∧ xs.take k = ys.take k) ∧ (ok = false → xs ≠ ys)) (xs.length + 1) ?_ ?_
 · refine ⟨0, _, by omega, (Ac), (Al rfl <| Ac), rfl, fun h => ⟨by omega, by have := of_decide_eq_true h; omega, rfl⟩, fun h he => ?_⟩; subst he; exact absurd rfl (of_decide_eq_false h)
 ·
  rintro m e _ ⟨k, ok, hm, hs6, hs5, rfl, hT, hF⟩
  cases ok
  ·
   refine Af <| Af <| Ai fun ds => Aa rfl (Ag (Au rfl hs5)) ?_
   refine Aa rfl (Ag (Ac)) ?_
   refine At rfl rfl (Ac) (.inl (congrArg Value.bool rfl)) rfl ?_
   refine At rfl rfl (Al rfl <| Ac) (.inl (congrArg Value.bool rfl)) rfl ?_
   refine At rfl rfl (Ap rfl <| Ac) (.inl (congrArg Value.bool rfl)) rfl ?_
   refine At rfl rfl (Ap rfl <| Al rfl <| Ac) (.inl (congrArg Value.bool rfl)) rfl ?_
   refine Aa rfl (A8 (Ay rfl <| Ac) rfl Ab) ?_
   refine Ah <| Ad <| Am (Ac) rfl ?_
   refine Bx ?_
   refine Bk <| Bk <| Bn <| Ad <| Af <| Ai fun ds => Aa rfl (Ag (Ay rfl <| Ap rfl <| Al rfl <| Au rfl hs5)) ?_
   refine Aa rfl (Ae (Ac)) ?_
   refine Ah <| Ad <| A5 <| Aw rfl (.tmp (Ac) .nil) ?_
   show _ = _
   rw [decide_eq_false (hF rfl)]; rfl
  ·
   obtain ⟨hk, hll, htk⟩ := hT rfl
   refine Af <| Af <| Ai fun ds => Aa rfl (Ag (Au rfl hs5)) ?_
   refine Aa rfl (Ag (Ac)) ?_
   refine As rfl rfl (Ac) rfl ?_
   refine Aa rfl (Ag (Ap rfl <| Au rfl hs6)) ?_
   refine As rfl rfl (Al rfl <| Ac) rfl ?_
   refine Aa rfl (Ag (Ap rfl <| Al rfl <| Ao rfl <| Ba rfl <| Ak rfl)) ?_
   refine As rfl rfl (Ap rfl <| Ac) rfl ?_
   refine Aa rfl (Bf Bs (Ac) hx.plain) ?_
   refine As rfl rfl (Ap rfl <| Al rfl <| Ac) rfl ?_
   refine Aa rfl (B0 (Ap rfl <| Ac) (Ac)) ?_
   refine Aa rfl (A6 (Ay rfl <| Ac) rfl (Ac)) ?_
   refine Ah <| Ad ?_
   by_cases hlt : k < xs.length
   ·
    refine Ar (Ac) (by first | rfl | exact decide_eq_true (by omega)) ?_
    refine Ax <| Ad <| Af <| A4 <| Ch (.inl rfl) (fun _ _ h => h) (by kernel_rfl) (by kernel_rfl) fun ds => ?_
    refine A0 rfl (Ag (Ay rfl <| Ap rfl <| Al rfl <| Ao rfl <| Ba rfl <| Ak rfl)) ?_
    refine A0 rfl (Ag (Ba rfl <| Au rfl hs6)) ?_
    refine A0 rfl (Be  Bs (Al rfl <| Ac) hx.plain (Ac) rfl hlt) ?_
    refine A0 rfl (Aq Bd (Ac) (hx.cell1 hlt rfl)) ?_
    refine A0 rfl (Ag (Ba rfl <| Ap rfl <| Al rfl <| Ao rfl <| Ba rfl <| Ak rfl)) ?_
    refine A0 rfl (Ag (Ba rfl <| Ay rfl <| Au rfl hs6)) ?_
    refine A0 rfl (Be  Bs (Al rfl <| Ac) hy.plain (Ac) rfl (by omega)) ?_
    refine A0 rfl (Aq Bd (Ac) (hy.cell1 (by omega) rfl)) ?_
    refine A0 rfl (B9 (Ay rfl <| Ac) (Ac)) ?_
    refine A0 rfl (Ae (Ac)) ?_
    refine Cj ?_
    refine Bh <| Ad <| Ai fun ds => Aa rfl (Ag (Bb rfl <| Al rfl <| Au rfl hs6)) ?_
    refine Aa rfl (B3 (Ac) Ab rfl (by omega) (by omega)) ?_
    refine Aa rfl (Ae (Ac)) ?_
    refine Ah <| Ad ⟨_, m - 1, Off.eq (C5 rfl <| ou4 rfl <| Bj), by omega, ?_⟩
    have hlt2 : k < ys.length := by omega
    refine ⟨k + 1, _, by omega, (Ac), (Ap rfl <| Al rfl <| Ac), rfl, fun h => ⟨by omega, hll, take_succ_eq hlt hlt2 htk (of_decide_eq_true h)⟩, fun h => ne_at hlt hlt2 (of_decide_eq_false h)⟩
   ·
    refine Am (Ac) (by first | rfl | exact decide_eq_false (by omega)) ?_
    refine Bx ?_
    refine Bk <| Bk <| Bn <| Ad <| Af <| Ai fun ds => Aa rfl (Ag (Ay rfl <| Ap rfl <| Al rfl <| Au rfl hs5)) ?_
    refine Aa rfl (Ae (Ac)) ?_
    refine Ah <| Ad <| A5 <| Aw rfl (.tmp (Ac) .nil) ?_
    show _ = _
    obtain rfl : k = xs.length := by omega
    rw [decide_eq_true (eq_of_take hll htk)]; rfl
theorem same_at {xs ys : List Res} {k : Nat} (h1 : k < xs.length) (h2 : k < ys.length) : (!((xs[k].bidder == ys[k].bidder) && (xs[k].price == ys[k].price))) = decide (xs[k] ≠ ys[k]) := by
 rw [Bool.eq_iff_iff]
 simp only [Bool.not_eq_true', Bool.and_eq_false_iff, decide_eq_true_eq, beq_eq_false_iff_ne]
 constructor
 · rintro (h | h) he <;> rw [he] at h <;> exact h rfl
 · intro h
   by_cases hb : xs[k].bidder = ys[k].bidder
   · right; intro hp; apply h
     cases hx : xs[k]; cases hy : ys[k]; rw [hx, hy] at hb hp; simp at hb hp; rw [hb, hp]
   · left; exact hb
set_option maxRecDepth 100000 in
theorem refSame_ok {F : Heap} {v u : Value} {xs ys : List Res} (hx : Sl F v 2 Res.enc xs) (hy : Sl F u 2 Res.enc ys) : Ok Try.prog 21 [v, u].toArray F fun r _ => r = .bool (decide (xs = ys)) := by
 refine Ok.intro Try.func21 rfl Try.ntmps21 rfl fun w0 => ?_
 have hlen := hx.plain.lt
 have hlen2 := hy.plain.lt
 by_cases hll : xs.length = ys.length
 ·
  refine Af <| Ai fun ds => Aa rfl (Ae Ab) ?_
  refine Ah <| Ad <| Af <| Af <| Ai fun ds => Aa rfl (Ag (Al rfl <| Ak rfl)) ?_
  refine Aa rfl (Bf Cm (Ac) hx.plain) ?_
  refine Aa rfl (Ag (Ap rfl <| Al rfl <| Ak rfl)) ?_
  refine Aa rfl (Bf Cm (Ac) hy.plain) ?_
  refine Aa rfl (B5 (Ap rfl <| Ac) (Ac)) ?_
  refine Ah <| Ad <| Am (Ac) (decide_eq_false (by omega)) ?_
  refine Ax <| Ad <| Af <| Af <| Ai fun ds => Aa rfl (Ae Ab) ?_
  refine Ah <| Ad <| A4 <| B4 [4, 5, 11, 12, 13, 14, 15, 16, 17, 18, 19, 20, 21, 22, 23, 24, 25] (fun m e σ => ∃ k : Nat, m + k = xs.length ∧ e 5 = .int .i64 (k : Int) ∧ σ = ⟨F, []⟩ ∧ xs.take k = ys.take k) (xs.length) ?_ ?_
  · exact ⟨0, by omega, (Ac), rfl, rfl⟩
  ·
   rintro m e _ ⟨k, hm, hs5, rfl, htk⟩
   by_cases hlt : k < xs.length
   ·
    have hlt2 : k < ys.length := by omega
    have hsa := same_at hlt hlt2
    refine Af <| Af <| Ai fun ds => Aa rfl (Ag (Au rfl hs5)) ?_
    refine Aa rfl (Ag (Al rfl <| Ao rfl <| Ay rfl <| Ap rfl <| Al rfl <| Ak rfl)) ?_
    refine Aa rfl (Bf Cm (Ac) hx.plain) ?_
    refine Aa rfl (B0 (Ap rfl <| Ac) (Ac)) ?_
    refine Ah <| Ad <| Ar (Ac) (by first | rfl | exact decide_eq_true (by omega)) ?_
    by_cases hne : xs[k] ≠ ys[k]
    ·
     refine Ax <| Ad <| Af <| A4 <| Af <| Ch (.inl rfl) (fun _ _ h => h) (by kernel_rfl) (by kernel_rfl) fun ds => ?_
     refine A0 rfl (Ag (Ay rfl <| Ao rfl <| Ay rfl <| Ap rfl <| Al rfl <| Ak rfl)) ?_
     refine A0 rfl (Ag (Ay rfl <| Al rfl <| Au rfl hs5)) ?_
     refine A0 rfl (Be  Cm (Al rfl <| Ac) hx.plain (Ac) rfl hlt) ?_
     refine A0 rfl (Bg D8 (Ac) rfl rfl (hx.whole hlt)) ?_
     refine A0 rfl (Ag (Ba rfl <| Ao rfl <| Ay rfl <| Ap rfl <| Al rfl <| Ak rfl)) ?_
     refine A0 rfl (Ag (Ba rfl <| Al rfl <| Au rfl hs5)) ?_
     refine A0 rfl (Be  Cm (Al rfl <| Ac) hy.plain (Ac) rfl hlt2) ?_
     refine A0 rfl (Bg D8 (Ac) rfl rfl (hy.whole hlt2)) ?_
     refine A0 rfl (q_neqZ2 Try.underlying63 stoodR guardR (by decide) (by decide) rfl rfl Try.underlying3 Try.underlying3 oneR oneR (Ay rfl <| Ac) (Ac)) ?_
     refine Cj ?_
     refine Ad <| Ar (Ac) (hsa.trans (decide_eq_true hne)) ?_
     refine Af <| Ai fun ds => Aa rfl (Ae Ab) ?_
     refine Ah <| Ad <| A5 <| Bc (A7 (A7 (Bc (A7 ?_))))
     refine Aw rfl (.tmp (Ac) .nil) ?_
     show _ = _
     rw [decide_eq_false (ne_at hlt hlt2 hne)]; rfl
    ·
     refine Ax <| Ad <| Af <| A4 <| Af <| Ch (.inl rfl) (fun _ _ h => h) (by kernel_rfl) (by kernel_rfl) fun ds => ?_
     refine A0 rfl (Ag (Ay rfl <| Ao rfl <| Ay rfl <| Ap rfl <| Al rfl <| Ak rfl)) ?_
     refine A0 rfl (Ag (Ay rfl <| Al rfl <| Au rfl hs5)) ?_
     refine A0 rfl (Be  Cm (Al rfl <| Ac) hx.plain (Ac) rfl hlt) ?_
     refine A0 rfl (Bg D8 (Ac) rfl rfl (hx.whole hlt)) ?_
     refine A0 rfl (Ag (Ba rfl <| Ao rfl <| Ay rfl <| Ap rfl <| Al rfl <| Ak rfl)) ?_
     refine A0 rfl (Ag (Ba rfl <| Al rfl <| Au rfl hs5)) ?_
     refine A0 rfl (Be  Cm (Al rfl <| Ac) hy.plain (Ac) rfl hlt2) ?_
     refine A0 rfl (Bg D8 (Ac) rfl rfl (hy.whole hlt2)) ?_
     refine A0 rfl (q_neqZ2 Try.underlying63 stoodR guardR (by decide) (by decide) rfl rfl Try.underlying3 Try.underlying3 oneR oneR (Ay rfl <| Ac) (Ac)) ?_
     refine Cj ?_
     refine Ad <| Am (Ac) (hsa.trans (decide_eq_false hne)) ?_
     refine Ax <| Bh <| Ad <| Ai fun ds => Aa rfl (Ag (Ba rfl <| Ay rfl <| Al rfl <| Au rfl hs5)) ?_
     refine Aa rfl (B3 (Ac) Ab rfl (by omega) (by omega)) ?_
     refine Aa rfl (Ae (Ac)) ?_
     refine Ah <| Ad ⟨_, m - 1, Off.eq (C5 rfl <| Bj), by omega, ?_⟩
     exact ⟨k + 1, by omega, (Ac), rfl, take_succ_eq hlt hlt2 htk (Classical.not_not.1 hne)⟩
   ·
    refine Af <| Af <| Ai fun ds => Aa rfl (Ag (Au rfl hs5)) ?_
    refine Aa rfl (Ag (Al rfl <| Ao rfl <| Ay rfl <| Ap rfl <| Al rfl <| Ak rfl)) ?_
    refine Aa rfl (Bf Cm (Ac) hx.plain) ?_
    refine Aa rfl (B0 (Ap rfl <| Ac) (Ac)) ?_
    refine Ah <| Ad <| Am (Ac) (by first | rfl | exact decide_eq_false (by omega)) ?_
    obtain rfl : k = xs.length := by omega
    refine Bx ?_
    refine Bk <| Bk <| Bn <| Ad <| Af <| Ai fun ds => Aa rfl (Ae Ab) ?_
    refine Ah <| Ad <| A5 <| Aw rfl (.tmp (Ac) .nil) ?_
    show _ = _
    rw [decide_eq_true (eq_of_take hll htk)]; rfl
 ·
  refine Af <| Ai fun ds => Aa rfl (Ae Ab) ?_
  refine Ah <| Ad <| Af <| Af <| Ai fun ds => Aa rfl (Ag (Al rfl <| Ak rfl)) ?_
  refine Aa rfl (Bf Cm (Ac) hx.plain) ?_
  refine Aa rfl (Ag (Ap rfl <| Al rfl <| Ak rfl)) ?_
  refine Aa rfl (Bf Cm (Ac) hy.plain) ?_
  refine Aa rfl (B5 (Ap rfl <| Ac) (Ac)) ?_
  refine Ah <| Ad <| Ar (Ac) (decide_eq_true (by omega)) ?_
  refine Af <| Ai fun ds => Aa rfl (Ae Ab) ?_
  refine Ah <| Ad <| A5 <| A7 ?_
  refine Aw rfl (.tmp (Ac) .nil) ?_
  show _ = _
  rw [decide_eq_false (fun h : xs = ys => hll (by rw [h]))]; rfl
end Go.Proofs.Ytaikojfonleccaa
namespace Go.Proofs.Ytaikojfonleccaa
open Go.RowKit
section
variable {P : Program} {n : Nat} {B : Base} {e : Env} {σ : St} {ty : TypeId} {pos : String} {af : Array Edge}
theorem x_callMF {d : Option Nat} {g : FuncId} {f : Operand} {fs cs vs : List Value} {xs : List Operand} {at_ : Array TypeId} {Hc Hr : List (Nat × Obj)}
   {R : Value → Heap → List (Nat × Obj) → Prop} {K : Value → St → Prop} (hg : Body P g) (hf : ev e f = .func (.func g) fs.toArray cs.toArray) (hx : Av e xs vs) (hH : σ.H = Hc ++ Hr)
   (hok : OkM P g (fs ++ vs ++ cs).toArray σ.F Hc R) (hn : ∀ v F' H', R v F' H' → σ.F.le F' → K v ⟨F', H' ++ Hr⟩) :
   OpX P n B ⟨d, .call ⟨.value f, xs.toArray, at_⟩, ty, pos, af, none⟩ e σ K := by
 intro a w ha hw next Qx hnext
 unfold Oper.wp
 rw [ha.ev, run_callFn hg hf hx, Oper.upon_enter]
 refine (hok w hw.sub (fun p hp => ?_) ?_).mono fun r w' hq => ?_
 · obtain ⟨h1, h2, -⟩ := hw.own p (by rw [hH]; exact List.mem_append_left _ hp)
   exact ⟨h1, h2⟩
 · have := hw.nodup
   rw [hH, List.map_append] at this
   exact (List.nodup_append.1 this).1
 · obtain ⟨v, F', H', rfl, hg', hk, hH', hR⟩ := hq
   exact hnext v _ w' (hn v F' H' hR hg'.le) (hw.grow hH hg' hk hH')
variable {ops : Array Oper}
end
end Go.Proofs.Ytaikojfonleccaa
namespace Go.Proofs.Ytaikojfonleccaa
open Go.RowKit
/-- The blocks 'H'' of the world 'w'' are some of 'H', or new. -/
def HeldG (w : World) (H : List (Nat × Obj)) (w' : World) (F' : Heap) (H' : List (Nat × Obj)) : Prop := (∀ p ∈ H', w'.heap[p.1]? = some p.2 ∧ F' p.1 = none ∧ (p.1 ∈ keys H ∨ w.heap.size ≤ p.1)) ∧ (keys H').Nodup
def OkG (P : Program) (f : FuncId) (args : Array Value) (F : Heap) (H : List (Nat × Obj)) (R : Value → Heap → List (Nat × Obj) → Prop) : Prop :=
 ∀ w, Sub F w → (∀ p ∈ H, w.heap[p.1]? = some p.2 ∧ F p.1 = none) → (keys H).Nodup →
   Calls P f args w fun r w' => ∃ v F' H', r = .returned v ∧ Grow w F (keys H) w' F' ∧ HeldG w H w' F' H' ∧ R v F' H'
theorem OkG.mono {P : Program} {f : FuncId} {args : Array Value} {F : Heap} {H : List (Nat × Obj)} {R R' : Value → Heap → List (Nat × Obj) → Prop} (h : OkG P f args F H R)
   (hr : ∀ v F' H', F.le F' → R v F' H' → R' v F' H') : OkG P f args F H R' := by
 intro w h1 h2 h3
 refine (h w h1 h2 h3).mono fun r w' hq => ?_
 obtain ⟨v, F', H', q1, q2, q3, q4⟩ := hq
 exact ⟨v, F', H', q1, q2, q3, hr v F' H' q2.le q4⟩
def OkYG (P : Program) (l : Nat) (args : List Value) (F : Heap) (H : List (Nat × Obj)) (R : Value → Heap → List (Nat × Obj) → Prop) : Prop :=
 ∀ w, Sub F w → (∀ p ∈ H, w.heap[p.1]? = some p.2 ∧ F p.1 = none) → (keys H).Nodup →
   ∃ fn tmps assign body, (Instr.yield l args.toArray).run P w = .ok (.round l fn tmps assign body) w ∧
     RoundIn Fence.wide 0 P l fn tmps assign body w fun r w' => ∃ v F' H', r = .returned v ∧ Grow w F (keys H) w' F' ∧ HeldG w H w' F' H' ∧ R v F' H'
theorem OkYG.mono {P : Program} {l : Nat} {args : List Value} {F : Heap} {H : List (Nat × Obj)} {R R' : Value → Heap → List (Nat × Obj) → Prop} (h : OkYG P l args F H R) (hr : ∀ v F' H', F.le F' → R v F' H' → R' v F' H') : OkYG P l args F H R' := by
 intro w h1 h2 h3
 obtain ⟨fn, tm, as1, bo, hy, hR⟩ := h w h1 h2 h3
 refine ⟨fn, tm, as1, bo, hy, hR.mono fun r w' hq => ?_⟩
 obtain ⟨v, F', H', q1, q2, q3, q4⟩ := hq
 exact ⟨v, F', H', q1, q2, q3, hr v F' H' q2.le q4⟩
section
variable {P : Program} {n : Nat} {B : Base} {e : Env} {σ : St} {ty : TypeId} {pos : String} {af : Array Edge}
theorem Holds.growG {w : World} (h : Holds B σ w) {Hc rest : List (Nat × Obj)} {w' : World} {F' : Heap} {H' : List (Nat × Obj)} (hH : σ.H = Hc ++ rest)
   (hg : Grow w σ.F (keys Hc) w' F') (hh : HeldG w Hc w' F' H') : Holds B ⟨F', H' ++ rest⟩ w' := by
 obtain ⟨hh1, hh2⟩ := hh
 have hin : ∀ p ∈ H', (∃ q ∈ Hc, q.1 = p.1) ∨ w.heap.size ≤ p.1 := fun p hp => (hh1 p hp).2.2.imp (fun hk => by
   obtain ⟨q, hq, he⟩ := List.mem_map.1 hk
   exact ⟨q, hq, he⟩) id
 have hnd := h.nodup
 rw [hH, List.map_append, List.nodup_append] at hnd
 refine ⟨hg.os.trans h.os, hg.tape.trans h.tape, hg.output.trans h.output, Nat.le_trans h.size hg.size, ?_, hg.sub, ?_, ?_, ?_, Heap.le_trans h.le hg.le, fun D hD => ?_, h.dnodup⟩
 · intro b hb hM
   have hnot : b ∉ keys Hc := by
     intro hm
     obtain ⟨p, hp, rfl⟩ := List.mem_map.1 hm
     rcases (h.own p (by rw [hH]; exact List.mem_append_left _ hp)).2.2 with h1 | h1
     · omega
     · exact hM h1
   rw [hg.old b (by have := h.size; omega) hnot]; exact h.old b hb hM
 · intro p hp
   rcases List.mem_append.1 hp with hp | hp
   · obtain ⟨h1, h2, -⟩ := hh1 p hp
     refine ⟨h1, h2, ?_⟩
     rcases hin p hp with ⟨q, hq, he⟩ | hnew
     · have := (h.own q (by rw [hH]; exact List.mem_append_left _ hq)).2.2
       rw [he] at this; exact this
     · exact .inl (Nat.le_trans h.size hnew)
   · have hp' : p ∈ σ.H := by rw [hH]; exact List.mem_append_right _ hp
     obtain ⟨h1, h2, h3⟩ := h.own p hp'
     have hlt := h.lt hp'
     have hnot : p.1 ∉ keys Hc := fun hm => hnd.2.2 _ hm _ (List.mem_map_of_mem hp) rfl
     exact ⟨by rw [hg.old _ hlt hnot]; exact h1, (hg.ext _ hlt).trans h2, h3⟩
 · rw [List.map_append, List.nodup_append]
   refine ⟨hh2, hnd.2.1, fun a ha b hb he => ?_⟩
   obtain ⟨p, hp, rfl⟩ := List.mem_map.1 ha
   obtain ⟨q, hq, rfl⟩ := List.mem_map.1 hb
   rcases hin p hp with ⟨r, hr, hre⟩ | hnew
   · exact hnd.2.2 _ (List.mem_map_of_mem hr) _ (List.mem_map_of_mem hq) (hre.trans he)
   · have := h.lt (p := q) (by rw [hH]; exact List.mem_append_right _ hq)
     omega
 · intro b hb
   exact (hg.ext b (by have := h.size; omega)).trans (h.ext b hb)
 · obtain ⟨h1, h2, h3, h4⟩ := h.marks D hD
   have hlt := (Array.getElem?_eq_some_iff.1 h1).1
   have hnot : D ∉ keys Hc := fun hm => h4 (by rw [hH, List.map_append]; exact List.mem_append_left _ hm)
   refine ⟨by rw [hg.old _ hlt hnot]; exact h1, (hg.ext _ hlt).trans h2, h3, fun hm => ?_⟩
   rw [List.map_append] at hm
   rcases List.mem_append.1 hm with hm | hm
   · obtain ⟨p, hp, he⟩ := List.mem_map.1 hm
     rcases hin p hp with ⟨r, hr, hre⟩ | hnew
     · exact hnot (by rw [← he, ← hre]; exact List.mem_map_of_mem hr)
     · omega
   · exact h4 (by rw [hH, List.map_append]; exact List.mem_append_right _ hm)
/-- A call that is handed all blocks of one's own. -/
theorem x_callG {d : Option Nat} {g : FuncId} {f : Operand} {cs vs : List Value} {xs : List Operand} {at_ : Array TypeId} {Hc : List (Nat × Obj)}
   {R : Value → Heap → List (Nat × Obj) → Prop} {K : Value → St → Prop} (hg : Body P g) (hf : ev e f = .func (.func g) #[] cs.toArray) (hx : Av e xs vs) (hH : σ.H = Hc)
   (hok : OkG P g (vs ++ cs).toArray σ.F Hc R) (hn : ∀ v F' H', R v F' H' → σ.F.le F' → K v ⟨F', H'⟩) :
   OpX P n B ⟨d, .call ⟨.value f, xs.toArray, at_⟩, ty, pos, af, none⟩ e σ K := by
 intro a w ha hw next Qx hnext
 unfold Oper.wp
 rw [ha.ev, run_call hg hf hx, Oper.upon_enter]
 refine (hok w hw.sub (fun p hp => ?_) ?_).mono fun r w' hq => ?_
 · obtain ⟨h1, h2, -⟩ := hw.own p (by rw [hH]; exact hp)
   exact ⟨h1, h2⟩
 · have := hw.nodup
   rw [hH] at this
   exact this
 · obtain ⟨v, F', H', rfl, hg', hh, hR⟩ := hq
   have := hw.growG (Hc := Hc) (rest := []) (by simp [hH]) hg' hh
   rw [List.append_nil] at this
   exact hnext v _ w' (hn v F' H' hR hg'.le) this
theorem WI_yG {ops : Array Oper} {Q : Exit → Env → St → Prop} {rest : List Oper} {d : Nat} {f : Operand} {l : Nat} {xs : List Operand} {vs : List Value} {at_ : Array TypeId} {Hc : List (Nat × Obj)} {R : Value → Heap → List (Nat × Obj) → Prop}
   (hd : Nat.blt d n = true) (hf : ev e f = .func (.yield l) #[] #[]) (hx : Av e xs vs) (hH : σ.H = Hc) (hok : OkYG P l vs σ.F Hc R)
   (hn : ∀ v F' H', R v F' H' → σ.F.le F' → WI P n B ops Q rest (upd e d v) ⟨F', H'⟩) : WI P n B ops Q (⟨some d, .call ⟨.value f, xs.toArray, at_⟩, ty, pos, af, none⟩ :: rest) e σ := by
 intro a w ha hw
 have hnd := hw.nodup
 rw [hH] at hnd
 obtain ⟨fn, tm, as1, bo, hy, hR⟩ := hok w hw.sub (fun p hp => ⟨(hw.own p (by rw [hH]; exact hp)).1, (hw.own p (by rw [hH]; exact hp)).2.1⟩) hnd
 unfold wpListIn
 rw [if_pos (by simp [Region.wanted])]
 refine ⟨fun _ _ => trivial, ?_⟩
 have hrun : (execOp (ev e) ⟨some d, .call ⟨.value f, xs.toArray, at_⟩, ty, pos, af, none⟩).run P w = .ok (.round l fn tm as1 bo) w := by
   have hm := hx.map
   simp [execOp, resolve, invoke, Deferred.ofValue, hf, hm, hy]
 rw [show (fence B.ro).round = B.ro from rfl, semAt_eq (.inr rfl), ha.ev, hrun]
 refine ⟨fun h => by simp [fence] at h, RoundIn.mono (F := fence B.ro) (show RoundIn (fence B.ro) 0 P l fn tm as1 bo w _ from hR) fun r w' hq => ?_⟩
 obtain ⟨v, F', H', rfl, q2, q3, q5⟩ := hq
 have h3 := hw.growG (Hc := Hc) (rest := []) (by simp [hH]) q2 q3
 rw [List.append_nil] at h3
 exact hn v F' H' q5 q2.le _ _ (ha.put (by simpa using hd) v) h3
def PostG (P : Program) (fn : Func) (B : Base) (R : Value → Heap → List (Nat × Obj) → Prop) : Exit → Env → St → Prop
 | .normal, e, σ | .ret, e, σ => ∃ rs vs F' H', fn.results = List.toArray rs ∧ Rv P e σ rs vs ∧ (∀ ds w, Holds (B.at ds) σ w → Holds (B.at ds) ⟨F', H'⟩ w) ∧ R (outOf vs) F' H'
 | _, _, _ => False
theorem OkG.intro {f : FuncId} {fn : Func} {c : Code} {args : List Value} {F : Heap} {H : List (Nat × Obj)} {R : Value → Heap → List (Nat × Obj) → Prop} (hf : P.funcs[f]? = some fn) (hb : fn.body = some c) (hn : fn.ntmps = n) (hsz : Nat.ble args.length n = true)
   (h : ∀ w, WC P n ⟨w, keys H, F, [], none⟩ c (PostG P fn ⟨w, keys H, F, [], none⟩ R) (fun t => args.getD t undef) ⟨F, H⟩) : OkG P f args.toArray F H R := by
 intro w hs hH hnd
 refine (callsIn_wide (n := 0)).1 (callsIn_of_wp_marks (F := fence none) hf hb trivial (wpIn_mono (h w [] _ _ ?_ ?_) fun x a' w' hq => ?_))
 · refine ⟨?_, rfl, fun t => ?_⟩
   · have : args.length ≤ n := by simpa using hsz
     simp [hn]; omega
   · have hl : args.length ≤ n := by simpa using hsz
     by_cases ht : t < args.length
     · simp [Array.getElem?_append_left, ht]
     · simp only [Array.getD_eq_getD_getElem?, List.getD_eq_getElem?_getD]
       rw [Array.getElem?_append_right (by simp; omega), List.getElem?_eq_none (by omega)]
       simp only [List.size_toArray, Array.getElem?_replicate]
       split <;> rfl
 · exact ⟨rfl, rfl, rfl, Nat.le_refl _, fun _ _ _ => rfl, hs, fun p hp => ⟨(hH p hp).1, (hH p hp).2, .inr (List.mem_map_of_mem hp)⟩, hnd, fun _ _ => rfl, Heap.le_refl _, (fun D hD => nomatch hD), List.nodup_nil⟩
 · obtain ⟨ds, e', σ', h1, h2, h3⟩ := hq
   have fin : ∀ rs vs F' H', fn.results = List.toArray rs → Rv P e' σ' rs vs → (∀ ds w2, Holds (Base.at ⟨w, keys H, F, [], none⟩ ds) σ' w2 → Holds (Base.at ⟨w, keys H, F, [], none⟩ ds) ⟨F', H'⟩ w2) → R (outOf vs) F' H' →
       LeavesInM (fence none) 0 P fn a'.tmps (fun r w' => ∃ v F' H', r = .returned v ∧ Grow w F (keys H) w' F' ∧ HeldG w H w' F' H' ∧ R v F' H') a'.defers .returning w' := by
     intro rs vs F' H' q1 q2 q3 q5
     rw [h1.defers]
     refine leaves_of (B := ⟨w, keys H, F, [], none⟩) ds w' h2 fun w2 hw2 => ?_
     have h2' := q3 [] w2 hw2
     exact ⟨_, results_run q1 q2 h1 hw2, _, F', H', rfl, ⟨h2'.os, h2'.tape, h2'.output, h2'.size, h2'.old, h2'.le, h2'.sub, h2'.ext⟩, ⟨fun p hp => ⟨(h2'.own p hp).1, (h2'.own p hp).2.1, (h2'.own p hp).2.2.symm⟩, h2'.nodup⟩, q5⟩
   cases x with
   | normal => obtain ⟨rs, vs, F', H', q1, q2, q3, q5⟩ := h3; exact fin rs vs F' H' q1 q2 q3 q5
   | ret => obtain ⟨rs, vs, F', H', q1, q2, q3, q5⟩ := h3; exact fin rs vs F' H' q1 q2 q3 q5
   | exit id => exact h3.elim
   | goto l => exact h3.elim
   | panic ch => exact h3.elim
   | outgrown => exact h3.elim
theorem post_retG {fn : Func} {R : Value → Heap → List (Nat × Obj) → Prop} {rs : List ResultVar} {vs : List Value} {H' : List (Nat × Obj)} (hr : fn.results = rs.toArray) (hv : Rv P e σ rs vs) (hp : Pick σ.H H') (hR : R (outOf vs) σ.F H') :
   PostG P fn B R .ret e σ := ⟨rs, vs, σ.F, H', hr, hv, fun _ _ h => h.pick hp, hR⟩
theorem post_endG {fn : Func} {R : Value → Heap → List (Nat × Obj) → Prop} {rs : List ResultVar} {vs : List Value} {H' : List (Nat × Obj)} (hr : fn.results = rs.toArray) (hv : Rv P e σ rs vs) (hp : Pick σ.H H') (hR : R (outOf vs) σ.F H') :
   PostG P fn B R .normal e σ := ⟨rs, vs, σ.F, H', hr, hv, fun _ _ h => h.pick hp, hR⟩
theorem WC_rangeFuncG {Q : Exit → Env → St → Prop} {g : Operand} {ps : Array Tmp} {assign body : Code} {gf : FuncId} {cs : List Value} (hro : B.ro = none) (hg : ev e g = .func (.func gf) #[] cs.toArray) (hb : Body P gf)
   (J : Heap → List (Nat × Obj) → Prop) (Jx : Code → Heap → List (Nat × Obj) → Prop)
   (h : ∀ L D fn tm, tm.size = n → (∀ t, tm.getD t undef = e t) → OkG P gf (.func (.yield L) #[] #[] :: cs).toArray σ.F ((L, loopO fn tm ps assign body D .ready none) :: (D, openO) :: σ.H) fun _ F' H' =>
     ∃ H1, H' = (L, loopO fn tm ps assign body D .ready none) :: (D, openO) :: H1 ∧ J F' H1 ∨ ∃ c, H' = (L, loopO fn tm ps assign body D .done (some c)) :: (D, openO) :: H1 ∧ Jx c F' H1)
   (hx : ∀ c F' H1, σ.F.le F' → Jx c F' H1 → WC P n B c Q e ⟨F', H1⟩)
   (hn : ∀ F' H1, σ.F.le F' → J F' H1 → Q .normal e ⟨F', H1⟩) : WC P n B (.rangeFunc g ps assign body) Q e σ := by
 intro ds a w ha hw
 rw [hro]
 refine wpIn_rangeFunc fun fn _ => ?_
 let W1 := (w.alloc openO).alloc (loopO fn a.tmps ps assign body w.heap.size .ready none)
 have hsz1 : (w.alloc openO).heap.size = w.heap.size + 1 := by simp
 have hW1 : Holds (B.at ds) ⟨σ.F, (w.heap.size + 1, loopO fn a.tmps ps assign body w.heap.size .ready none) :: (w.heap.size, openO) :: σ.H⟩ W1 := by
   have := (hw.alloc openO).alloc (loopO fn a.tmps ps assign body w.heap.size .ready none)
   rw [hsz1] at this
   exact this
 refine ⟨w.heap.size + 1, [mark w.heap.size], W1, { target := .fn (.func gf) cs.toArray, args := #[.func (.yield (w.heap.size + 1)) #[] #[]] }, W1, gf, (.func (.yield (w.heap.size + 1)) #[] #[] :: cs).toArray, W1, ?_, ?_, fun _ _ => trivial, ?_, fun h => by simp [fence] at h, trivial, ?_⟩
 · exact run_enterLoop_outer fn a.tmps ps assign body
 · simp only [resolve, ha.ev, hg]
   simp [go_sem]
   rfl
 · simp only [invoke]
   have := run_callFunc hb (#[.func (.yield (w.heap.size + 1)) #[] #[]] ++ cs.toArray) W1
   simpa using this
 · refine ((callsIn_fence (ro := none) (k := 0 - 1)).2 (((h (w.heap.size + 1) w.heap.size fn a.tmps ha.size ha.get) W1 hW1.sub (fun p hp => ⟨(hW1.own p hp).1, (hW1.own p hp).2.1⟩) hW1.nodup).mono ?_)).2
   rintro r W2 ⟨v, F', H', rfl, hg', hh, hR⟩
   have hw2 := hW1.growG (Hc := (w.heap.size + 1, loopO fn a.tmps ps assign body w.heap.size .ready none) :: (w.heap.size, openO) :: σ.H) (rest := []) (by simp) hg' hh
   rw [List.append_nil] at hw2
   have hD : (B.at ds).w0.heap.size ≤ w.heap.size := hw.size
   have hfit : Fits n (B.at (w.heap.size :: ds)) { a with defers := [mark w.heap.size] ++ a.defers } e := ⟨ha.size, by show [mark w.heap.size] ++ a.defers = _; rw [ha.defers]; rfl, ha.get⟩
   have fin : ∀ st pe H1, H' = (w.heap.size + 1, loopO fn a.tmps ps assign body w.heap.size st pe) :: (w.heap.size, openO) :: H1 → st ≠ .busy →
       ∃ W4, (Instr.endLoop (w.heap.size + 1)).run P W2 = .ok pe W4 ∧ Holds (B.at (w.heap.size :: ds)) ⟨F', H1⟩ W4 := by
     intro st pe H1 he hst
     subst he
     have hl := (hw2.own (w.heap.size + 1, loopO fn a.tmps ps assign body w.heap.size st pe) (by simp)).1
     refine ⟨_, run_endLoop hl hst, ?_⟩
     have h4 := hw2.setObj (i := 0) (o' := loopO fn a.tmps ps assign body w.heap.size .exhausted pe) rfl
     have h5 : Holds (B.at ds) ⟨F', (w.heap.size, openO) :: H1⟩ (W2.putObj (w.heap.size + 1) (loopO fn a.tmps ps assign body w.heap.size .exhausted pe)) := Holds.drop (σ := ⟨F', _⟩) h4 (by simp)
     exact h5.toMark hD
   obtain ⟨H1, hR | ⟨c, hR⟩⟩ := hR
   · obtain ⟨he, hJ⟩ := hR
     obtain ⟨W4, h1, h2⟩ := fin _ _ _ he (by simp)
     exact ⟨none, W4, h1, w.heap.size :: ds, e, ⟨F', H1⟩, hfit, h2, hn F' H1 hg'.le hJ⟩
   · obtain ⟨he, hJ⟩ := hR
     obtain ⟨W4, h1, h2⟩ := fin _ _ _ he (by simp)
     have := hx c F' H1 hg'.le hJ (w.heap.size :: ds) _ W4 hfit h2
     rw [hro] at this
     exact ⟨some c, W4, h1, this⟩
def RoundEG (B : Base) (L : Nat) (lo : LoopState → Option Code → Obj) (R : Value → Heap → List (Nat × Obj) → Prop) : Exit → Env → St → Prop := fun x _ σ =>
 let fin (v : Value) (st : LoopState) (pe : Option Code) := ∃ F' H2, (∀ ds w, Holds (B.at ds) σ w → Holds (B.at ds) ⟨F', (L, lo .busy none) :: H2⟩ w) ∧ R v F' ((L, lo st pe) :: H2)
 match x with
 | .normal => fin (.bool true) .ready none
 | .ret => fin (.bool false) .done (some .ret)
 | .exit id => fin (.bool false) .done (some (.exit id))
 | _ => False
theorem okY_roundG {L D : Nat} {fn : FuncId} {tm : Array Value} {ps : List Tmp} {assign body : Code} {args : List Value} {F : Heap} {H : List (Nat × Obj)} {R : Value → Heap → List (Nat × Obj) → Prop}
   (hsz : tm.size = n) (htm : ∀ t, tm.getD t undef = e t) (hlen : args.length = ps.length) (hps : (ps.zip args).all (fun p => Nat.blt p.1 n) = true)
   (h : ∀ w0, WC P n ⟨w0, L :: keys H, F, [], some L⟩ assign (thenE (fun e' σ' => ∃ H2, σ'.H = (L, loopO fn tm ps.toArray assign body D .ready none) :: H2 ∧
       WC P n ⟨w0, L :: keys H, F, [], some L⟩ body (RoundEG ⟨w0, L :: keys H, F, [], some L⟩ L (loopO fn tm ps.toArray assign body D) R) e' ⟨σ'.F, (L, loopO fn tm ps.toArray assign body D .busy none) :: H2⟩) (fun _ _ _ => False))
     (updL e (ps.zip args)) ⟨F, (L, loopO fn tm ps.toArray assign body D .ready none) :: H⟩) :
   OkYG P L args F ((L, loopO fn tm ps.toArray assign body D .ready none) :: H) R := by
 intro w hs hH hnd
 have hl := (hH (L, loopO fn tm ps.toArray assign body D .ready none) (by simp)).1
 refine ⟨fn, _, assign, body, run_yield hl (by simpa using hlen), roundIn_of_wpIn trivial ?_⟩
 have hfit := fits_fold (n := n) (B := ⟨w, L :: keys H, F, [], some L⟩) (ps.zip args) tm e hsz htm hps
 have hkeys : keys ((L, loopO fn tm ps.toArray assign body D .ready none) :: H) = L :: keys H := rfl
 have hw0 : Holds (Base.at ⟨w, L :: keys H, F, [], some L⟩ []) ⟨F, (L, loopO fn tm ps.toArray assign body D .ready none) :: H⟩ w :=
   ⟨rfl, rfl, rfl, Nat.le_refl _, fun _ _ _ => rfl, hs, fun p hp => ⟨(hH p hp).1, (hH p hp).2, .inr (List.mem_map_of_mem (f := Prod.fst) hp)⟩, hnd, fun _ _ => rfl, Heap.le_refl _, (fun D hD => nomatch hD), List.nodup_nil⟩
 have hzip : ((ps.toArray.zip args.toArray).foldl (fun tmps (t, a) => tmps.setIfInBounds t a) tm) = (ps.zip args).foldl (fun tm p => tm.setIfInBounds p.1 p.2) tm := by
   rw [show ps.toArray.zip args.toArray = (ps.zip args).toArray by simp, List.foldl_toArray]
 refine wpIn_mono (h w [] _ w ⟨?_, rfl, ?_⟩ hw0) ?_
 · show ((ps.toArray.zip args.toArray).foldl (fun tmps (t, a) => tmps.setIfInBounds t a) tm).size = n
   rw [hzip]; exact hfit.1
 · intro t
   show ((ps.toArray.zip args.toArray).foldl (fun tmps (t, a) => tmps.setIfInBounds t a) tm).getD t undef = _
   rw [hzip]; exact hfit.2 t
 · rintro x a1 w1 ⟨ds1, e1, σ1, hf1, hh1, hq⟩
   cases x with
   | normal =>
     obtain ⟨H2, hσ, hbody⟩ := hq
     have hh1' : Holds (Base.at ⟨w, L :: keys H, F, [], some L⟩ ds1) ⟨σ1.F, (L, loopO fn tm ps.toArray assign body D .ready none) :: H2⟩ w1 := by rw [← hσ]; exact hh1
     have hl1 := (hh1'.own (L, loopO fn tm ps.toArray assign body D .ready none) (by simp)).1
     refine ⟨_, run_beginRound hl1 rfl, ?_⟩
     have hset := hh1'.setObj (i := 0) (o' := loopO fn tm ps.toArray assign body D .busy none) rfl
     refine wpIn_mono (hbody ds1 a1 _ hf1 hset) ?_
     rintro x a2 w2 ⟨ds2, e2, σ2, hf2, hh2, hq2⟩
     have fin : ∀ (v : Value) (st : LoopState) (pe : Option Code), (v = .bool pe.isNone ∧ st = if pe.isNone then .ready else .done) → (∃ F' H2, (∀ ds w', Holds (Base.at ⟨w, L :: keys H, F, [], some L⟩ ds) σ2 w' → Holds (Base.at ⟨w, L :: keys H, F, [], some L⟩ ds) ⟨F', (L, loopO fn tm ps.toArray assign body D .busy none) :: H2⟩ w') ∧ R v F' ((L, loopO fn tm ps.toArray assign body D st pe) :: H2)) →
         ∃ v' w', (Instr.endRound L pe).run P w2 = .ok v' w' ∧ ∃ v F' H', Ending.returned v' = .returned v ∧ Grow w F (L :: keys H) w' F' ∧ HeldG w ((L, loopO fn tm ps.toArray assign body D .ready none) :: H) w' F' H' ∧ R v F' H' := by
       rintro v st pe ⟨rfl, rfl⟩ ⟨F', H3, q1, q3⟩
       have h3 := q1 ds2 w2 hh2
       have hl3 := (h3.own (L, loopO fn tm ps.toArray assign body D .busy none) (by simp)).1
       have h4 := h3.setObj (i := 0) (o' := loopO fn tm ps.toArray assign body D (if pe.isNone then .ready else .done) pe) rfl
       exact ⟨_, _, run_endRound pe hl3, _, F', (L, loopO fn tm ps.toArray assign body D (if pe.isNone then .ready else .done) pe) :: H3, rfl, ⟨h4.os, h4.tape, h4.output, h4.size, h4.old, h4.le, h4.sub, h4.ext⟩, ⟨fun p hp => ⟨(h4.own p hp).1, (h4.own p hp).2.1, (h4.own p hp).2.2.symm⟩, h4.nodup⟩, q3⟩
     cases x with
     | normal => exact fin (.bool true) .ready none ⟨rfl, rfl⟩ hq2
     | ret => exact fin (.bool false) .done (some .ret) ⟨rfl, rfl⟩ hq2
     | exit id => exact fin (.bool false) .done (some (.exit id)) ⟨rfl, rfl⟩ hq2
     | goto l => exact hq2.elim
     | panic ch => exact hq2.elim
     | outgrown => exact hq2.elim
   | exit id => exact hq.elim
   | goto l => exact hq.elim
   | ret => exact hq.elim
   | panic ch => exact hq.elim
   | outgrown => exact hq.elim
def IterG {α : Type} (P : Program) (gf : FuncId) (cs : List Value) (F0 : Heap) (A : α → Heap → List Value → Prop) (xs : List α) : Prop :=
 ∀ (L : Nat) (J : List α → Heap → List (Nat × Obj) → Prop) (Jx : Heap → List (Nat × Obj) → Prop) (F : Heap) (H : List (Nat × Obj)), F0.le F →
   (∀ pre F F' H, F.le F' → J pre F H → J pre F' H) → (∀ F F' H, F.le F' → Jx F H → Jx F' H) →
   (∀ pre x rest F H vs, xs = pre ++ x :: rest → F0.le F → J pre F H → A x F vs → OkYG P L vs F H fun v F' H' => v = .bool true ∧ J (pre ++ [x]) F' H' ∨ v = .bool false ∧ Jx F' H') →
   J [] F H → OkG P gf (.func (.yield L) #[] #[] :: cs).toArray F H fun _ F' H' => J xs F' H' ∨ Jx F' H'
theorem WC_rangeG {α : Type} {Q : Exit → Env → St → Prop} {g : Operand} {ps : List Tmp} {assign body : Code} {gf : FuncId} {cs : List Value} {F0 : Heap} {A : α → Heap → List Value → Prop} {xs : List α}
   (hro : B.ro = none) (hg : ev e g = .func (.func gf) #[] cs.toArray) (hb : Body P gf) (hit : IterG P gf cs F0 A xs) (hF : F0.le σ.F)
   (J : List α → Heap → List (Nat × Obj) → Prop) (Jx : Code → Heap → List (Nat × Obj) → Prop) (hm : ∀ pre F F' H, F.le F' → J pre F H → J pre F' H) (hmx : ∀ c F F' H, F.le F' → Jx c F H → Jx c F' H)
   (h0 : J [] σ.F σ.H)
   (hround : ∀ L D fn tm pre x rest G H1 vs, xs = pre ++ x :: rest → σ.F.le G → J pre G H1 → A x G vs → vs.length = ps.length ∧ (ps.zip vs).all (fun p => Nat.blt p.1 n) = true ∧
     ∀ w0, WC P n ⟨w0, L :: D :: keys H1, G, [], some L⟩ assign (thenE (fun e' σ' => ∃ H2, σ'.H = (L, loopO fn tm ps.toArray assign body D .ready none) :: H2 ∧
       WC P n ⟨w0, L :: D :: keys H1, G, [], some L⟩ body (RoundEG ⟨w0, L :: D :: keys H1, G, [], some L⟩ L (loopO fn tm ps.toArray assign body D) (RoundR σ.F L D (loopO fn tm ps.toArray assign body D) J Jx (pre ++ [x]))) e' ⟨σ'.F, (L, loopO fn tm ps.toArray assign body D .busy none) :: H2⟩) (fun _ _ _ => False))
     (updL e (ps.zip vs)) ⟨G, (L, loopO fn tm ps.toArray assign body D .ready none) :: (D, openO) :: H1⟩)
   (hx : ∀ c F' H1, σ.F.le F' → Jx c F' H1 → WC P n B c Q e ⟨F', H1⟩)
   (hn : ∀ F' H1, σ.F.le F' → J xs F' H1 → Q .normal e ⟨F', H1⟩) : WC P n B (.rangeFunc g ps.toArray assign body) Q e σ := by
 refine WC_rangeFuncG hro hg hb (J xs) Jx (fun L D fn tm hsz htm => ?_) hx hn
 refine OkG.mono (hit L (fun pre F H => σ.F.le F ∧ ∃ H1, H = (L, loopO fn tm ps.toArray assign body D .ready none) :: (D, openO) :: H1 ∧ J pre F H1)
   (fun F H => σ.F.le F ∧ ∃ c H1, H = (L, loopO fn tm ps.toArray assign body D .done (some c)) :: (D, openO) :: H1 ∧ Jx c F H1) σ.F _ hF ?_ ?_ ?_ ⟨Heap.le_refl _, _, rfl, h0⟩) ?_
 · rintro pre F F' H hFF ⟨h1, H1, h2, h3⟩
   exact ⟨Heap.le_trans h1 hFF, H1, h2, hm _ _ _ _ hFF h3⟩
 · rintro F F' H hFF ⟨h1, c, H1, h2, h3⟩
   exact ⟨Heap.le_trans h1 hFF, c, H1, h2, hmx _ _ _ _ hFF h3⟩
 · rintro pre x rest G H vs hxs hG ⟨h1, H1, rfl, h3⟩ hA
   obtain ⟨q1, q2, q3⟩ := hround L D fn tm pre x rest G H1 vs hxs h1 h3 hA
   refine (okY_roundG (R := RoundR σ.F L D (loopO fn tm ps.toArray assign body D) J Jx (pre ++ [x])) hsz htm q1 q2 q3).mono fun v F' H' _ hR => ?_
   rcases hR with ⟨rfl, H2, k1, k2, k3⟩ | ⟨rfl, c, H2, k1, k2, k3⟩
   · exact .inl ⟨rfl, k2, H2, k1, k3⟩
   · exact .inr ⟨rfl, k2, c, H2, k1, k3⟩
 · rintro v F' H' _ (⟨h1, H1, rfl, h3⟩ | ⟨h1, c, H1, rfl, h3⟩)
   · exact ⟨H1, .inl ⟨rfl, h3⟩⟩
   · exact ⟨H1, .inr ⟨c, rfl, h3⟩⟩
theorem round_nG {L D : Nat} {lo : LoopState → Option Code → Obj} {R : Value → Heap → List (Nat × Obj) → Prop} {H2 : List (Nat × Obj)} (hp : PickB σ.H ((L, lo .busy none) :: (D, openO) :: H2)) (hR : R (.bool true) σ.F ((L, lo .ready none) :: (D, openO) :: H2)) : RoundEG B L lo R .normal e σ :=
 ⟨σ.F, _, fun _ _ h => h.pickB hp, hR⟩
theorem WL_orderB {ops : Array Oper} {Q : Exit → Env → St → Prop} {l : List Oper} {H' : List (Nat × Obj)} (hp : PickB σ.H H') (h : WL P n B ops Q l e ⟨σ.F, H'⟩) : WL P n B ops Q l e σ := WL_imp (fun _ hw => hw.pickB hp) h
/-- A block's content is given a name. -/
theorem WC_name {c : Code} {Q : Exit → Env → St → Prop} {i b : Nat} {o : Obj} {Hf : Obj → List (Nat × Obj)} (hi : σ.H[i]? = some (b, o)) (hH : ∀ oL, SetL σ.H i (b, oL) (Hf oL))
   (h : ∀ oL, oL = o → WC P n B c Q e ⟨σ.F, Hf oL⟩) : WC P n B c Q e σ := by
 have h1 := h o rfl
 have h2 : Hf o = σ.H := by
   rw [(hH o).eq.1]
   apply List.ext_getElem?
   intro j
   rw [List.getElem?_set]
   split
   · rename_i hj; subst hj
     split
     · exact hi.symm
     · rename_i hn; exact absurd (List.getElem?_eq_some_iff.1 hi).1 hn
   · rfl
 rw [h2] at h1
 exact h1
theorem Cell.joined {w : World} (hw : Holds B σ w) {a : Addr} {v : Value} (h : Cell σ a v) : Cell ⟨Go.Proofs.Ytaikojfonleccaa.joined σ, []⟩ a v := by
 obtain ⟨hs, c, T, fr, hc, hv⟩ := h
 refine ⟨hs, c, T, fr, ?_, hv⟩
 rcases hc with hc | hc
 · exact .inl (joined_le hw _ _ hc)
 · exact .inl (joined_own hw hc)
theorem Src.joined {w : World} (hw : Holds B σ w) {v : Value} {k s : Nat} {cs : List Value} (h : Src σ v k cs s) : Src ⟨Go.Proofs.Ytaikojfonleccaa.joined σ, []⟩ v k cs s := by
 obtain ⟨h1, h2, a, c, h3, h4, h5⟩ := h
 exact ⟨h1, h2, a, c, h3, h4, fun x hx => ⟨(h5 x hx).1, fun j u hj => ((h5 x hx).2 j u hj).joined hw⟩⟩
/-- 'append' onto a slice that is full: a new row, ahead of all others, that is nobody's. -/
theorem x_appendF2 {T E s bytes : Nat} {x y : Operand} {z v u : Value} {k m : Nat} {cs news : List Value} {K : Value → St → Prop} {d : Option Nat} {gd : Option (Nat × Bool)} (hT : SliceT P T E s) (hE : ElemT P E s bytes z)
   (hx : ev e x = v) (hv : Src σ v k cs s) (hfull : ∃ a, v = .slice a k k) (hm : 0 < m) (hy : ev e y = u) (hsrc : Src σ u m news s) (hroom : (k + m) * bytes ≤ 140737488355328) (hk : k + m ≤ 9223372036854775807)
   (hn : ∀ v' R', Own E s v' (k + m) (cs ++ news) R' → (∀ p ∈ R', B.w0.heap.size ≤ p.1) → K v' ⟨σ.F, R' ++ σ.H⟩) :
   OpX P n B ⟨d, .call ⟨.builtin .append, #[x, y], #[T, T]⟩, ty, pos, af, gd⟩ e σ K := .run fun w hw => by
 have hw0 : Holds ⟨w, [], joined σ, [], none⟩ ⟨joined σ, []⟩ w := ⟨rfl, rfl, rfl, Nat.le_refl _, fun _ _ _ => rfl, joined_sub hw, (fun p hp => nomatch hp), List.nodup_nil, fun _ _ => rfl, Heap.le_refl _, (fun D hD => nomatch hD), List.nodup_nil⟩
 obtain ⟨v', w', R', e1, e2, e3⟩ := run_append_full (P := P) (ty := ty) (A := []) (C := []) hT hE hw0 (hv.joined hw) hfull hm (hsrc.joined hw) rfl hroom hk
 have hrun : (execOp (ev e) ⟨d, .call ⟨.builtin .append, #[x, y], #[T, T]⟩, ty, pos, af, gd⟩).run P w = .ok (.value v') w' := by
   simp [execOp, resolve, invoke, builtin, hx, hy, e1]
 simp only [List.nil_append, List.append_nil] at e2
 have hold : ∀ b, b < w.heap.size → w'.heap[b]? = w.heap[b]? := fun b hb => e2.old b hb (by simp)
 have hnew : ∀ p ∈ R', w.heap.size ≤ p.1 := fun p hp => (e2.own p hp).2.2.resolve_right (by simp)
 refine ⟨v', w', _, .inl hrun, ?_, hn v' R' e3 fun p hp => Nat.le_trans hw.size (hnew p hp)⟩
 refine ⟨e2.os.trans hw.os, e2.tape.trans hw.tape, e2.output.trans hw.output, Nat.le_trans hw.size e2.size, fun b hb hM => ?_, fun b o hb => ?_, fun p hp => ?_, ?_, hw.ext, hw.le, fun D hD => ?_, hw.dnodup⟩
 · rw [hold b (by have := hw.size; omega)]; exact hw.old b hb hM
 · have := hw.sub b o hb
   rw [hold b (Array.getElem?_eq_some_iff.1 this).1]; exact this
 · rcases List.mem_append.1 hp with hp | hp
   · obtain ⟨h1, h2, -⟩ := e2.own p hp
     refine ⟨h1, ?_, .inl (Nat.le_trans hw.size (hnew p hp))⟩
     cases hb : σ.F p.1 with
     | none => rfl
     | some o =>
       have := (Array.getElem?_eq_some_iff.1 (hw.sub _ _ hb)).1
       have := hnew p hp
       omega
   · obtain ⟨h1, h2, h3⟩ := hw.own p hp
     exact ⟨by rw [hold _ (hw.lt hp)]; exact h1, h2, h3⟩
 · rw [List.map_append, List.nodup_append]
   refine ⟨e2.nodup, hw.nodup, fun a ha b hb he => ?_⟩
   obtain ⟨p, hp, rfl⟩ := List.mem_map.1 ha
   obtain ⟨q, hq, rfl⟩ := List.mem_map.1 hb
   have h1 := hnew p hp
   have h2 := hw.lt hq
   omega
 · obtain ⟨h1, h2, h3, h4⟩ := hw.marks D hD
   have hlt := (Array.getElem?_eq_some_iff.1 h1).1
   refine ⟨by rw [hold _ hlt]; exact h1, h2, h3, fun hm => ?_⟩
   rw [List.map_append] at hm
   rcases List.mem_append.1 hm with hm | hm
   · obtain ⟨p, hp, he⟩ := List.mem_map.1 hm
     have := hnew p hp
     omega
   · exact h4 hm
theorem Holds.freezeF {w : World} (hw : Holds B σ w) {E s k : Nat} {v : Value} {cs : List Value} {R C : List (Nat × Obj)} (hfr : ∀ p ∈ R, B.w0.heap.size ≤ p.1) (hown : Own E s v k cs R) (hH : σ.H = R ++ C) :
   ∃ F', σ.F.le F' ∧ (∀ p ∈ R, F' p.1 = some p.2) ∧ Holds B ⟨F', C⟩ w := by
 match R, hown with
 | [], _ =>
   have hs : σ = ⟨σ.F, C⟩ := by cases σ with | mk F H => simp only at hH; rw [hH]; simp
   exact ⟨σ.F, Heap.le_refl _, by simp, by rw [← hs]; exact hw⟩
 | [(b, o)], _ =>
   have hi : σ.H[0]? = some (b, o) := by rw [hH]; simp
   have hm := hw.own _ (List.mem_of_getElem? hi)
   have hfz := hw.freeze hi (hfr (b, o) (by simp))
   have herase : σ.H.eraseIdx 0 = C := by rw [hH]; simp
   rw [herase] at hfz
   exact ⟨_, grown_le hm.2.1, fun p hp => by simp at hp; subst hp; exact Ew, hfz⟩
theorem WX_freezeF {ops : Array Oper} {Q : Exit → Env → St → Prop} {σS : St} {ts : List Nat} {fuel : Nat} {listed : Array Bool} {E s k : Nat} {v : Value} {cs : List Value} {R C : List (Nat × Obj)} (hfr : ∀ p ∈ R, B.w0.heap.size ≤ p.1) (hown : Own E s v k cs R) (hH : σ.H = R ++ C)
   (h : ∀ F', σ.F.le F' → (∀ p ∈ R, F' p.1 = some p.2) → WX P n B ops Q σS ts fuel listed e ⟨F', C⟩) : WX P n B ops Q σS ts fuel listed e σ := fun h1 h2 a w ha hw => by
 obtain ⟨F', k1, k2, k3⟩ := hw.freezeF hfr hown hH
 exact h F' k1 k2 h1 h2 a w ha k3
end
end Go.Proofs.Ytaikojfonleccaa
namespace Go.Proofs.Ytaikojfonleccaa
open Go.RowKit
theorem bd_109 : Body Try.prog 109 := Br (by kernel_rfl)
theorem one_116 : OneT Try.prog 116 := Dj (by kernel_rfl)
theorem one_165 : OneT Try.prog 165 := Dj (by kernel_rfl)
theorem one_79 : OneT Try.prog 79 := Dj (by kernel_rfl)
structure NextC (L : Nat) (F : Heap) (b d3 d4 d5 d6 many : Nat) : Prop where
 many : F d3 = some (bx 3 [.int .i64 (many : Int)])
 yield : F d4 = some (bx 79 [.func (.yield L) #[] #[]])
 me : F d5 = some (bx 116 [.pointer (some ⟨b, 0, none⟩)])
 next : F d6 = some (bx 165 [.func (.func 109) #[] #[.pointer (some ⟨d3, 0, none⟩), .pointer (some ⟨d4, 0, none⟩), .pointer (some ⟨d5, 0, none⟩), .pointer (some ⟨d6, 0, none⟩)]])
theorem NextC.mono {L : Nat} {F F' : Heap} {b d3 d4 d5 d6 many : Nat} (h : NextC L F b d3 d4 d5 d6 many) (hF : F.le F') : NextC L F' b d3 d4 d5 d6 many := ⟨hF _ _ h.many, hF _ _ h.yield, hF _ _ h.me, hF _ _ h.next⟩
abbrev RingA (l : List Nat) (G : Heap) (vs : List Value) : Prop := ∃ (v : Value) (set : Nat), vs = [v, .int .i64 (set : Int)] ∧ Nats G v l ∧ set < 64 ∧ SetOf set (castL l)
def YieldOk (P : Program) (L : Nat) (F0 : Heap) (xs : List (List Nat)) (J : List (List Nat) → Heap → List (Nat × Obj) → Prop) (Jx : Heap → List (Nat × Obj) → Prop) : Prop :=
 ∀ pre x rest F H vs, xs = pre ++ x :: rest → F0.le F → J pre F H → RingA x F vs → OkYG P L vs F H fun v F' H' => v = .bool true ∧ J (pre ++ [x]) F' H' ∨ v = .bool false ∧ Jx F' H'
def NextOk (s : Sale) (L : Nat) (F0 : Heap) (xs : List (List Nat)) (J : List (List Nat) → Heap → List (Nat × Obj) → Prop) (Jx : Heap → List (Nat × Obj) → Prop) (vs vb vl vn vd : Value) (b kb d3 d4 d5 d6 many r : Nat) : Prop :=
 ∀ {F : Heap} {H : List (Nat × Obj)} {vr : Value} {ring : List Nat} {set from_ : Nat} {pre rest : List (List Nat)}, F0.le F → AucX 156 F b vs vb vl vn vd kb s → NextC L F b d3 d4 d5 d6 many → Nats F vr ring → ring.length + r = many → from_ ≤ s.bidders.length → set < 64 → SetOf set (castL ring) →
   xs = pre ++ (listsR r from_ s.bidders.length).map (ring ++ ·) ++ rest → J pre F H →
   OkG Try.prog 109 [vr, .int .i64 (set : Int), .int .i64 (from_ : Int), .pointer (some ⟨d3, 0, none⟩), .pointer (some ⟨d4, 0, none⟩), .pointer (some ⟨d5, 0, none⟩), .pointer (some ⟨d6, 0, none⟩)].toArray F H fun v F' H' => v = .bool true ∧ J (pre ++ (listsR r from_ s.bidders.length).map (ring ++ ·)) F' H' ∨ v = .bool false ∧ Jx F' H'
theorem castL_append {l : List Nat} {k : Nat} : castL (l ++ [k]) = castL l ++ [(k : Int)] := by simp [castL]
theorem lists_zero {lo hi : Nat} {ring : List Nat} : (listsR 0 lo hi).map (ring ++ ·) = [ring] := by simp [listsR]
theorem map_cons_app {ring : List Nat} {k : Nat} (l : List (List Nat)) : (l.map (k :: ·)).map (ring ++ ·) = l.map ((ring ++ [k]) ++ ·) := by simp [List.map_map]
set_option maxRecDepth 100000 in
theorem next_nil {s : Sale} (_hv : ValidS s) {L : Nat} {F0 : Heap} {xs : List (List Nat)} {J : List (List Nat) → Heap → List (Nat × Obj) → Prop} {Jx : Heap → List (Nat × Obj) → Prop} {vs vb vl vn vd : Value} {b kb d3 d4 d5 d6 many : Nat}
   (_hm : ∀ pre F F' H, F.le F' → J pre F H → J pre F' H) (_hmx : ∀ F F' H, F.le F' → Jx F H → Jx F' H) (hy : YieldOk Try.prog L F0 xs J Jx) (_hmany : many ≤ 6) : NextOk s L F0 xs J Jx vs vb vl vn vd b kb d3 d4 d5 d6 many 0 := by
 intro F RH vr ring set from_ pre rest hF hX hC hl hlen hfrom hset hsof hxs hJ
 refine OkG.intro Try.func109 rfl Try.ntmps109 rfl fun w0 => ?_
 have hlen9 := hl.plain.lt
 refine Af <| Ai fun ds => Aa rfl (Ae Ab) ?_
 refine Ah <| Ad <| Af <| Af <| Ai fun ds => Aa rfl (Ag (Al rfl <| Ak rfl)) ?_
 refine Aa rfl (Bf Bs (Ac) hl.plain) ?_
 refine Aa rfl (Aq Bd (Ap rfl <| Al rfl <| Ak rfl) (CellF.own hC.many rfl).cell) ?_
 refine Aa rfl (B9 (Al rfl <| Ac) (Ac)) ?_
 refine Ah <| Ad <| Ar (Ac) (decide_eq_true (by omega)) ?_
 refine Af <| WC_regionI fun ds => WI_q rfl rfl (Aq one_79 (Ay rfl <| Al rfl <| Ak rfl) (CellF.own hC.yield rfl).cell) ?_
 refine WI_q rfl rfl (Ag (Ay rfl <| Ap rfl <| Ak rfl)) ?_
 refine WI_q rfl rfl (Ag (Ay rfl <| Ap rfl <| Al rfl <| Ak rfl)) ?_
 refine WI_yG rfl (Ap rfl <| Ac) (.cons (Al rfl <| Ac) (.cons (Ac) .nil)) rfl (hy pre ring rest _ _ _ (by rw [hxs, lists_zero]; simp) hF hJ ⟨_, _, rfl, hl, hset, hsof⟩) fun v5 F6 RH9 hr7 hF8 => ?_
 have hyb := hr7
 refine WI_q rfl rfl (Ae (Ac)) ?_
 refine WI_nil ?_
 refine Ad <| A5 <| A7 ?_
 refine post_retG rfl (.tmp (Ac) .nil) .all ?_
 rw [lists_zero]
 exact hyb
set_option maxRecDepth 100000 in
theorem next_step {s : Sale} (hv : ValidS s) {L : Nat} {F0 : Heap} {xs : List (List Nat)} {J : List (List Nat) → Heap → List (Nat × Obj) → Prop} {Jx : Heap → List (Nat × Obj) → Prop} {vs vb vl vn vd : Value} {b kb d3 d4 d5 d6 many : Nat}
   (hm : ∀ pre F F' H, F.le F' → J pre F H → J pre F' H) (_hmx : ∀ F F' H, F.le F' → Jx F H → Jx F' H) (_hy : YieldOk Try.prog L F0 xs J Jx) (hmany : many ≤ 6) {r : Nat} (ih : NextOk s L F0 xs J Jx vs vb vl vn vd b kb d3 d4 d5 d6 many r) : NextOk s L F0 xs J Jx vs vb vl vn vd b kb d3 d4 d5 d6 many (r + 1) := by
 intro F RH vr ring set from_ pre rest hF hX hC hl hlen hfrom hset hsof hxs hJ
 refine OkG.intro Try.func109 rfl Try.ntmps109 rfl fun w0 => ?_
 have hlen9 := hl.plain.lt
 have hnb := hv.nb
 have hL2 := hX.sale.bidders.plain.lt
 refine Af <| Ai fun ds => Aa rfl (Ae Ab) ?_
 refine Ah <| Ad <| Af <| Af <| Ai fun ds => Aa rfl (Ag (Al rfl <| Ak rfl)) ?_
 refine Aa rfl (Bf Bs (Ac) hl.plain) ?_
 refine Aa rfl (Aq Bd (Ap rfl <| Al rfl <| Ak rfl) (CellF.own hC.many rfl).cell) ?_
 refine Aa rfl (B9 (Al rfl <| Ac) (Ac)) ?_
 refine Ah <| Ad <| Am (Ac) (decide_eq_false (by omega)) ?_
 refine Ax <| Ad <| Af <| Af <| Ai fun ds => Aa rfl (Ag (Ay rfl <| Al rfl <| Ak rfl)) ?_
 refine Aa rfl (Ae (Ac)) ?_
 refine Ah <| Ad <| A4 <| B4 [10, 11, 21, 22, 23, 24, 25, 26, 27, 28, 29, 30, 31, 32, 33, 34, 35, 36, 37, 38, 39, 40, 41, 42, 43, 44, 45, 46, 47, 48] (fun m e σ => ∃ G RH', F0.le G ∧ F.le G ∧ ∃ j : Nat, m + j = s.bidders.length - from_ ∧ e 11 = .int .i64 ((from_ + j : Nat) : Int) ∧ J (pre ++ (listsTo r from_ s.bidders.length j).map (ring ++ ·)) G RH' ∧ σ = ⟨G, RH'⟩) (s.bidders.length - from_) ?_ ?_
 · exact ⟨_, _, hF, Heap.le_refl _, 0, by omega, (Ac), by simpa [listsTo] using hJ, rfl⟩
 ·
  rintro m e _ ⟨G, RH', hG, hFG, j, hm1, hs11, hJ, rfl⟩; replace hX := hX.mono hFG; replace hC := hC.mono hFG; replace hl := hl.mono hFG
  by_cases hlt : from_ + j < s.bidders.length
  ·
   refine Af <| Af <| Ai fun ds => Aa rfl (Ag (Au rfl hs11)) ?_
   refine Aa rfl (Aq one_116 (Al rfl <| Ao rfl <| Ay rfl <| Ap rfl <| Al rfl <| Ak rfl) (CellF.own hC.me rfl).cell) ?_
   refine Aa rfl (Bu (Ac)) ?_
   refine Aa rfl (Aj E4 (Ac)) ?_
   refine Aa rfl (Aj C7 (Ac)) ?_
   refine Aa rfl (Aq Cx (Ac) (CellF.own hX.blk rfl).cell) ?_
   refine Aa rfl (Bf Cr (Ac) hX.sale.bidders.plain) ?_
   refine Aa rfl (B0 (Ay rfl <| Ap rfl <| Ac) (Ac)) ?_
   refine Ah <| Ad <| Ar (Ac) (by first | rfl | exact decide_eq_true (by omega)) ?_
   have hb6 : from_ + j < 6 := by omega
   have hbp := pow_lt hb6
   obtain ⟨rest1, hsp⟩ := listsTo_split (m := r) (lo := from_) (hi := s.bidders.length) (j := j) (by omega)
   refine Ax <| Ad <| Af <| A4 <| Af <| Er (.inl rfl) (fun _ _ h => h) (List.nil_sublist _) [16, 17] (by kernel_rfl) fun ds => ?_
   refine Bi 0 rfl (by kernel_rfl) (by kernel_rfl) (by kernel_rfl) (by kernel_rfl) rfl rfl (fun _ h => h.drop (List.nil_sublist _)) (fun _ _ _ h => h) (Aq one_165 (Ba rfl <| Ao rfl <| Ay rfl <| Ap rfl <| Al rfl <| Ak rfl) (CellF.own hC.next rfl).cell) ?_
   refine Bi 1 rfl (by kernel_rfl) (by kernel_rfl) (by kernel_rfl) (by kernel_rfl) rfl rfl (fun _ h => h.drop (List.nil_sublist _)) (fun _ _ _ h => h) (Ag (Ba rfl <| Al rfl <| Ao rfl <| Ay rfl <| Ap rfl <| Al rfl <| Ak rfl)) ?_
   refine Bi 2 rfl (by kernel_rfl) (by kernel_rfl) (by kernel_rfl) (by kernel_rfl) rfl rfl (fun _ h => h.drop (List.nil_sublist _)) (fun _ _ _ h => h) (Ag (Ba rfl <| Ap rfl <| Ao rfl <| Ay rfl <| Ap rfl <| Al rfl <| Ak rfl)) ?_
   refine Bi 3 rfl (by kernel_rfl) (by kernel_rfl) (by kernel_rfl) (by kernel_rfl) rfl rfl (fun _ h => h.drop (List.nil_sublist _)) (fun _ _ _ h => h) (Bf Bs (Ac) hl.plain) ?_
   refine Bi 4 rfl (by kernel_rfl) (by kernel_rfl) (by kernel_rfl) (by kernel_rfl) rfl rfl (fun _ h => h.drop (List.nil_sublist _)) (fun _ _ _ h => h) (Ag (Ba rfl <| Ay rfl <| Ao rfl <| Ay rfl <| Ap rfl <| Al rfl <| Ak rfl)) ?_
   refine Bi 5 rfl (by kernel_rfl) (by kernel_rfl) (by kernel_rfl) (by kernel_rfl) rfl rfl (fun _ h => h.drop (List.nil_sublist _)) (fun _ _ _ h => h) (Bf Bs (Ac) hl.plain) ?_
   refine Bi 6 rfl (by kernel_rfl) (by kernel_rfl) (by kernel_rfl) (by kernel_rfl) rfl rfl (fun _ h => h.drop (List.nil_sublist _)) (fun _ _ _ h => h) (q_slice3 Bs (Ay rfl <| Ac) hl.plain (Ap rfl <| Ac) rfl (Ac) rfl) ?_
   refine Bi 7 rfl (by kernel_rfl) (by kernel_rfl) (by kernel_rfl) (by kernel_rfl) rfl rfl (fun _ h => h.drop (List.nil_sublist _)) (fun _ _ _ h => h) (Ag (Ba rfl <| Ay rfl <| Ap rfl <| Al rfl <| Au rfl hs11)) ?_
   refine Bi 10 rfl (by kernel_rfl) (by kernel_rfl) (by kernel_rfl) (by kernel_rfl) rfl rfl (fun _ h => h.drop (List.nil_sublist _)) (fun _ _ _ h => h) (Ag (Bb rfl <| Ao rfl <| Ay rfl <| Ap rfl <| Al rfl <| Ak rfl)) ?_
   refine Bi 11 rfl (by kernel_rfl) (by kernel_rfl) (by kernel_rfl) (by kernel_rfl) rfl rfl (fun _ h => h.drop (List.nil_sublist _)) (fun _ _ _ h => h) (Ag (Bb rfl <| Al rfl <| Au rfl hs11)) ?_
   refine Bi 12 rfl (by kernel_rfl) (by kernel_rfl) (by kernel_rfl) (by kernel_rfl) rfl rfl (fun _ h => h.drop (List.nil_sublist _)) (fun _ _ _ h => h) (q_shl Ab (Ac) (k := from_ + j) rfl (by omega) (show (1 : Int) * 2 ^ (from_ + j) = ((2 ^ (from_ + j) : Nat) : Int) by simp) (Int.le_trans (by decide) (Int.natCast_nonneg _)) (by omega)) ?_
   refine Bi 13 rfl (by kernel_rfl) (by kernel_rfl) (by kernel_rfl) (by kernel_rfl) rfl rfl (fun _ h => h.drop (List.nil_sublist _)) (fun _ _ _ h => h) (q_or (Ap rfl <| Ac) (Ac) (m := set) (k := 2 ^ (from_ + j)) rfl rfl (by omega) (by omega) rfl) ?_
   refine Bi 14 rfl (by kernel_rfl) (by kernel_rfl) (by kernel_rfl) (by kernel_rfl) rfl rfl (fun _ h => h.drop (List.nil_sublist _)) (fun _ _ _ h => h) (Ag (Bb rfl <| Ay rfl <| Au rfl hs11)) ?_
   refine Bi 15 rfl (by kernel_rfl) (by kernel_rfl) (by kernel_rfl) (by kernel_rfl) rfl rfl (fun _ h => h.drop (List.nil_sublist _)) (fun _ _ _ h => h) (B3 (Ac) Ab (show ((from_ + j : Nat) : Int) + 1 = ((from_ + j + 1 : Nat) : Int) by omega) (by omega) (by omega)) ?_
   refine Dd 8 rfl (by kernel_rfl) rfl (Bz Bs C3 rfl (.cons (Ay rfl <| Ap rfl <| Ac) .nil) rfl rfl (by decide) (by simp [Value.oneCell']) fun b2 hb2 nb2 => ⟨fun _ _ => (fun _ h => h.drop (List.nil_sublist _)), ?_⟩)
   refine Dd 9 rfl (by kernel_rfl) rfl (x_appendF2 Bs el_3 (Ba rfl <| Ac) (hl.clip.src (fun _ => rfl) natE_one) (clip_full hl.plain) (by decide) (Ac) (Ea (s := 1) 0 rfl rfl (by simp [Value.oneCell'])) (by omega) (by omega) fun v3 R4 ho5 hfr => ⟨fun _ _ => (fun _ h => h.drop (List.nil_sublist _)), ?_⟩)
   have ho2 := ho5.snoc (x := from_ + j) rfl rfl
   refine WX_freezeF hfr ho2 rfl fun F6 hF7 hz8 => ?_
   replace hX := hX.mono hF7
   replace hC := hC.mono hF7
   replace hG := Heap.le_trans hG hF7
   replace hFG := Heap.le_trans hFG hF7
   replace hJ := hm _ _ _ _ hF7 hJ
   have hn2 := ho2.sl (fun _ => rfl) hz8 (by simp only [List.length_append, List.length_singleton]; omega)
   refine WX_orderB (.lastb (.next <| .last)) ?_
   refine Dd 16 rfl (by kernel_rfl) rfl (x_callG bd_109 (Ba rfl <| Ay rfl <| Ap rfl <| Al rfl <| Ac) (.cons (Ac) (.cons (Ay rfl <| Ac) (.cons (Ap rfl <| Ac) .nil))) rfl (ih (pre := pre ++ (listsTo r from_ s.bidders.length j).map (ring ++ ·)) (rest := rest1.map (ring ++ ·) ++ rest) hG hX hC hn2 (by simp only [List.length_append, List.length_singleton]; omega) (by omega) (mask_lt hset hb6) (by rw [castL_append]; exact mask_orI hsof) (by rw [hxs, hsp]; simp) hJ) fun v9 F10 H13 hr11 hF12 => ⟨(fun h => nomatch h), ?_⟩)
   replace hG := Heap.le_trans hG hF12
   replace hFG := Heap.le_trans hFG hF12
   replace hJ := hm _ _ _ _ hF12 hJ
   obtain ⟨yb, rfl, hyb⟩ := yes_no hr11
   refine Dd 17 rfl (by kernel_rfl) rfl (Bo (Cu (Ac)).quiet ⟨(fun h => nomatch h), ?_⟩)
   refine De (by kernel_rfl) ?_ _
   refine Ad ?_
   rcases hyb with ⟨rfl, hJ2⟩ | ⟨rfl, hJx⟩
   ·
    refine Am (Ac) rfl ?_
    refine Ax <| Bh <| Ad <| Ai fun ds => Aa rfl (Ag (Bb rfl <| Ba rfl <| Ap rfl <| Au rfl hs11)) ?_
    refine Aa rfl (B3 (Ac) Ab (show ((from_ + j : Nat) : Int) + 1 = ((from_ + (j + 1) : Nat) : Int) by omega) (by omega) (by omega)) ?_
    refine Aa rfl (Ae (Ac)) ?_
    refine Ah <| Ad ⟨_, m - 1, Off.eq (C5 rfl <| Ei rfl <| ou4 rfl <| Eu rfl <| Bj), by omega, ?_⟩
    refine ⟨_, _, hG, hFG, j + 1, by omega, ((Ac)).trans (by congr 1), ?_, rfl⟩
    rw [listsTo_succ, List.map_append, map_cons_app, ← List.append_assoc]; exact hJ2
   ·
    refine Ar (Ac) rfl ?_
    refine Af <| Ai fun ds => Aa rfl (Ae Ab) ?_
    refine Ah <| Ad <| A5 <| Bc (A7 (A7 (Bc (A7 ?_))))
    refine post_retG rfl (.tmp (Ac) .nil) .all ?_
    exact .inr ⟨rfl, hJx⟩
  ·
   refine Af <| Af <| Ai fun ds => Aa rfl (Ag (Au rfl hs11)) ?_
   refine Aa rfl (Aq one_116 (Al rfl <| Ao rfl <| Ay rfl <| Ap rfl <| Al rfl <| Ak rfl) (CellF.own hC.me rfl).cell) ?_
   refine Aa rfl (Bu (Ac)) ?_
   refine Aa rfl (Aj E4 (Ac)) ?_
   refine Aa rfl (Aj C7 (Ac)) ?_
   refine Aa rfl (Aq Cx (Ac) (CellF.own hX.blk rfl).cell) ?_
   refine Aa rfl (Bf Cr (Ac) hX.sale.bidders.plain) ?_
   refine Aa rfl (B0 (Ay rfl <| Ap rfl <| Ac) (Ac)) ?_
   refine Ah <| Ad <| Am (Ac) (by first | rfl | exact decide_eq_false (by omega)) ?_
   obtain rfl : j = s.bidders.length - from_ := by omega
   refine Bx ?_
   refine Bk <| Bk <| Bn <| Ad <| Af <| Ai fun ds => Aa rfl (Ae Ab) ?_
   refine Ah <| Ad <| A5 <| post_retG rfl (.tmp (Ac) .nil) .all ?_
   rw [← listsTo_all]
   exact .inl ⟨rfl, hJ⟩
end Go.Proofs.Ytaikojfonleccaa
