/-
  SaleKnown returns true. No conditions.
-/
import Derived.Test.YtaikojfonleccaaPad
namespace Go.Proofs.Ytaikojfonleccaa
open Go.RowKit
theorem zr_27 : ZeroT Try.prog 27 (.agg #[.slice none 0 0, .int .i64 0, .int .i64 0, .int .i64 0, .slice none 0 0, .slice none 0 0, .slice none 0 0, .slice none 0 0]) := Cr (by kernel_rfl)
theorem bd_25 : Body Try.prog 25 := Bs (by kernel_rfl)
theorem bd_88 : Body Try.prog 88 := Bs (by kernel_rfl)
theorem bd_89 : Body Try.prog 89 := Bs (by kernel_rfl)
theorem bt_27 : BuildT Try.prog 27 [.slice none 0 0, .int .i64 0, .int .i64 0, .int .i64 0, .slice none 0 0, .slice none 0 0, .slice none 0 0, .slice none 0 0] [(0, 1), (1, 1), (2, 1), (3, 1), (4, 1), (5, 1), (6, 1), (7, 1)] := Dv zr_27 (by kernel_rfl) (by decide)
theorem bt_60 : BuildT Try.prog 60 [.int .i64 0, .bool false, .int .i64 0, .int .i64 0] [(0, 1), (1, 1), (2, 2)] := Dv zr_60 (by kernel_rfl) (by decide)
theorem bt_69 : BuildT Try.prog 69 [.string ⟨#[]⟩, .int .i64 0, .int .i64 0, .bool false] [(0, 1), (1, 1), (2, 1), (3, 1)] := Dv zr_69 (by kernel_rfl) (by decide)
theorem bt_72 : BuildT Try.prog 72 [.int .i64 0, .int .i64 0, .int .i64 0] [(0, 1), (1, 1), (2, 1)] := Dv zr_72 (by kernel_rfl) (by decide)
theorem bt_98 : BuildT Try.prog 98 [.int .i64 0, .int .i64 0] [(0, 1), (1, 1)] := Dv zr_98 (by kernel_rfl) (by decide)
theorem sz_27 : SizeT Try.prog 27 8 := C6 (by kernel_rfl)
theorem sz_58 : SizeT Try.prog 58 2 := C6 (by kernel_rfl)
set_option maxRecDepth 100000 in
theorem span_ok {F : Heap} (a b : Int) : Ok Try.prog 89 [.int .i64 a, .int .i64 b].toArray F fun r _ => r = .agg #[.int .i64 a, .int .i64 b] := by
 refine Ok.intro Try.func89 rfl Try.ntmps89 rfl fun w0 => ?_
 refine Af <| Ai fun ds => Bg rfl (B7 zr_58 rfl fun b1 hb1 nb1 => ?_)
 refine Ah <| Ae <| Af <| Ai fun ds => Aa rfl (Ag (Al rfl <| Ak rfl)) ?_
 refine Aa rfl (Ag (Aq rfl <| Ak rfl)) ?_
 refine Aa rfl (C1 bt_58 (.cons (Al rfl <| Ac) rfl (.cons (Ac) rfl .nil)) (.cons rfl rfl (Nat.le_of_ble_eq_true rfl) (.cons (.here) .nil) (.cons rfl rfl (Nat.le_of_ble_eq_true rfl) (.cons (.next <| .here) .nil) .nil))) ?_
 refine Cj (B8 sz_58 (Aq rfl <| Al rfl <| Ac) (Ac) (i := 0) rfl rfl rfl rfl (by simp [Value.oneCell']) (.here) ?_)
 refine Ah <| Ae <| A3 <| Au rfl (.agg agg_58 (Aq rfl <| Al rfl <| Ac) rfl rfl (Bi 0 rfl) .nil) ?_
 rfl
set_option maxRecDepth 100000 in
theorem bid_ok {F : Heap} (a b c : Int) : Ok Try.prog 88 [.int .i64 a, .int .i64 b, .int .i64 c].toArray F fun r _ => r = .agg #[.int .i64 a, .int .i64 b, .int .i64 c] := by
 refine Ok.intro Try.func88 rfl Try.ntmps88 rfl fun w0 => ?_
 refine Af <| Ai fun ds => Bg rfl (B7 zr_72 rfl fun b1 hb1 nb1 => ?_)
 refine Ah <| Ae <| Af <| Ai fun ds => Aa rfl (Ag (Al rfl <| Ak rfl)) ?_
 refine Aa rfl (Ag (Aq rfl <| Ak rfl)) ?_
 refine Aa rfl (Ag (Aq rfl <| Al rfl <| Ak rfl)) ?_
 refine Aa rfl (C1 bt_72 (.cons (Aq rfl <| Ac) rfl (.cons (Al rfl <| Ac) rfl (.cons (Ac) rfl .nil))) (.cons rfl rfl (Nat.le_of_ble_eq_true rfl) (.cons (.here) .nil) (.cons rfl rfl (Nat.le_of_ble_eq_true rfl) (.cons (.next <| .here) .nil) (.cons rfl rfl (Nat.le_of_ble_eq_true rfl) (.cons (.next <| .next <| .here) .nil) .nil)))) ?_
 refine Cj (B8 sz_72 (A0 rfl <| Ac) (Ac) (i := 0) rfl rfl rfl rfl (by simp [Value.oneCell']) (.here) ?_)
 refine Ah <| Ae <| A3 <| Au rfl (.agg agg_72 (A0 rfl <| Ac) rfl rfl (Bi 0 rfl) .nil) ?_
 rfl
set_option maxRecDepth 100000 in
theorem C7 {F : Heap} (a b : Int) : Ok Try.prog 37 [.int .i64 a, .int .i64 b].toArray F fun r _ => r = .agg #[.int .i64 a, .int .i64 b] := by
 refine Ok.intro Try.func37 rfl Try.ntmps37 rfl fun w0 => ?_
 refine Af <| Ai fun ds => Bg rfl (B7 zr_63 rfl fun b1 hb1 nb1 => ?_)
 refine Ah <| Ae <| Af <| Ai fun ds => Aa rfl (Ag (Al rfl <| Ak rfl)) ?_
 refine Aa rfl (Ag (Aq rfl <| Ak rfl)) ?_
 refine Aa rfl (C1 bt_63 (.cons (Al rfl <| Ac) rfl (.cons (Ac) rfl .nil)) (.cons rfl rfl (Nat.le_of_ble_eq_true rfl) (.cons (.here) .nil) (.cons rfl rfl (Nat.le_of_ble_eq_true rfl) (.cons (.next <| .here) .nil) .nil))) ?_
 refine Cj (B8 sz_63 (Aq rfl <| Al rfl <| Ac) (Ac) (i := 0) rfl rfl rfl rfl (by simp [Value.oneCell']) (.here) ?_)
 refine Ah <| Ae <| A3 <| Au rfl (.agg Eg (Aq rfl <| Al rfl <| Ac) rfl rfl (Bi 0 rfl) .nil) ?_
 rfl
set_option maxRecDepth 100000 in
theorem entry_ok {F : Heap} (a b c : Int) : Ok Try.prog 36 [.int .i64 a, .int .i64 b, .int .i64 c].toArray F fun r _ => r = .agg #[.int .i64 a, .bool true, .int .i64 b, .int .i64 c] := by
 refine Ok.intro Try.func36 rfl Try.ntmps36 rfl fun w0 => ?_
 refine Af <| Ai fun ds => Bg rfl (B7 zr_60 rfl fun b1 hb1 nb1 => ?_)
 refine Ah <| Ae <| Af <| Ai fun ds => Aa rfl (Ag (Al rfl <| Ak rfl)) ?_
 refine Aa rfl (Ag (Aq rfl <| Ak rfl)) ?_
 refine Aa rfl (Ag (Aq rfl <| Al rfl <| Ak rfl)) ?_
 refine Bw rfl (A4 bd_89 Ay (.cons (Al rfl <| Ac) (.cons (Ac) .nil)) (span_ok _ _) (fun _ _ h => h)) ?_
 refine Aa rfl (C1 bt_60 (.cons (Aq rfl <| Al rfl <| Ac) rfl (.cons Ab rfl (.cons (Ac) rfl .nil))) (.cons rfl rfl (Nat.le_of_ble_eq_true rfl) (.cons (.here) .nil) (.cons rfl rfl (Nat.le_of_ble_eq_true rfl) (.cons (.next <| .here) .nil) (.cons rfl rfl (Nat.le_of_ble_eq_true rfl) (.cons (.next <| .next <| .here) (.cons (.next <| .next <| .next <| .here) .nil)) .nil)))) ?_
 refine Cj (B8 sz_60 (A0 rfl <| Al rfl <| Ac) (Ac) (i := 0) rfl rfl rfl rfl (by simp [Value.oneCell']) (.here) ?_)
 refine Ah <| Ae <| A3 <| Au rfl (.agg agg_60 (A0 rfl <| Al rfl <| Ac) rfl rfl (Bi 0 rfl) .nil) ?_
 rfl
theorem steps_box2 {F : Heap} {b T : Nat} (h : F b = some (bx T [.int .i64 0, .int .i64 5, .int .i64 50, .int .i64 10])) : Sl F (.slice (some ⟨b, 0, none⟩) 2 2) 2 Stp.enc ([stA, stB] : List Stp) :=
 Cw (xs := ([stA, stB] : List Stp)) h rfl rfl (fun _ => rfl) (by decide)
theorem strs_box4 {F : Heap} {b T : Nat} (h : F b = some (bx T [.string ⟨#[97, 110, 110]⟩, .string ⟨#[98, 101, 110]⟩, .string ⟨#[99, 105, 100]⟩, .string ⟨#[100, 111, 116]⟩])) : Sl F (.slice (some ⟨b, 0, none⟩) 4 4) 1 strE (names4 : List ByteArray) :=
 Cw (xs := (names4 : List ByteArray)) h rfl rfl (fun _ => rfl) (by decide)
theorem strs_box1 {F : Heap} {b T : Nat} (h : F b = some (bx T [.string ⟨#[100, 117, 107, 101]⟩])) : Sl F (.slice (some ⟨b, 0, none⟩) 1 1) 1 strE (names1 : List ByteArray) :=
 Cw (xs := (names1 : List ByteArray)) h rfl rfl (fun _ => rfl) (by decide)
theorem lots_box3 {F : Heap} {b T : Nat} (h : F b = some (bx T [.string ⟨#[98, 105, 98, 108, 101]⟩, .int .i64 0, .int .i64 20, .bool true, .string ⟨#[97, 116, 108, 97, 115]⟩, .int .i64 0, .int .i64 48, .bool false, .string ⟨#[102, 97, 110]⟩, .int .i64 0, .int .i64 30, .bool false])) : Sl F (.slice (some ⟨b, 0, none⟩) 3 3) 4 Lot.enc ([ltA, ltB, ltC] : List Lot) :=
 Cw (xs := ([ltA, ltB, ltC] : List Lot)) h rfl rfl (fun _ => rfl) (by decide)
theorem bids_box6 {F : Heap} {b T : Nat} (h : F b = some (bx T [.int .i64 0, .int .i64 0, .int .i64 62, .int .i64 1, .int .i64 0, .int .i64 41, .int .i64 2, .int .i64 0, .int .i64 55, .int .i64 1, .int .i64 1, .int .i64 90, .int .i64 3, .int .i64 1, .int .i64 70, .int .i64 3, .int .i64 2, .int .i64 25])) : Sl F (.slice (some ⟨b, 0, none⟩) 6 6) 3 Bid.enc (bids6 : List Bid) :=
 Cw (xs := (bids6 : List Bid)) h rfl rfl (fun _ => rfl) (by decide)
set_option maxRecDepth 100000 in
theorem sale_ok {F : Heap} : Ok Try.prog 35 [].toArray F fun u F' => ∃ vs vb vl vn vd, u = .agg #[vs, .int .i64 100, .int .i64 150, .int .i64 14, vb, vl, vn, vd] ∧ SaleR F' vs vb vl vn vd saleX := by
 refine Ok.intro Try.func35 rfl Try.ntmps35 rfl fun w0 => ?_
 refine Af <| Ai fun ds => Bg rfl (B7 zr_27 rfl fun b1 hb1 nb1 => ?_)
 refine Ah <| Ae <| Af <| Ai fun ds => Aa rfl (C1 bt_98 (.cons Ab rfl (.cons Ab rfl .nil)) (.cons rfl rfl (Nat.le_of_ble_eq_true rfl) (.cons (.here) .nil) (.cons rfl rfl (Nat.le_of_ble_eq_true rfl) (.cons (.next <| .here) .nil) .nil))) ?_
 refine Aa rfl (C1 bt_98 (.cons Ab rfl (.cons Ab rfl .nil)) (.cons rfl rfl (Nat.le_of_ble_eq_true rfl) (.cons (.here) .nil) (.cons rfl rfl (Nat.le_of_ble_eq_true rfl) (.cons (.next <| .here) .nil) .nil))) ?_
 refine Bg rfl (Cv (offs := [(0, 2), (2, 2)]) (zl := [.int .i64 0, .int .i64 0, .int .i64 0, .int .i64 0]) sl_22 zr_98 rfl (.cons (Al rfl <| Ac) rfl (.cons (Ac) rfl .nil)) (by intro i p h; rcases i with _ | _ | i <;> simp at h <;> subst h <;> rfl) (.cons rfl rfl (Nat.le_of_ble_eq_true rfl) (.cons (.here) (.cons (.next <| .here) .nil)) (.cons rfl rfl (Nat.le_of_ble_eq_true rfl) (.cons (.next <| .next <| .here) (.cons (.next <| .next <| .next <| .here) .nil)) .nil)) (by decide) (by decide) fun b2 hb2 nb2 => ?_)
 refine Bb (i := 0) rfl hb2 .here fun F3 hF4 hz5 => ?_
 have hsl6 := steps_box2 hz5
 refine Bg rfl (Bq Dg zr_9 rfl (.cons Ab (.cons Ab (.cons Ab (.cons Ab .nil)))) rfl rfl (by decide) (by simp [Value.oneCell']) fun b7 hb7 nb7 => ?_)
 refine Bb (i := 0) rfl hb7 .here fun F8 hF9 hz10 => ?_
 replace hsl6 := hsl6.mono hF9
 have hsl11 := strs_box4 hz10
 refine Bg rfl (Bq Dg zr_9 rfl (.cons Ab .nil) rfl rfl (by decide) (by simp [Value.oneCell']) fun b12 hb12 nb12 => ?_)
 refine Bb (i := 0) rfl hb12 .here fun F13 hF14 hz15 => ?_
 replace hsl6 := hsl6.mono hF14
 replace hsl11 := hsl11.mono hF14
 have hsl16 := strs_box1 hz15
 refine Aa rfl (C1 bt_69 (.cons Ab rfl (.cons Ab rfl (.cons Ab rfl .nil))) (.cons rfl rfl (Nat.le_of_ble_eq_true rfl) (.cons (.here) .nil) (.cons rfl rfl (Nat.le_of_ble_eq_true rfl) (.cons (.next <| .next <| .here) .nil) (.cons rfl rfl (Nat.le_of_ble_eq_true rfl) (.cons (.next <| .next <| .next <| .here) .nil) .nil)))) ?_
 refine Aa rfl (C1 bt_69 (.cons Ab rfl (.cons Ab rfl .nil)) (.cons rfl rfl (Nat.le_of_ble_eq_true rfl) (.cons (.here) .nil) (.cons rfl rfl (Nat.le_of_ble_eq_true rfl) (.cons (.next <| .next <| .here) .nil) .nil))) ?_
 refine Aa rfl (C1 bt_69 (.cons Ab rfl (.cons Ab rfl .nil)) (.cons rfl rfl (Nat.le_of_ble_eq_true rfl) (.cons (.here) .nil) (.cons rfl rfl (Nat.le_of_ble_eq_true rfl) (.cons (.next <| .next <| .here) .nil) .nil))) ?_
 refine Bg rfl (Cv (offs := [(0, 4), (4, 4), (8, 4)]) (zl := [.string ⟨#[]⟩, .int .i64 0, .int .i64 0, .bool false, .string ⟨#[]⟩, .int .i64 0, .int .i64 0, .bool false, .string ⟨#[]⟩, .int .i64 0, .int .i64 0, .bool false]) Dw zr_69 rfl (.cons (Aq rfl <| Ac) rfl (.cons (Al rfl <| Ac) rfl (.cons (Ac) rfl .nil))) (by intro i p h; rcases i with _ | _ | _ | i <;> simp at h <;> subst h <;> rfl) (.cons rfl rfl (Nat.le_of_ble_eq_true rfl) (.cons (.here) (.cons (.next <| .here) (.cons (.next <| .next <| .here) (.cons (.next <| .next <| .next <| .here) .nil)))) (.cons rfl rfl (Nat.le_of_ble_eq_true rfl) (.cons (.next <| .next <| .next <| .next <| .here) (.cons (.next <| .next <| .next <| .next <| .next <| .here) (.cons (.next <| .next <| .next <| .next <| .next <| .next <| .here) (.cons (.next <| .next <| .next <| .next <| .next <| .next <| .next <| .here) .nil)))) (.cons rfl rfl (Nat.le_of_ble_eq_true rfl) (.cons (.next <| .next <| .next <| .next <| .next <| .next <| .next <| .next <| .here) (.cons (.next <| .next <| .next <| .next <| .next <| .next <| .next <| .next <| .next <| .here) (.cons (.next <| .next <| .next <| .next <| .next <| .next <| .next <| .next <| .next <| .next <| .here) (.cons (.next <| .next <| .next <| .next <| .next <| .next <| .next <| .next <| .next <| .next <| .next <| .here) .nil)))) .nil))) (by decide) (by decide) fun b17 hb17 nb17 => ?_)
 refine Bb (i := 0) rfl hb17 .here fun F18 hF19 hz20 => ?_
 replace hsl6 := hsl6.mono hF19
 replace hsl11 := hsl11.mono hF19
 replace hsl16 := hsl16.mono hF19
 have hsl21 := lots_box3 hz20
 refine Bw rfl (A4 bd_88 Ay (.cons Ab (.cons Ab (.cons Ab .nil))) (bid_ok _ _ _) (fun _ _ h => h)) ?_
 refine Bw rfl (A4 bd_88 Ay (.cons Ab (.cons Ab (.cons Ab .nil))) (bid_ok _ _ _) (fun _ _ h => h)) ?_
 refine Bw rfl (A4 bd_88 Ay (.cons Ab (.cons Ab (.cons Ab .nil))) (bid_ok _ _ _) (fun _ _ h => h)) ?_
 refine Bw rfl (A4 bd_88 Ay (.cons Ab (.cons Ab (.cons Ab .nil))) (bid_ok _ _ _) (fun _ _ h => h)) ?_
 refine Bw rfl (A4 bd_88 Ay (.cons Ab (.cons Ab (.cons Ab .nil))) (bid_ok _ _ _) (fun _ _ h => h)) ?_
 refine Bw rfl (A4 bd_88 Ay (.cons Ab (.cons Ab (.cons Ab .nil))) (bid_ok _ _ _) (fun _ _ h => h)) ?_
 refine Bg rfl (Cv (offs := [(0, 3), (3, 3), (6, 3), (9, 3), (12, 3), (15, 3)]) (zl := [.int .i64 0, .int .i64 0, .int .i64 0, .int .i64 0, .int .i64 0, .int .i64 0, .int .i64 0, .int .i64 0, .int .i64 0, .int .i64 0, .int .i64 0, .int .i64 0, .int .i64 0, .int .i64 0, .int .i64 0, .int .i64 0, .int .i64 0, .int .i64 0]) sl_25 zr_72 rfl (.cons (A0 rfl <| Al rfl <| Ac) rfl (.cons (A0 rfl <| Ac) rfl (.cons (Aq rfl <| Al rfl <| Ac) rfl (.cons (Aq rfl <| Ac) rfl (.cons (Al rfl <| Ac) rfl (.cons (Ac) rfl .nil)))))) (by intro i p h; rcases i with _ | _ | _ | _ | _ | _ | i <;> simp at h <;> subst h <;> rfl) (.cons rfl rfl (Nat.le_of_ble_eq_true rfl) (.cons (.here) (.cons (.next <| .here) (.cons (.next <| .next <| .here) .nil))) (.cons rfl rfl (Nat.le_of_ble_eq_true rfl) (.cons (.next <| .next <| .next <| .here) (.cons (.next <| .next <| .next <| .next <| .here) (.cons (.next <| .next <| .next <| .next <| .next <| .here) .nil))) (.cons rfl rfl (Nat.le_of_ble_eq_true rfl) (.cons (.next <| .next <| .next <| .next <| .next <| .next <| .here) (.cons (.next <| .next <| .next <| .next <| .next <| .next <| .next <| .here) (.cons (.next <| .next <| .next <| .next <| .next <| .next <| .next <| .next <| .here) .nil))) (.cons rfl rfl (Nat.le_of_ble_eq_true rfl) (.cons (.next <| .next <| .next <| .next <| .next <| .next <| .next <| .next <| .next <| .here) (.cons (.next <| .next <| .next <| .next <| .next <| .next <| .next <| .next <| .next <| .next <| .here) (.cons (.next <| .next <| .next <| .next <| .next <| .next <| .next <| .next <| .next <| .next <| .next <| .here) .nil))) (.cons rfl rfl (Nat.le_of_ble_eq_true rfl) (.cons (.next <| .next <| .next <| .next <| .next <| .next <| .next <| .next <| .next <| .next <| .next <| .next <| .here) (.cons (.next <| .next <| .next <| .next <| .next <| .next <| .next <| .next <| .next <| .next <| .next <| .next <| .next <| .here) (.cons (.next <| .next <| .next <| .next <| .next <| .next <| .next <| .next <| .next <| .next <| .next <| .next <| .next <| .next <| .here) .nil))) (.cons rfl rfl (Nat.le_of_ble_eq_true rfl) (.cons (.next <| .next <| .next <| .next <| .next <| .next <| .next <| .next <| .next <| .next <| .next <| .next <| .next <| .next <| .next <| .here) (.cons (.next <| .next <| .next <| .next <| .next <| .next <| .next <| .next <| .next <| .next <| .next <| .next <| .next <| .next <| .next <| .next <| .here) (.cons (.next <| .next <| .next <| .next <| .next <| .next <| .next <| .next <| .next <| .next <| .next <| .next <| .next <| .next <| .next <| .next <| .next <| .here) .nil))) .nil)))))) (by decide) (by decide) fun b22 hb22 nb22 => ?_)
 refine Bb (i := 0) rfl hb22 .here fun F23 hF24 hz25 => ?_
 replace hsl6 := hsl6.mono hF24
 replace hsl11 := hsl11.mono hF24
 replace hsl16 := hsl16.mono hF24
 replace hsl21 := hsl21.mono hF24
 have hsl26 := bids_box6 hz25
 refine Aa rfl (C1 bt_27 (.cons (Ba rfl <| A0 rfl <| Al rfl <| Ac) rfl (.cons Ab rfl (.cons Ab rfl (.cons Ab rfl (.cons (Ba rfl <| A0 rfl <| Ac) rfl (.cons (Ba rfl <| Aq rfl <| Al rfl <| Ac) rfl (.cons (A0 rfl <| Aq rfl <| Al rfl <| Ac) rfl (.cons (Ac) rfl .nil)))))))) (.cons rfl rfl (Nat.le_of_ble_eq_true rfl) (.cons (.here) .nil) (.cons rfl rfl (Nat.le_of_ble_eq_true rfl) (.cons (.next <| .here) .nil) (.cons rfl rfl (Nat.le_of_ble_eq_true rfl) (.cons (.next <| .next <| .here) .nil) (.cons rfl rfl (Nat.le_of_ble_eq_true rfl) (.cons (.next <| .next <| .next <| .here) .nil) (.cons rfl rfl (Nat.le_of_ble_eq_true rfl) (.cons (.next <| .next <| .next <| .next <| .here) .nil) (.cons rfl rfl (Nat.le_of_ble_eq_true rfl) (.cons (.next <| .next <| .next <| .next <| .next <| .here) .nil) (.cons rfl rfl (Nat.le_of_ble_eq_true rfl) (.cons (.next <| .next <| .next <| .next <| .next <| .next <| .here) .nil) (.cons rfl rfl (Nat.le_of_ble_eq_true rfl) (.cons (.next <| .next <| .next <| .next <| .next <| .next <| .next <| .here) .nil) .nil))))))))) ?_
 refine Cj (B8 sz_27 (A6 rfl <| Al rfl <| Ac) (Ac) (i := 0) rfl rfl rfl rfl (by simp [Value.oneCell']) (.here) ?_)
 refine Ah <| Ae <| A3 <| Au rfl (.agg Cg (A6 rfl <| Al rfl <| Ac) rfl rfl (Bi 0 rfl) .nil) ?_
 exact ⟨_, _, _, _, _, rfl, ⟨hsl6, hsl11, hsl16, hsl21, hsl26⟩⟩
theorem nats_eq {xs ys : List Nat} : decide (xs.map (fun (n : Nat) => (n : Int)) = ys.map (fun (n : Nat) => (n : Int))) = decide (xs = ys) := by
 congr 1
 rw [eq_iff_iff]
 refine ⟨fun h => ?_, fun h => by rw [h]⟩
 have := congrArg (List.map Int.toNat) h
 rwa [idx_map, idx_map] at this
theorem refInts_nat {F : Heap} {v u : Value} {xs ys : List Nat} (hx : Nats F v xs) (hy : Nats F u ys) : Ok Try.prog 25 [v, u].toArray F fun r _ => r = .bool (decide (xs = ys)) :=
 (D3 hx.ints hy.ints).mono fun r _ _ h => by rw [h, nats_eq]
theorem snd_take {ps qs : List (Value × List Nat)} {k : Nat} (h1 : k < ps.length) (h2 : k < qs.length) (ht : (ps.map (·.2)).take k = (qs.map (·.2)).take k) (he : ps[k].2 = qs[k].2) : (ps.map (·.2)).take (k + 1) = (qs.map (·.2)).take (k + 1) := by
 rw [List.take_succ_eq_append_getElem (by simpa using h1), List.take_succ_eq_append_getElem (by simpa using h2), ht]; simp [he]
theorem snd_ne {ps qs : List (Value × List Nat)} {k : Nat} (h1 : k < ps.length) (h2 : k < qs.length) (he : ps[k].2 ≠ qs[k].2) : ps.map (·.2) ≠ qs.map (·.2) := fun h => by
 apply he
 have := congrArg (fun z => z[k]?) h
 simpa [List.getElem?_eq_getElem h1, List.getElem?_eq_getElem h2] using this
set_option maxRecDepth 100000 in
theorem alike_ok {F : Heap} {v u : Value} {xs ys : List (List Nat)} (hx : Lsts F v xs) (hy : Lsts F u ys) : Ok Try.prog 30 [v, u].toArray F fun r _ => r = .bool (decide (xs = ys)) := by
 obtain ⟨ps, hxs, hpa, hpm⟩ := hx
 replace hpa : AllN _ ps := hpa
 obtain ⟨qs, hys, hqa, hqm⟩ := hy
 replace hqa : AllN _ qs := hqa
 refine Ok.intro Try.func30 rfl Try.ntmps30 rfl fun w0 => ?_
 have hlen := hxs.plain.lt
 have hlen2 := hys.plain.lt
 by_cases hll : ps.length = qs.length
 ·
  refine Af <| Ai fun ds => Aa rfl (Ad Ab) ?_
  refine Ah <| Ae <| Af <| Af <| Ai fun ds => Aa rfl (Ag (Al rfl <| Ak rfl)) ?_
  refine Aa rfl (Bj D0 (Ac) hxs.plain) ?_
  refine Aa rfl (Ag (Aq rfl <| Al rfl <| Ak rfl)) ?_
  refine Aa rfl (Bj D0 (Ac) hys.plain) ?_
  refine Aa rfl (Ch (Aq rfl <| Ac) (Ac)) ?_
  refine Ah <| Ae <| Am (Ac) (decide_eq_false (by omega)) ?_
  refine Az <| Ae <| Af <| Af <| Ai fun ds => Aa rfl (Ad Ab) ?_
  refine Ah <| Ae <| A2 <| B4 [4, 5, 11, 12, 13, 14, 15, 16, 17, 18, 19, 20, 21, 22, 23, 24, 25, 26] (fun m e σ => ∃ k : Nat, m + k = ps.length ∧ e 5 = .int .i64 (k : Int) ∧ σ = ⟨F, []⟩ ∧ (ps.map (·.2)).take k = (qs.map (·.2)).take k) (ps.length) ?_ ?_
  · exact ⟨0, by omega, (Ac), rfl, rfl⟩
  ·
   rintro m e _ ⟨k, hm, hs5, rfl, htk⟩
   by_cases hlt : k < ps.length
   ·
    have hlt2 : k < qs.length := by omega
    have hxl : Nats _ _ _ := hpa _ (List.getElem_mem hlt)
    have hyl : Nats _ _ _ := hqa _ (List.getElem_mem hlt2)
    refine Af <| Af <| Ai fun ds => Aa rfl (Ag (At rfl hs5)) ?_
    refine Aa rfl (Ag (Al rfl <| Ao rfl <| A0 rfl <| Aq rfl <| Al rfl <| Ak rfl)) ?_
    refine Aa rfl (Bj D0 (Ac) hxs.plain) ?_
    refine Aa rfl (Bz (Aq rfl <| Ac) (Ac)) ?_
    refine Ah <| Ae <| As (Ac) (by first | rfl | exact decide_eq_true (by omega)) ?_
    by_cases hne : ps[k].2 = qs[k].2
    ·
     refine Az <| Ae <| Af <| A2 <| Af <| Cz (.inl rfl) (fun _ _ h => h) (by kernel_rfl) (by kernel_rfl) fun ds => ?_
     refine A9 rfl (Ag (A0 rfl <| Ao rfl <| A0 rfl <| Aq rfl <| Al rfl <| Ak rfl)) ?_
     refine A9 rfl (Ag (A0 rfl <| Al rfl <| At rfl hs5)) ?_
     refine A9 rfl (Bn  D0 (Al rfl <| Ac) hxs.plain (Ac) rfl hlt) ?_
     refine A9 rfl (Ar one_28 (Ac) (hxs.cell1 hlt rfl)) ?_
     refine A9 rfl (Ag (Ba rfl <| Ao rfl <| A0 rfl <| Aq rfl <| Al rfl <| Ak rfl)) ?_
     refine A9 rfl (Ag (Ba rfl <| Al rfl <| At rfl hs5)) ?_
     refine A9 rfl (Bn  D0 (Al rfl <| Ac) hys.plain (Ac) rfl hlt2) ?_
     refine A9 rfl (Ar one_28 (Ac) (hys.cell1 hlt2 rfl)) ?_
     refine WQ_c rfl (A4 bd_25 Ay (.cons (A0 rfl <| Ac) (.cons (Ac) .nil)) (refInts_nat hxl hyl) (fun _ _ h => h)) ?_
     refine A9 rfl (Ea (Ac)) ?_
     refine C4 ?_
     refine Ae <| Am (Ac) (by simp [hne]) ?_
     refine Az <| Bh <| Ae <| Ai fun ds => Aa rfl (Ag (Ba rfl <| A0 rfl <| Aq rfl <| At rfl hs5)) ?_
     refine Aa rfl (B3 (Ac) Ab rfl (by omega) (by omega)) ?_
     refine Aa rfl (Ad (Ac)) ?_
     refine Ah <| Ae ⟨_, m - 1, Off.eq (De rfl <| ou1 rfl <| Bk), by omega, ?_⟩
     exact ⟨k + 1, by omega, (Ac), rfl, snd_take hlt hlt2 htk hne⟩
    ·
     refine Az <| Ae <| Af <| A2 <| Af <| Cz (.inl rfl) (fun _ _ h => h) (by kernel_rfl) (by kernel_rfl) fun ds => ?_
     refine A9 rfl (Ag (A0 rfl <| Ao rfl <| A0 rfl <| Aq rfl <| Al rfl <| Ak rfl)) ?_
     refine A9 rfl (Ag (A0 rfl <| Al rfl <| At rfl hs5)) ?_
     refine A9 rfl (Bn  D0 (Al rfl <| Ac) hxs.plain (Ac) rfl hlt) ?_
     refine A9 rfl (Ar one_28 (Ac) (hxs.cell1 hlt rfl)) ?_
     refine A9 rfl (Ag (Ba rfl <| Ao rfl <| A0 rfl <| Aq rfl <| Al rfl <| Ak rfl)) ?_
     refine A9 rfl (Ag (Ba rfl <| Al rfl <| At rfl hs5)) ?_
     refine A9 rfl (Bn  D0 (Al rfl <| Ac) hys.plain (Ac) rfl hlt2) ?_
     refine A9 rfl (Ar one_28 (Ac) (hys.cell1 hlt2 rfl)) ?_
     refine WQ_c rfl (A4 bd_25 Ay (.cons (A0 rfl <| Ac) (.cons (Ac) .nil)) (refInts_nat hxl hyl) (fun _ _ h => h)) ?_
     refine A9 rfl (Ea (Ac)) ?_
     refine C4 ?_
     refine Ae <| As (Ac) (by simp [hne]) ?_
     refine Af <| Ai fun ds => Aa rfl (Ad Ab) ?_
     refine Ah <| Ae <| A3 <| A8 (A5 (A5 (A8 (A5 ?_))))
     refine Au rfl (.tmp (Ac) .nil) ?_
     show _ = _
     rw [← hpm, ← hqm, decide_eq_false (snd_ne hlt hlt2 hne)]; rfl
   ·
    refine Af <| Af <| Ai fun ds => Aa rfl (Ag (At rfl hs5)) ?_
    refine Aa rfl (Ag (Al rfl <| Ao rfl <| A0 rfl <| Aq rfl <| Al rfl <| Ak rfl)) ?_
    refine Aa rfl (Bj D0 (Ac) hxs.plain) ?_
    refine Aa rfl (Bz (Aq rfl <| Ac) (Ac)) ?_
    refine Ah <| Ae <| Am (Ac) (by first | rfl | exact decide_eq_false (by omega)) ?_
    obtain rfl : k = ps.length := by omega
    refine B0 ?_
    refine Bo <| Bo <| Br <| Ae <| Af <| Ai fun ds => Aa rfl (Ad Ab) ?_
    refine Ah <| Ae <| A3 <| Au rfl (.tmp (Ac) .nil) ?_
    show _ = _
    have h9 : ps.map (·.2) = qs.map (·.2) := by rw [List.take_of_length_le (by simp), List.take_of_length_le (by simp [hll])] at htk; exact htk
    rw [← hpm, ← hqm, decide_eq_true h9]; rfl
 ·
  refine Af <| Ai fun ds => Aa rfl (Ad Ab) ?_
  refine Ah <| Ae <| Af <| Af <| Ai fun ds => Aa rfl (Ag (Al rfl <| Ak rfl)) ?_
  refine Aa rfl (Bj D0 (Ac) hxs.plain) ?_
  refine Aa rfl (Ag (Aq rfl <| Al rfl <| Ak rfl)) ?_
  refine Aa rfl (Bj D0 (Ac) hys.plain) ?_
  refine Aa rfl (Ch (Aq rfl <| Ac) (Ac)) ?_
  refine Ah <| Ae <| As (Ac) (decide_eq_true (by omega)) ?_
  refine Af <| Ai fun ds => Aa rfl (Ad Ab) ?_
  refine Ah <| Ae <| A3 <| A5 ?_
  refine Au rfl (.tmp (Ac) .nil) ?_
  show _ = _
  rw [decide_eq_false (fun h : xs = ys => hll (by rw [← hpm, ← hqm] at h; simpa using congrArg List.length h))]; rfl
end Go.Proofs.Ytaikojfonleccaa
namespace Go.Proofs.Ytaikojfonleccaa
open Go.RowKit
theorem bd_17 : Body Try.prog 17 := Bs (by kernel_rfl)
theorem bd_19 : Body Try.prog 19 := Bs (by kernel_rfl)
theorem bd_21 : Body Try.prog 21 := Bs (by kernel_rfl)
theorem bd_23 : Body Try.prog 23 := Bs (by kernel_rfl)
theorem bd_26 : Body Try.prog 26 := Bs (by kernel_rfl)
theorem bd_30 : Body Try.prog 30 := Bs (by kernel_rfl)
theorem bd_31 : Body Try.prog 31 := Bs (by kernel_rfl)
theorem bd_33 : Body Try.prog 33 := Bs (by kernel_rfl)
theorem bd_35 : Body Try.prog 35 := Bs (by kernel_rfl)
theorem bd_36 : Body Try.prog 36 := Bs (by kernel_rfl)
theorem bd_37 : Body Try.prog 37 := Bs (by kernel_rfl)
theorem bt_77 : BuildT Try.prog 77 [.int .i64 0, .int .i64 0] [(0, 1), (1, 1)] := Dv zr_77 (by kernel_rfl) (by decide)
theorem n13_box2 {F : Heap} {b T : Nat} (h : F b = some (bx T [.int .i64 1, .int .i64 3])) : Nats F (.slice (some ⟨b, 0, none⟩) 2 2) [1, 3] :=
 Cw (xs := ([1, 3] : List Nat)) h rfl rfl (fun _ => rfl) (by decide)
theorem n013_box3 {F : Heap} {b T : Nat} (h : F b = some (bx T [.int .i64 0, .int .i64 1, .int .i64 3])) : Nats F (.slice (some ⟨b, 0, none⟩) 3 3) [0, 1, 3] :=
 Cw (xs := ([0, 1, 3] : List Nat)) h rfl rfl (fun _ => rfl) (by decide)
theorem n123_box3 {F : Heap} {b T : Nat} (h : F b = some (bx T [.int .i64 1, .int .i64 2, .int .i64 3])) : Nats F (.slice (some ⟨b, 0, none⟩) 3 3) [1, 2, 3] :=
 Cw (xs := ([1, 2, 3] : List Nat)) h rfl rfl (fun _ => rfl) (by decide)
theorem n02_box2 {F : Heap} {b T : Nat} (h : F b = some (bx T [.int .i64 0, .int .i64 2])) : Nats F (.slice (some ⟨b, 0, none⟩) 2 2) [0, 2] :=
 Cw (xs := ([0, 2] : List Nat)) h rfl rfl (fun _ => rfl) (by decide)
theorem n0123_box4 {F : Heap} {b T : Nat} (h : F b = some (bx T [.int .i64 0, .int .i64 1, .int .i64 2, .int .i64 3])) : Nats F (.slice (some ⟨b, 0, none⟩) 4 4) [0, 1, 2, 3] :=
 Cw (xs := ([0, 1, 2, 3] : List Nat)) h rfl rfl (fun _ => rfl) (by decide)
theorem n023_box3 {F : Heap} {b T : Nat} (h : F b = some (bx T [.int .i64 0, .int .i64 2, .int .i64 3])) : Nats F (.slice (some ⟨b, 0, none⟩) 3 3) [0, 2, 3] :=
 Cw (xs := ([0, 2, 3] : List Nat)) h rfl rfl (fun _ => rfl) (by decide)
theorem entA_box2 {F : Heap} {b T : Nat} (h : F b = some (bx T [.int .i64 0, .bool true, .int .i64 60, .int .i64 60, .int .i64 1, .bool true, .int .i64 48, .int .i64 48])) : Sl F (.slice (some ⟨b, 0, none⟩) 2 2) 4 Ent.enc [ent1 0 60 60, ent1 1 48 48] :=
 Cw (xs := [ent1 0 60 60, ent1 1 48 48]) h rfl rfl (fun _ => rfl) (by decide)
theorem entB_box1 {F : Heap} {b T : Nat} (h : F b = some (bx T [.int .i64 0, .bool true, .int .i64 20, .int .i64 50])) : Sl F (.slice (some ⟨b, 0, none⟩) 1 1) 4 Ent.enc [ent1 0 20 50] :=
 Cw (xs := [ent1 0 20 50]) h rfl rfl (fun _ => rfl) (by decide)
theorem entC_box3 {F : Heap} {b T : Nat} (h : F b = some (bx T [.int .i64 0, .bool true, .int .i64 45, .int .i64 45, .int .i64 1, .bool true, .int .i64 48, .int .i64 48, .int .i64 2, .bool true, .int .i64 30, .int .i64 30])) : Sl F (.slice (some ⟨b, 0, none⟩) 3 3) 4 Ent.enc [ent1 0 45 45, ent1 1 48 48, ent1 2 30 30] :=
 Cw (xs := [ent1 0 45 45, ent1 1 48 48, ent1 2 30 30]) h rfl rfl (fun _ => rfl) (by decide)
theorem entD_box1 {F : Heap} {b T : Nat} (h : F b = some (bx T [.int .i64 2, .bool true, .int .i64 30, .int .i64 30])) : Sl F (.slice (some ⟨b, 0, none⟩) 1 1) 4 Ent.enc [ent1 2 30 30] :=
 Cw (xs := [ent1 2 30 30]) h rfl rfl (fun _ => rfl) (by decide)
theorem entE_box1 {F : Heap} {b T : Nat} (h : F b = some (bx T [.int .i64 0, .bool true, .int .i64 40, .int .i64 50])) : Sl F (.slice (some ⟨b, 0, none⟩) 1 1) 4 Ent.enc [ent1 0 40 50] :=
 Cw (xs := [ent1 0 40 50]) h rfl rfl (fun _ => rfl) (by decide)
theorem resA_box3 {F : Heap} {b T : Nat} (h : F b = some (bx T [.int .i64 (0), .int .i64 60, .int .i64 (1), .int .i64 73, .int .i64 (-1), .int .i64 0])) : Sl F (.slice (some ⟨b, 0, none⟩) 3 3) 2 Res.enc [⟨0, 60⟩, ⟨1, 73⟩, ⟨-1, 0⟩] :=
 Cw (xs := ([⟨0, 60⟩, ⟨1, 73⟩, ⟨-1, 0⟩] : List Res)) h rfl rfl (fun _ => rfl) (by decide)
theorem resB_box3 {F : Heap} {b T : Nat} (h : F b = some (bx T [.int .i64 (0), .int .i64 20, .int .i64 (1), .int .i64 73, .int .i64 (-1), .int .i64 0])) : Sl F (.slice (some ⟨b, 0, none⟩) 3 3) 2 Res.enc [⟨0, 20⟩, ⟨1, 73⟩, ⟨-1, 0⟩] :=
 Cw (xs := ([⟨0, 20⟩, ⟨1, 73⟩, ⟨-1, 0⟩] : List Res)) h rfl rfl (fun _ => rfl) (by decide)
theorem resC_box3 {F : Heap} {b T : Nat} (h : F b = some (bx T [.int .i64 (0), .int .i64 45, .int .i64 (1), .int .i64 73, .int .i64 (-1), .int .i64 0])) : Sl F (.slice (some ⟨b, 0, none⟩) 3 3) 2 Res.enc [⟨0, 45⟩, ⟨1, 73⟩, ⟨-1, 0⟩] :=
 Cw (xs := ([⟨0, 45⟩, ⟨1, 73⟩, ⟨-1, 0⟩] : List Res)) h rfl rfl (fun _ => rfl) (by decide)
theorem resD_box3 {F : Heap} {b T : Nat} (h : F b = some (bx T [.int .i64 (0), .int .i64 60, .int .i64 (1), .int .i64 48, .int .i64 (-1), .int .i64 0])) : Sl F (.slice (some ⟨b, 0, none⟩) 3 3) 2 Res.enc [⟨0, 60⟩, ⟨1, 48⟩, ⟨-1, 0⟩] :=
 Cw (xs := ([⟨0, 60⟩, ⟨1, 48⟩, ⟨-1, 0⟩] : List Res)) h rfl rfl (fun _ => rfl) (by decide)
theorem backA_box1 {F : Heap} {b T : Nat} (h : F b = some (bx T [.int .i64 0, .int .i64 14])) : Sl F (.slice (some ⟨b, 0, none⟩) 1 1) 2 Back.enc (back1 14) :=
 Cw (xs := back1 14) h rfl rfl (fun _ => rfl) (by decide)
theorem backB_box1 {F : Heap} {b T : Nat} (h : F b = some (bx T [.int .i64 0, .int .i64 15])) : Sl F (.slice (some ⟨b, 0, none⟩) 1 1) 2 Back.enc (back1 15) :=
 Cw (xs := back1 15) h rfl rfl (fun _ => rfl) (by decide)
theorem ints_box3 {F : Heap} {b T : Nat} {x y z : Int} (h : F b = some (bx T [.int .i64 x, .int .i64 y, .int .i64 z])) : Ints F (.slice (some ⟨b, 0, none⟩) 3 3) [x, y, z] :=
 Cw (xs := [x, y, z]) h rfl rfl (fun _ => rfl) (by decide)
theorem ints_box4 {F : Heap} {b T : Nat} {x y z w : Int} (h : F b = some (bx T [.int .i64 x, .int .i64 y, .int .i64 z, .int .i64 w])) : Ints F (.slice (some ⟨b, 0, none⟩) 4 4) [x, y, z, w] :=
 Cw (xs := [x, y, z, w]) h rfl rfl (fun _ => rfl) (by decide)
def valE (v : Value) : List Value := [v]
theorem vals_box2 {F : Heap} {b T : Nat} {x y : Value} (h : F b = some (bx T [x, y])) : Sl F (.slice (some ⟨b, 0, none⟩) 2 2) 1 valE [x, y] :=
 Cw (xs := [x, y]) h rfl rfl (fun _ => rfl) (by decide)
theorem vals_box3 {F : Heap} {b T : Nat} {x y z : Value} (h : F b = some (bx T [x, y, z])) : Sl F (.slice (some ⟨b, 0, none⟩) 3 3) 1 valE [x, y, z] :=
 Cw (xs := [x, y, z]) h rfl rfl (fun _ => rfl) (by decide)
theorem Sl.val {F : Heap} {v : Value} {ps : List (Value × List Nat)} (h : Sl F v 1 valE (ps.map (·.1))) : Sl F v 1 slE ps := by
 refine ⟨by simpa using h.plain, fun i hi j u hu => h.cells i (by simpa using hi) j u ?_⟩
 simpa [valE, slE] using hu
theorem lsts2 {F : Heap} {v x y : Value} {a b : List Nat} (h : Sl F v 1 valE [x, y]) (h1 : Nats F x a) (h2 : Nats F y b) : Lsts F v [a, b] :=
 ⟨[(x, a), (y, b)], Sl.val h, by simp [h1, h2], rfl⟩
theorem lsts3 {F : Heap} {v x y z : Value} {a b c : List Nat} (h : Sl F v 1 valE [x, y, z]) (h1 : Nats F x a) (h2 : Nats F y b) (h3 : Nats F z c) : Lsts F v [a, b, c] :=
 ⟨[(x, a), (y, b), (z, c)], Sl.val h, by simp [h1, h2, h3], rfl⟩
def tupA (v : Value) (i : Nat) : Value := match v with
 | .tuple a => a.toList[i]?.getD v
 | _ => v
theorem LstsR.ans {F : Heap} {u : Value} {p q : List (List Nat) × Int} (h : LstsR F u p) (e : p = q) : u = .tuple #[tupA u 0, .int .i64 q.2] ∧ Lsts F (tupA u 0) q.1 := by
 subst e; obtain ⟨v, rfl, h⟩ := h; exact ⟨rfl, h⟩
theorem NatsR.ans {F : Heap} {u : Value} {p q : List Nat × Int} (h : NatsR F u p) (e : p = q) : u = .tuple #[tupA u 0, .int .i64 q.2] ∧ Nats F (tupA u 0) q.1 := by
 subst e; obtain ⟨v, rfl, h⟩ := h; exact ⟨rfl, h⟩
theorem MemR.ans {F : Heap} {u : Value} {p q : Mem} (h : MemR F u p) (e : p = q) : u = .tuple #[tupA u 0, tupA u 1, .int .i64 q.2.2] ∧ Nats F (tupA u 0) q.1 ∧ Nats F (tupA u 1) q.2.1 := by
 subst e; obtain ⟨v, w, rfl, h1, h2⟩ := h; exact ⟨rfl, h1, h2⟩
set_option maxRecDepth 100000 in
theorem awake_ok {F : Heap} : Ok Try.prog 22 [].toArray F fun u _ => u = .bool true := by
 refine Ok.intro Try.func22 rfl Try.ntmps22 rfl fun w0 => ?_
 refine Af <| Ai fun ds => Aa rfl (Ad Ab) ?_
 refine Ah <| Ae <| Af <| Ai fun ds => Bg rfl (Cm bd_35 Ay .nil sale_ok fun v1 F2 hr3 hF4 => ?_)
 obtain ⟨vs, vb, vl, vn, vd, rfl, hr⟩ := hr3
 refine Bg rfl (B7 zr_27 rfl fun b5 hb5 nb5 => ?_)
 refine Cj (B8 sz_27 (Ac) (Al rfl <| Ac) (i := 0) rfl rfl rfl rfl hr.ones (.here) ?_)
 refine Ah <| Ae <| Af <| Ai fun ds => Aa rfl (Bf Cg (Ac) rfl rfl (Bi 0 rfl)) ?_
 refine Bw rfl (A4 bd_17 Ay (.cons (Ac) (.cons Ab .nil)) (next_ok hr 50) (fun _ _ h => h.trans (show _ = Value.tuple #[.int .i64 60, .int .i64 0] by rw [ev_n1]))) ?_
 refine Aa rfl (Ag (Ac)) ?_
 refine Aa rfl (Ax (Ac) rfl) ?_
 refine Aa rfl (Ax (Al rfl <| Ac) rfl) ?_
 refine Aa rfl (Ad (Al rfl <| Ac)) ?_
 refine Aa rfl (Ad (Al rfl <| Ac)) ?_
 refine Ah <| Ae <| Af <| Ai fun ds => Aa rfl (Bf Cg (A0 rfl <| Aq rfl <| Al rfl <| Ac) rfl rfl (Bi 0 rfl)) ?_
 refine Bg rfl (Cm bd_19 Ay (.cons (Ac) (.cons Ab .nil)) ((sellTop_ok hr Sl.nil).mono fun u F2 _ h => (by rw [ev_s1] at h; exact h : ∃ ws0, u = .tuple #[ws0, .int .i64 0] ∧ Sl F2 ws0 2 Res.enc [⟨0, 60⟩, ⟨1, 73⟩, ⟨-1, 0⟩])) fun v6 F7 hr8 hF9 => ?_)
 replace hr := hr.mono hF9
 obtain ⟨hq1_, rfl, hq1⟩ := hr8
 refine Aa rfl (Ag (Ac)) ?_
 refine Aa rfl (Ax (Ac) rfl) ?_
 refine Aa rfl (Ax (Al rfl <| Ac) rfl) ?_
 refine Aa rfl (Ad (Al rfl <| Ac)) ?_
 refine Aa rfl (Ad (Al rfl <| Ac)) ?_
 refine Ah <| Ae <| Af <| Ai fun ds => Aa rfl (Bf Cg (Ba rfl <| A0 rfl <| Aq rfl <| Ac) rfl rfl (Bi 0 rfl)) ?_
 refine Bg rfl (Bq Bl Co rfl (.cons Ab (.cons Ab (.cons Ab .nil))) rfl rfl (by decide) (by simp [Value.oneCell']) fun b10 hb10 nb10 => ?_)
 refine Bb (i := 0) rfl hb10 .here fun F11 hF12 hz13 => ?_
 replace hr := hr.mono hF12
 replace hq1 := hq1.mono hF12
 have hsl14 := ints_box3 hz13
 refine Bg rfl (Cm bd_19 Ay (.cons (Al rfl <| Ac) (.cons (Ac) .nil)) ((sellTop_ok hr hsl14).mono fun u F2 _ h => (by rw [ev_s2] at h; exact h : ∃ ws0, u = .tuple #[ws0, .int .i64 0] ∧ Sl F2 ws0 2 Res.enc [⟨0, 20⟩, ⟨1, 73⟩, ⟨-1, 0⟩])) fun v15 F16 hr17 hF18 => ?_)
 replace hr := hr.mono hF18
 replace hq1 := hq1.mono hF18
 obtain ⟨hq2_, rfl, hq2⟩ := hr17
 refine Aa rfl (Ag (Ac)) ?_
 refine Aa rfl (Ax (Ac) rfl) ?_
 refine Aa rfl (Ax (Al rfl <| Ac) rfl) ?_
 refine Aa rfl (Ad (Al rfl <| Ac)) ?_
 refine Aa rfl (Ad (Al rfl <| Ac)) ?_
 refine Ah <| Ae <| Af <| Ai fun ds => Aa rfl (Bf Cg (A6 rfl <| A0 rfl <| Aq rfl <| Ac) rfl rfl (Bi 0 rfl)) ?_
 refine Bg rfl (Bq Bl Co rfl (.cons Ab (.cons Ab .nil)) rfl rfl (by decide) (by simp [Value.oneCell']) fun b19 hb19 nb19 => ?_)
 refine Bb (i := 0) rfl hb19 .here fun F20 hF21 hz22 => ?_
 replace hr := hr.mono hF21
 replace hq1 := hq1.mono hF21
 replace hq2 := hq2.mono hF21
 have hsl23 := Cq hz22
 refine Aa rfl (C1 bt_77 (.cons Ab rfl (.cons Ab rfl .nil)) (.cons rfl rfl (Nat.le_of_ble_eq_true rfl) (.cons (.here) .nil) (.cons rfl rfl (Nat.le_of_ble_eq_true rfl) (.cons (.next <| .here) .nil) .nil))) ?_
 refine Bg rfl (Cv (offs := [(0, 2)]) (zl := [.int .i64 0, .int .i64 0]) sl_40 zr_77 rfl (.cons (Ac) rfl .nil) (by intro i p h; rcases i with _ | i <;> simp at h <;> subst h <;> rfl) (.cons rfl rfl (Nat.le_of_ble_eq_true rfl) (.cons (.here) (.cons (.next <| .here) .nil)) .nil) (by decide) (by decide) fun b24 hb24 nb24 => ?_)
 refine Bb (i := 0) rfl hb24 .here fun F25 hF26 hz27 => ?_
 replace hr := hr.mono hF26
 replace hq1 := hq1.mono hF26
 replace hq2 := hq2.mono hF26
 replace hsl23 := hsl23.mono hF26
 have hsl28 := backA_box1 hz27
 refine Bg rfl (Cm bd_23 Ay (.cons (Aq rfl <| Al rfl <| Ac) (.cons (Aq rfl <| Ac) (.cons (Ac) .nil))) ((account_ok hr hsl23 hsl28).mono fun u F2 _ h => (by rw [ev_a1] at h; exact h : ∃ ws0 ws1, u = .tuple #[ws0, ws1, .int .i64 12, .int .i64 0] ∧ Ints F2 ws0 [0, 53, 0, 0] ∧ Ints F2 ws1 [41])) fun v29 F30 hr31 hF32 => ?_)
 replace hr := hr.mono hF32
 replace hq1 := hq1.mono hF32
 replace hq2 := hq2.mono hF32
 obtain ⟨hq3_, hq4_, rfl, hq3, hq4⟩ := hr31
 refine Aa rfl (Ag (Ac)) ?_
 refine Aa rfl (Ax (Ac) rfl) ?_
 refine Aa rfl (Ax (Al rfl <| Ac) rfl) ?_
 refine Aa rfl (Ax (Aq rfl <| Ac) rfl) ?_
 refine Aa rfl (Ax (Aq rfl <| Al rfl <| Ac) rfl) ?_
 refine Aa rfl (Ad (Aq rfl <| Al rfl <| Ac)) ?_
 refine Aa rfl (Ad (Aq rfl <| Al rfl <| Ac)) ?_
 refine Aa rfl (Ad (Aq rfl <| Al rfl <| Ac)) ?_
 refine Aa rfl (Ad (Aq rfl <| Al rfl <| Ac)) ?_
 refine Ah <| Ae <| Af <| Ai fun ds => Aa rfl (Bf Cg (B1 rfl <| A0 rfl <| Ac) rfl rfl (Bi 0 rfl)) ?_
 refine Bg rfl (Bq Bl Co rfl (.cons Ab (.cons Ab .nil)) rfl rfl (by decide) (by simp [Value.oneCell']) fun b33 hb33 nb33 => ?_)
 refine Bb (i := 0) rfl hb33 .here fun F34 hF35 hz36 => ?_
 replace hr := hr.mono hF35
 replace hq1 := hq1.mono hF35
 replace hq2 := hq2.mono hF35
 replace hq3 := hq3.mono hF35
 replace hq4 := hq4.mono hF35
 have hsl37 := Cq hz36
 refine Aa rfl (C1 bt_77 (.cons Ab rfl (.cons Ab rfl .nil)) (.cons rfl rfl (Nat.le_of_ble_eq_true rfl) (.cons (.here) .nil) (.cons rfl rfl (Nat.le_of_ble_eq_true rfl) (.cons (.next <| .here) .nil) .nil))) ?_
 refine Bg rfl (Cv (offs := [(0, 2)]) (zl := [.int .i64 0, .int .i64 0]) sl_40 zr_77 rfl (.cons (Ac) rfl .nil) (by intro i p h; rcases i with _ | i <;> simp at h <;> subst h <;> rfl) (.cons rfl rfl (Nat.le_of_ble_eq_true rfl) (.cons (.here) (.cons (.next <| .here) .nil)) .nil) (by decide) (by decide) fun b38 hb38 nb38 => ?_)
 refine Bb (i := 0) rfl hb38 .here fun F39 hF40 hz41 => ?_
 replace hr := hr.mono hF40
 replace hq1 := hq1.mono hF40
 replace hq2 := hq2.mono hF40
 replace hq3 := hq3.mono hF40
 replace hq4 := hq4.mono hF40
 replace hsl37 := hsl37.mono hF40
 have hsl42 := backB_box1 hz41
 refine Bg rfl (Cm bd_23 Ay (.cons (Aq rfl <| Al rfl <| Ac) (.cons (Aq rfl <| Ac) (.cons (Ac) .nil))) ((account_ok hr hsl37 hsl42).mono fun u F2 _ h => (by rw [ev_a2] at h; exact h : ∃ ws0 ws1, u = .tuple #[ws0, ws1, .int .i64 0, .int .i64 7] ∧ Ints F2 ws0 [] ∧ Ints F2 ws1 [])) fun v43 F44 hr45 hF46 => ?_)
 replace hr := hr.mono hF46
 replace hq1 := hq1.mono hF46
 replace hq2 := hq2.mono hF46
 replace hq3 := hq3.mono hF46
 replace hq4 := hq4.mono hF46
 obtain ⟨hq5_, hq6_, rfl, hq5, hq6⟩ := hr45
 refine Aa rfl (Ag (Ac)) ?_
 refine Aa rfl (Ax (Ac) rfl) ?_
 refine Aa rfl (Ax (Al rfl <| Ac) rfl) ?_
 refine Aa rfl (Ax (Aq rfl <| Ac) rfl) ?_
 refine Aa rfl (Ax (Aq rfl <| Al rfl <| Ac) rfl) ?_
 refine Aa rfl (Ad (Aq rfl <| Al rfl <| Ac)) ?_
 refine Aa rfl (Ad (Aq rfl <| Al rfl <| Ac)) ?_
 refine Aa rfl (Ad (Aq rfl <| Al rfl <| Ac)) ?_
 refine Aa rfl (Ad (Aq rfl <| Al rfl <| Ac)) ?_
 refine Ah <| Ae <| Af <| Ai fun ds => Aa rfl (Bf Cg (B1 rfl <| A6 rfl <| Aq rfl <| Ac) rfl rfl (Bi 0 rfl)) ?_
 refine Bg rfl (Bq Bl Co rfl (.cons Ab (.cons Ab (.cons Ab .nil))) rfl rfl (by decide) (by simp [Value.oneCell']) fun b47 hb47 nb47 => ?_)
 refine Bb (i := 0) rfl hb47 .here fun F48 hF49 hz50 => ?_
 replace hr := hr.mono hF49
 replace hq1 := hq1.mono hF49
 replace hq2 := hq2.mono hF49
 replace hq3 := hq3.mono hF49
 replace hq4 := hq4.mono hF49
 have hsl51 := ints_box3 hz50
 refine Bg rfl (Cm bd_26 Ay (.cons (Al rfl <| Ac) (.cons (Ac) .nil)) ((share_ok hr hsl51).mono fun u F2 _ h => (by rw [ev_h1] at h; exact h : ∃ ws0, u = .tuple #[ws0, .int .i64 0] ∧ Ints F2 ws0 [14, 13, 13])) fun v52 F53 hr54 hF55 => ?_)
 replace hr := hr.mono hF55
 replace hq1 := hq1.mono hF55
 replace hq2 := hq2.mono hF55
 replace hq3 := hq3.mono hF55
 replace hq4 := hq4.mono hF55
 obtain ⟨hq7_, rfl, hq7⟩ := hr54
 refine Aa rfl (Ag (Ac)) ?_
 refine Aa rfl (Ax (Ac) rfl) ?_
 refine Aa rfl (Ax (Al rfl <| Ac) rfl) ?_
 refine Aa rfl (Ad (Al rfl <| Ac)) ?_
 refine Aa rfl (Ad (Al rfl <| Ac)) ?_
 refine Ah <| Ae <| Af <| WC_drawF 10 (.inl rfl) (fun _ _ h => h) (by kernel_rfl) (by kernel_rfl) false rfl ([fun F v => v = .agg #[vs, .int .i64 100, .int .i64 150, .int .i64 14, vb, vl, vn, vd], fun F v => v = .agg #[.int .i64 0, .bool true, .int .i64 60, .int .i64 60], fun F v => v = .agg #[.int .i64 1, .bool true, .int .i64 48, .int .i64 48], fun F v => Sl F v 4 Ent.enc [ent1 0 60 60, ent1 1 48 48], fun F v => v = .tuple #[tupA v 0, .int .i64 0] ∧ Lsts F (tupA v 0) [[1, 3], [0, 1, 3], [1, 2, 3]], fun F v => v = .tuple #[tupA v 0, .int .i64 0] ∧ Lsts F (tupA v 0) [[1, 3], [0, 1, 3], [1, 2, 3]], fun F v => Lsts F v [[1, 3], [0, 1, 3], [1, 2, 3]], fun F v => v = .int .i64 0, fun F v => Lsts F v [[1, 3], [0, 1, 3], [1, 2, 3]], fun F v => v = .int .i64 0]) (⟨fun F F2 v hF h => h, fun F F2 v hF h => h, fun F F2 v hF h => h, fun F F2 v hF h => h.mono hF, fun F F2 v hF h => ⟨h.1, h.2.mono hF⟩, fun F F2 v hF h => ⟨h.1, h.2.mono hF⟩, fun F F2 v hF h => h.mono hF, fun F F2 v hF h => h, fun F F2 v hF h => h.mono hF, fun F F2 v hF h => h, trivial⟩) (fun ds => ?_) (fun ds => ?_)
 ·
  refine ⟨⟨⟨⟨⟨⟨⟨⟨⟨⟨trivial, ?_⟩, ?_⟩, ?_⟩, ?_⟩, ?_⟩, ?_⟩, ?_⟩, ?_⟩, ?_⟩, ?_⟩
  ·
   intro e1 F1 hF1 he hj
   refine ⟨_, _, _, _, _, rfl, ?_⟩
   refine Be (Bf Cg (Bp (Bx he (by kernel_rfl)) <| B1 rfl <| A6 rfl <| Ba rfl <| Aq rfl <| Ac) rfl rfl (Bi 0 rfl)).quiet ⟨_, rfl, Heap.le_refl _, rfl⟩
  ·
   intro e1 F1 hF1 he hj
   refine ⟨_, _, _, _, _, rfl, ?_⟩
   refine Be (A4 bd_36 Ay (.cons Ab (.cons Ab (.cons Ab .nil))) (entry_ok _ _ _) (fun _ _ h => h)) ⟨_, rfl, Heap.le_refl _, rfl⟩
  ·
   intro e1 F1 hF1 he hj
   have g72 : (e1 72) = .agg #[.int .i64 0, .bool true, .int .i64 60, .int .i64 60] := hj 1 (by kernel_rfl) (by decide)
   refine ⟨_, _, _, _, _, rfl, ?_⟩
   refine Be (A4 bd_36 Ay (.cons Ab (.cons Ab (.cons Ab .nil))) (entry_ok _ _ _) (fun _ _ h => h)) ⟨_, rfl, Heap.le_refl _, rfl⟩
  ·
   intro e1 F1 hF1 he hj
   have g72 : (e1 72) = .agg #[.int .i64 0, .bool true, .int .i64 60, .int .i64 60] := hj 1 (by kernel_rfl) (by decide)
   have g73 : (e1 73) = .agg #[.int .i64 1, .bool true, .int .i64 48, .int .i64 48] := hj 2 (by kernel_rfl) (by decide)
   refine ⟨_, _, _, _, _, rfl, ?_⟩
   refine OpX_freeze (Cv (offs := [(0, 4), (4, 4)]) (zl := [.int .i64 0, .bool false, .int .i64 0, .int .i64 0, .int .i64 0, .bool false, .int .i64 0, .int .i64 0]) D7 zr_60 rfl (.cons (Ce g72) rfl (.cons (Ce g73) rfl .nil)) (by intro i p h; rcases i with _ | _ | i <;> simp at h <;> subst h <;> rfl) (.cons rfl rfl (Nat.le_of_ble_eq_true rfl) (.cons (.here) (.cons (.next <| .here) (.cons (.next <| .next <| .here) (.cons (.next <| .next <| .next <| .here) .nil)))) (.cons rfl rfl (Nat.le_of_ble_eq_true rfl) (.cons (.next <| .next <| .next <| .next <| .here) (.cons (.next <| .next <| .next <| .next <| .next <| .here) (.cons (.next <| .next <| .next <| .next <| .next <| .next <| .here) (.cons (.next <| .next <| .next <| .next <| .next <| .next <| .next <| .here) .nil)))) .nil)) (by decide) (by decide) fun b hb nb => ⟨b, _, hb, rfl, fun F2 hF2 hz => ⟨F2, rfl, hF2, (entA_box2 hz)⟩⟩)
  ·
   intro e1 F1 hF1 he hj
   replace hr := hr.mono hF1
   have g71 : (e1 71) = .agg #[vs, .int .i64 100, .int .i64 150, .int .i64 14, vb, vl, vn, vd] := hj 0 (by kernel_rfl) (by decide)
   have g73 : (e1 73) = .agg #[.int .i64 1, .bool true, .int .i64 48, .int .i64 48] := hj 2 (by kernel_rfl) (by decide)
   have g74 : Sl F1 (e1 74) 4 Ent.enc [ent1 0 60 60, ent1 1 48 48] := hj 3 (by kernel_rfl) (by decide)
   refine ⟨_, _, _, _, _, rfl, ?_⟩
   refine Cm bd_28 Ay (.cons (Ce g71) (.cons (Ce rfl) .nil)) (D9 hr g74) fun v2 F2 hr hF2 => ⟨F2, rfl, hF2, (hr.ans ev_r1)⟩
  ·
   intro e1 F1 hF1 he hj
   have g75 : (e1 75) = .tuple #[tupA (e1 75) 0, .int .i64 0] ∧ Lsts F1 (tupA (e1 75) 0) [[1, 3], [0, 1, 3], [1, 2, 3]] := hj 4 (by kernel_rfl) (by decide)
   refine ⟨_, _, _, _, _, rfl, ?_⟩
   refine Be (Ag (Ce g75.1)).quiet ⟨_, rfl, Heap.le_refl _, ⟨rfl, g75.2⟩⟩
  ·
   intro e1 F1 hF1 he hj
   have g70 : (e1 70) = .tuple #[tupA (e1 70) 0, .int .i64 0] ∧ Lsts F1 (tupA (e1 70) 0) [[1, 3], [0, 1, 3], [1, 2, 3]] := hj 5 (by kernel_rfl) (by decide)
   refine ⟨_, _, _, _, _, rfl, ?_⟩
   refine Be (Ax (Ce g70.1) rfl).quiet ⟨_, rfl, Heap.le_refl _, g70.2⟩
  ·
   intro e1 F1 hF1 he hj
   have g70 : (e1 70) = .tuple #[tupA (e1 70) 0, .int .i64 0] ∧ Lsts F1 (tupA (e1 70) 0) [[1, 3], [0, 1, 3], [1, 2, 3]] := hj 5 (by kernel_rfl) (by decide)
   refine ⟨_, _, _, _, _, rfl, ?_⟩
   refine Be (Ax (Ce g70.1) rfl).quiet ⟨_, rfl, Heap.le_refl _, rfl⟩
  ·
   intro e1 F1 hF1 he hj
   have g71 : (e1 71) = .agg #[vs, .int .i64 100, .int .i64 150, .int .i64 14, vb, vl, vn, vd] := hj 0 (by kernel_rfl) (by decide)
   have g72 : (e1 72) = .agg #[.int .i64 0, .bool true, .int .i64 60, .int .i64 60] := hj 1 (by kernel_rfl) (by decide)
   have g73 : (e1 73) = .agg #[.int .i64 1, .bool true, .int .i64 48, .int .i64 48] := hj 2 (by kernel_rfl) (by decide)
   have g74 : Sl F1 (e1 74) 4 Ent.enc [ent1 0 60 60, ent1 1 48 48] := hj 3 (by kernel_rfl) (by decide)
   have g75 : (e1 75) = .tuple #[tupA (e1 75) 0, .int .i64 0] ∧ Lsts F1 (tupA (e1 75) 0) [[1, 3], [0, 1, 3], [1, 2, 3]] := hj 4 (by kernel_rfl) (by decide)
   have g70 : (e1 70) = .tuple #[tupA (e1 70) 0, .int .i64 0] ∧ Lsts F1 (tupA (e1 70) 0) [[1, 3], [0, 1, 3], [1, 2, 3]] := hj 5 (by kernel_rfl) (by decide)
   have g76 : Lsts F1 (e1 76) [[1, 3], [0, 1, 3], [1, 2, 3]] := hj 6 (by kernel_rfl) (by decide)
   refine ⟨_, _, _, _, _, rfl, ?_⟩
   refine Be (Ad (Ce rfl)).quiet ⟨_, rfl, Heap.le_refl _, g76⟩
  ·
   intro e1 F1 hF1 he hj
   have g71 : (e1 71) = .agg #[vs, .int .i64 100, .int .i64 150, .int .i64 14, vb, vl, vn, vd] := hj 0 (by kernel_rfl) (by decide)
   have g72 : (e1 72) = .agg #[.int .i64 0, .bool true, .int .i64 60, .int .i64 60] := hj 1 (by kernel_rfl) (by decide)
   have g73 : (e1 73) = .agg #[.int .i64 1, .bool true, .int .i64 48, .int .i64 48] := hj 2 (by kernel_rfl) (by decide)
   have g74 : Sl F1 (e1 74) 4 Ent.enc [ent1 0 60 60, ent1 1 48 48] := hj 3 (by kernel_rfl) (by decide)
   have g75 : (e1 75) = .tuple #[tupA (e1 75) 0, .int .i64 0] ∧ Lsts F1 (tupA (e1 75) 0) [[1, 3], [0, 1, 3], [1, 2, 3]] := hj 4 (by kernel_rfl) (by decide)
   have g70 : (e1 70) = .tuple #[tupA (e1 70) 0, .int .i64 0] ∧ Lsts F1 (tupA (e1 70) 0) [[1, 3], [0, 1, 3], [1, 2, 3]] := hj 5 (by kernel_rfl) (by decide)
   have g76 : Lsts F1 (e1 76) [[1, 3], [0, 1, 3], [1, 2, 3]] := hj 6 (by kernel_rfl) (by decide)
   have g77 : (e1 77) = .int .i64 0 := hj 7 (by kernel_rfl) (by decide)
   have g18 : Lsts F1 (e1 18) [[1, 3], [0, 1, 3], [1, 2, 3]] := hj 8 (by kernel_rfl) (by decide)
   refine ⟨_, _, _, _, _, rfl, ?_⟩
   refine Be (Ad (Ce g77)).quiet ⟨_, rfl, Heap.le_refl _, rfl⟩
 intro e59 F56 hF57 he58 hj
 replace hr := hr.mono hF57
 replace hq1 := hq1.mono hF57
 replace hq2 := hq2.mono hF57
 replace hq3 := hq3.mono hF57
 replace hq4 := hq4.mono hF57
 replace hq7 := hq7.mono hF57
 have g71 : (e59 71) = .agg #[vs, .int .i64 100, .int .i64 150, .int .i64 14, vb, vl, vn, vd] := hj 0 (by decide)
 have g72 : (e59 72) = .agg #[.int .i64 0, .bool true, .int .i64 60, .int .i64 60] := hj 1 (by decide)
 have g73 : (e59 73) = .agg #[.int .i64 1, .bool true, .int .i64 48, .int .i64 48] := hj 2 (by decide)
 have g74 : Sl F56 (e59 74) 4 Ent.enc [ent1 0 60 60, ent1 1 48 48] := hj 3 (by decide)
 have g75 : (e59 75) = .tuple #[tupA (e59 75) 0, .int .i64 0] ∧ Lsts F56 (tupA (e59 75) 0) [[1, 3], [0, 1, 3], [1, 2, 3]] := hj 4 (by decide)
 have g70 : (e59 70) = .tuple #[tupA (e59 70) 0, .int .i64 0] ∧ Lsts F56 (tupA (e59 70) 0) [[1, 3], [0, 1, 3], [1, 2, 3]] := hj 5 (by decide)
 have g76 : Lsts F56 (e59 76) [[1, 3], [0, 1, 3], [1, 2, 3]] := hj 6 (by decide)
 have g77 : (e59 77) = .int .i64 0 := hj 7 (by decide)
 have g18 : Lsts F56 (e59 18) [[1, 3], [0, 1, 3], [1, 2, 3]] := hj 8 (by decide)
 have g19 : (e59 19) = .int .i64 0 := hj 9 (by decide)
 refine Ae <| Af <| WC_drawF 11 (.inl rfl) (fun _ _ h => h) (by kernel_rfl) (by kernel_rfl) false rfl ([fun F v => v = .agg #[vs, .int .i64 100, .int .i64 150, .int .i64 14, vb, vl, vn, vd], fun F v => v = .agg #[.int .i64 0, .bool true, .int .i64 20, .int .i64 50], fun F v => Sl F v 4 Ent.enc [ent1 0 20 50], fun F v => v = .tuple #[tupA v 0, tupA v 1, .int .i64 0] ∧ Nats F (tupA v 0) [0, 2] ∧ Nats F (tupA v 1) [0, 1, 2, 3], fun F v => v = .tuple #[tupA v 0, tupA v 1, .int .i64 0] ∧ Nats F (tupA v 0) [0, 2] ∧ Nats F (tupA v 1) [0, 1, 2, 3], fun F v => Nats F v [0, 2], fun F v => Nats F v [0, 1, 2, 3], fun F v => v = .int .i64 0, fun F v => Nats F v [0, 2], fun F v => Nats F v [0, 1, 2, 3], fun F v => v = .int .i64 0]) (⟨fun F F2 v hF h => h, fun F F2 v hF h => h, fun F F2 v hF h => h.mono hF, fun F F2 v hF h => ⟨h.1, h.2.1.mono hF, h.2.2.mono hF⟩, fun F F2 v hF h => ⟨h.1, h.2.1.mono hF, h.2.2.mono hF⟩, fun F F2 v hF h => h.mono hF, fun F F2 v hF h => h.mono hF, fun F F2 v hF h => h, fun F F2 v hF h => h.mono hF, fun F F2 v hF h => h.mono hF, fun F F2 v hF h => h, trivial⟩) (fun ds => ?_) (fun ds => ?_)
 ·
  refine ⟨⟨⟨⟨⟨⟨⟨⟨⟨⟨⟨trivial, ?_⟩, ?_⟩, ?_⟩, ?_⟩, ?_⟩, ?_⟩, ?_⟩, ?_⟩, ?_⟩, ?_⟩, ?_⟩
  ·
   intro e1 F1 hF1 he hj
   refine ⟨_, _, _, _, _, rfl, ?_⟩
   refine Be (Bf Cg (Bp (Bx he (by kernel_rfl)) <| Bp (Bx he58 (by kernel_rfl)) <| B1 rfl <| A6 rfl <| Ba rfl <| Aq rfl <| Ac) rfl rfl (Bi 0 rfl)).quiet ⟨_, rfl, Heap.le_refl _, rfl⟩
  ·
   intro e1 F1 hF1 he hj
   refine ⟨_, _, _, _, _, rfl, ?_⟩
   refine Be (A4 bd_36 Ay (.cons Ab (.cons Ab (.cons Ab .nil))) (entry_ok _ _ _) (fun _ _ h => h)) ⟨_, rfl, Heap.le_refl _, rfl⟩
  ·
   intro e1 F1 hF1 he hj
   have g80 : (e1 80) = .agg #[.int .i64 0, .bool true, .int .i64 20, .int .i64 50] := hj 1 (by kernel_rfl) (by decide)
   refine ⟨_, _, _, _, _, rfl, ?_⟩
   refine OpX_freeze (Cv (offs := [(0, 4)]) (zl := [.int .i64 0, .bool false, .int .i64 0, .int .i64 0]) D7 zr_60 rfl (.cons (Ce g80) rfl .nil) (by intro i p h; rcases i with _ | i <;> simp at h <;> subst h <;> rfl) (.cons rfl rfl (Nat.le_of_ble_eq_true rfl) (.cons (.here) (.cons (.next <| .here) (.cons (.next <| .next <| .here) (.cons (.next <| .next <| .next <| .here) .nil)))) .nil) (by decide) (by decide) fun b hb nb => ⟨b, _, hb, rfl, fun F2 hF2 hz => ⟨F2, rfl, hF2, (entB_box1 hz)⟩⟩)
  ·
   intro e1 F1 hF1 he hj
   replace hr := hr.mono hF1
   have g79 : (e1 79) = .agg #[vs, .int .i64 100, .int .i64 150, .int .i64 14, vb, vl, vn, vd] := hj 0 (by kernel_rfl) (by decide)
   have g80 : (e1 80) = .agg #[.int .i64 0, .bool true, .int .i64 20, .int .i64 50] := hj 1 (by kernel_rfl) (by decide)
   have g81 : Sl F1 (e1 81) 4 Ent.enc [ent1 0 20 50] := hj 2 (by kernel_rfl) (by decide)
   refine ⟨_, _, _, _, _, rfl, ?_⟩
   refine Cm bd_31 Ay (.cons (Ce g79) (.cons (Ce rfl) .nil)) (members_ok hr g81) fun v2 F2 hr hF2 => ⟨F2, rfl, hF2, (hr.ans ev_m1)⟩
  ·
   intro e1 F1 hF1 he hj
   have g82 : (e1 82) = .tuple #[tupA (e1 82) 0, tupA (e1 82) 1, .int .i64 0] ∧ Nats F1 (tupA (e1 82) 0) [0, 2] ∧ Nats F1 (tupA (e1 82) 1) [0, 1, 2, 3] := hj 3 (by kernel_rfl) (by decide)
   refine ⟨_, _, _, _, _, rfl, ?_⟩
   refine Be (Ag (Ce g82.1)).quiet ⟨_, rfl, Heap.le_refl _, ⟨rfl, g82.2⟩⟩
  ·
   intro e1 F1 hF1 he hj
   have g78 : (e1 78) = .tuple #[tupA (e1 78) 0, tupA (e1 78) 1, .int .i64 0] ∧ Nats F1 (tupA (e1 78) 0) [0, 2] ∧ Nats F1 (tupA (e1 78) 1) [0, 1, 2, 3] := hj 4 (by kernel_rfl) (by decide)
   refine ⟨_, _, _, _, _, rfl, ?_⟩
   refine Be (Ax (Ce g78.1) rfl).quiet ⟨_, rfl, Heap.le_refl _, g78.2.1⟩
  ·
   intro e1 F1 hF1 he hj
   have g78 : (e1 78) = .tuple #[tupA (e1 78) 0, tupA (e1 78) 1, .int .i64 0] ∧ Nats F1 (tupA (e1 78) 0) [0, 2] ∧ Nats F1 (tupA (e1 78) 1) [0, 1, 2, 3] := hj 4 (by kernel_rfl) (by decide)
   refine ⟨_, _, _, _, _, rfl, ?_⟩
   refine Be (Ax (Ce g78.1) rfl).quiet ⟨_, rfl, Heap.le_refl _, g78.2.2⟩
  ·
   intro e1 F1 hF1 he hj
   have g78 : (e1 78) = .tuple #[tupA (e1 78) 0, tupA (e1 78) 1, .int .i64 0] ∧ Nats F1 (tupA (e1 78) 0) [0, 2] ∧ Nats F1 (tupA (e1 78) 1) [0, 1, 2, 3] := hj 4 (by kernel_rfl) (by decide)
   refine ⟨_, _, _, _, _, rfl, ?_⟩
   refine Be (Ax (Ce g78.1) rfl).quiet ⟨_, rfl, Heap.le_refl _, rfl⟩
  ·
   intro e1 F1 hF1 he hj
   have g79 : (e1 79) = .agg #[vs, .int .i64 100, .int .i64 150, .int .i64 14, vb, vl, vn, vd] := hj 0 (by kernel_rfl) (by decide)
   have g80 : (e1 80) = .agg #[.int .i64 0, .bool true, .int .i64 20, .int .i64 50] := hj 1 (by kernel_rfl) (by decide)
   have g81 : Sl F1 (e1 81) 4 Ent.enc [ent1 0 20 50] := hj 2 (by kernel_rfl) (by decide)
   have g82 : (e1 82) = .tuple #[tupA (e1 82) 0, tupA (e1 82) 1, .int .i64 0] ∧ Nats F1 (tupA (e1 82) 0) [0, 2] ∧ Nats F1 (tupA (e1 82) 1) [0, 1, 2, 3] := hj 3 (by kernel_rfl) (by decide)
   have g78 : (e1 78) = .tuple #[tupA (e1 78) 0, tupA (e1 78) 1, .int .i64 0] ∧ Nats F1 (tupA (e1 78) 0) [0, 2] ∧ Nats F1 (tupA (e1 78) 1) [0, 1, 2, 3] := hj 4 (by kernel_rfl) (by decide)
   have g83 : Nats F1 (e1 83) [0, 2] := hj 5 (by kernel_rfl) (by decide)
   refine ⟨_, _, _, _, _, rfl, ?_⟩
   refine Be (Ad (Ce rfl)).quiet ⟨_, rfl, Heap.le_refl _, g83⟩
  ·
   intro e1 F1 hF1 he hj
   have g79 : (e1 79) = .agg #[vs, .int .i64 100, .int .i64 150, .int .i64 14, vb, vl, vn, vd] := hj 0 (by kernel_rfl) (by decide)
   have g80 : (e1 80) = .agg #[.int .i64 0, .bool true, .int .i64 20, .int .i64 50] := hj 1 (by kernel_rfl) (by decide)
   have g81 : Sl F1 (e1 81) 4 Ent.enc [ent1 0 20 50] := hj 2 (by kernel_rfl) (by decide)
   have g82 : (e1 82) = .tuple #[tupA (e1 82) 0, tupA (e1 82) 1, .int .i64 0] ∧ Nats F1 (tupA (e1 82) 0) [0, 2] ∧ Nats F1 (tupA (e1 82) 1) [0, 1, 2, 3] := hj 3 (by kernel_rfl) (by decide)
   have g78 : (e1 78) = .tuple #[tupA (e1 78) 0, tupA (e1 78) 1, .int .i64 0] ∧ Nats F1 (tupA (e1 78) 0) [0, 2] ∧ Nats F1 (tupA (e1 78) 1) [0, 1, 2, 3] := hj 4 (by kernel_rfl) (by decide)
   have g83 : Nats F1 (e1 83) [0, 2] := hj 5 (by kernel_rfl) (by decide)
   have g84 : Nats F1 (e1 84) [0, 1, 2, 3] := hj 6 (by kernel_rfl) (by decide)
   have g20 : Nats F1 (e1 20) [0, 2] := hj 8 (by kernel_rfl) (by decide)
   refine ⟨_, _, _, _, _, rfl, ?_⟩
   refine Be (Ad (Ce rfl)).quiet ⟨_, rfl, Heap.le_refl _, g84⟩
  ·
   intro e1 F1 hF1 he hj
   have g79 : (e1 79) = .agg #[vs, .int .i64 100, .int .i64 150, .int .i64 14, vb, vl, vn, vd] := hj 0 (by kernel_rfl) (by decide)
   have g80 : (e1 80) = .agg #[.int .i64 0, .bool true, .int .i64 20, .int .i64 50] := hj 1 (by kernel_rfl) (by decide)
   have g81 : Sl F1 (e1 81) 4 Ent.enc [ent1 0 20 50] := hj 2 (by kernel_rfl) (by decide)
   have g82 : (e1 82) = .tuple #[tupA (e1 82) 0, tupA (e1 82) 1, .int .i64 0] ∧ Nats F1 (tupA (e1 82) 0) [0, 2] ∧ Nats F1 (tupA (e1 82) 1) [0, 1, 2, 3] := hj 3 (by kernel_rfl) (by decide)
   have g78 : (e1 78) = .tuple #[tupA (e1 78) 0, tupA (e1 78) 1, .int .i64 0] ∧ Nats F1 (tupA (e1 78) 0) [0, 2] ∧ Nats F1 (tupA (e1 78) 1) [0, 1, 2, 3] := hj 4 (by kernel_rfl) (by decide)
   have g83 : Nats F1 (e1 83) [0, 2] := hj 5 (by kernel_rfl) (by decide)
   have g84 : Nats F1 (e1 84) [0, 1, 2, 3] := hj 6 (by kernel_rfl) (by decide)
   have g85 : (e1 85) = .int .i64 0 := hj 7 (by kernel_rfl) (by decide)
   have g20 : Nats F1 (e1 20) [0, 2] := hj 8 (by kernel_rfl) (by decide)
   have g21 : Nats F1 (e1 21) [0, 1, 2, 3] := hj 9 (by kernel_rfl) (by decide)
   refine ⟨_, _, _, _, _, rfl, ?_⟩
   refine Be (Ad (Ce g85)).quiet ⟨_, rfl, Heap.le_refl _, rfl⟩
 intro e63 F60 hF61 he62 hj
 replace hr := hr.mono hF61
 replace hq1 := hq1.mono hF61
 replace hq2 := hq2.mono hF61
 replace hq3 := hq3.mono hF61
 replace hq4 := hq4.mono hF61
 replace hq7 := hq7.mono hF61
 replace g18 := g18.mono hF61
 have g79 : (e63 79) = .agg #[vs, .int .i64 100, .int .i64 150, .int .i64 14, vb, vl, vn, vd] := hj 0 (by decide)
 have g80 : (e63 80) = .agg #[.int .i64 0, .bool true, .int .i64 20, .int .i64 50] := hj 1 (by decide)
 have g81 : Sl F60 (e63 81) 4 Ent.enc [ent1 0 20 50] := hj 2 (by decide)
 have g82 : (e63 82) = .tuple #[tupA (e63 82) 0, tupA (e63 82) 1, .int .i64 0] ∧ Nats F60 (tupA (e63 82) 0) [0, 2] ∧ Nats F60 (tupA (e63 82) 1) [0, 1, 2, 3] := hj 3 (by decide)
 have g78 : (e63 78) = .tuple #[tupA (e63 78) 0, tupA (e63 78) 1, .int .i64 0] ∧ Nats F60 (tupA (e63 78) 0) [0, 2] ∧ Nats F60 (tupA (e63 78) 1) [0, 1, 2, 3] := hj 4 (by decide)
 have g83 : Nats F60 (e63 83) [0, 2] := hj 5 (by decide)
 have g84 : Nats F60 (e63 84) [0, 1, 2, 3] := hj 6 (by decide)
 have g85 : (e63 85) = .int .i64 0 := hj 7 (by decide)
 have g20 : Nats F60 (e63 20) [0, 2] := hj 8 (by decide)
 have g21 : Nats F60 (e63 21) [0, 1, 2, 3] := hj 9 (by decide)
 have g22 : (e63 22) = .int .i64 0 := hj 10 (by decide)
 refine Ae <| Af <| WC_drawF 11 (.inl rfl) (fun _ _ h => h) (by kernel_rfl) (by kernel_rfl) false rfl ([fun F v => v = .agg #[vs, .int .i64 100, .int .i64 150, .int .i64 14, vb, vl, vn, vd], fun F v => v = .agg #[.int .i64 0, .bool true, .int .i64 45, .int .i64 45], fun F v => v = .agg #[.int .i64 1, .bool true, .int .i64 48, .int .i64 48], fun F v => v = .agg #[.int .i64 2, .bool true, .int .i64 30, .int .i64 30], fun F v => Sl F v 4 Ent.enc [ent1 0 45 45, ent1 1 48 48, ent1 2 30 30], fun F v => v = .tuple #[tupA v 0, .int .i64 0] ∧ Nats F (tupA v 0) [0, 2], fun F v => v = .tuple #[tupA v 0, .int .i64 0] ∧ Nats F (tupA v 0) [0, 2], fun F v => Nats F v [0, 2], fun F v => v = .int .i64 0, fun F v => Nats F v [0, 2], fun F v => v = .int .i64 0]) (⟨fun F F2 v hF h => h, fun F F2 v hF h => h, fun F F2 v hF h => h, fun F F2 v hF h => h, fun F F2 v hF h => h.mono hF, fun F F2 v hF h => ⟨h.1, h.2.mono hF⟩, fun F F2 v hF h => ⟨h.1, h.2.mono hF⟩, fun F F2 v hF h => h.mono hF, fun F F2 v hF h => h, fun F F2 v hF h => h.mono hF, fun F F2 v hF h => h, trivial⟩) (fun ds => ?_) (fun ds => ?_)
 ·
  refine ⟨⟨⟨⟨⟨⟨⟨⟨⟨⟨⟨trivial, ?_⟩, ?_⟩, ?_⟩, ?_⟩, ?_⟩, ?_⟩, ?_⟩, ?_⟩, ?_⟩, ?_⟩, ?_⟩
  ·
   intro e1 F1 hF1 he hj
   refine ⟨_, _, _, _, _, rfl, ?_⟩
   refine Be (Bf Cg (Bp (Bx he (by kernel_rfl)) <| Bp (Bx he62 (by kernel_rfl)) <| Bp (Bx he58 (by kernel_rfl)) <| B1 rfl <| A6 rfl <| Ba rfl <| Aq rfl <| Ac) rfl rfl (Bi 0 rfl)).quiet ⟨_, rfl, Heap.le_refl _, rfl⟩
  ·
   intro e1 F1 hF1 he hj
   refine ⟨_, _, _, _, _, rfl, ?_⟩
   refine Be (A4 bd_36 Ay (.cons Ab (.cons Ab (.cons Ab .nil))) (entry_ok _ _ _) (fun _ _ h => h)) ⟨_, rfl, Heap.le_refl _, rfl⟩
  ·
   intro e1 F1 hF1 he hj
   have g88 : (e1 88) = .agg #[.int .i64 0, .bool true, .int .i64 45, .int .i64 45] := hj 1 (by kernel_rfl) (by decide)
   refine ⟨_, _, _, _, _, rfl, ?_⟩
   refine Be (A4 bd_36 Ay (.cons Ab (.cons Ab (.cons Ab .nil))) (entry_ok _ _ _) (fun _ _ h => h)) ⟨_, rfl, Heap.le_refl _, rfl⟩
  ·
   intro e1 F1 hF1 he hj
   have g89 : (e1 89) = .agg #[.int .i64 1, .bool true, .int .i64 48, .int .i64 48] := hj 2 (by kernel_rfl) (by decide)
   refine ⟨_, _, _, _, _, rfl, ?_⟩
   refine Be (A4 bd_36 Ay (.cons Ab (.cons Ab (.cons Ab .nil))) (entry_ok _ _ _) (fun _ _ h => h)) ⟨_, rfl, Heap.le_refl _, rfl⟩
  ·
   intro e1 F1 hF1 he hj
   have g88 : (e1 88) = .agg #[.int .i64 0, .bool true, .int .i64 45, .int .i64 45] := hj 1 (by kernel_rfl) (by decide)
   have g89 : (e1 89) = .agg #[.int .i64 1, .bool true, .int .i64 48, .int .i64 48] := hj 2 (by kernel_rfl) (by decide)
   have g90 : (e1 90) = .agg #[.int .i64 2, .bool true, .int .i64 30, .int .i64 30] := hj 3 (by kernel_rfl) (by decide)
   refine ⟨_, _, _, _, _, rfl, ?_⟩
   refine OpX_freeze (Cv (offs := [(0, 4), (4, 4), (8, 4)]) (zl := [.int .i64 0, .bool false, .int .i64 0, .int .i64 0, .int .i64 0, .bool false, .int .i64 0, .int .i64 0, .int .i64 0, .bool false, .int .i64 0, .int .i64 0]) D7 zr_60 rfl (.cons (Ce g88) rfl (.cons (Ce g89) rfl (.cons (Ce g90) rfl .nil))) (by intro i p h; rcases i with _ | _ | _ | i <;> simp at h <;> subst h <;> rfl) (.cons rfl rfl (Nat.le_of_ble_eq_true rfl) (.cons (.here) (.cons (.next <| .here) (.cons (.next <| .next <| .here) (.cons (.next <| .next <| .next <| .here) .nil)))) (.cons rfl rfl (Nat.le_of_ble_eq_true rfl) (.cons (.next <| .next <| .next <| .next <| .here) (.cons (.next <| .next <| .next <| .next <| .next <| .here) (.cons (.next <| .next <| .next <| .next <| .next <| .next <| .here) (.cons (.next <| .next <| .next <| .next <| .next <| .next <| .next <| .here) .nil)))) (.cons rfl rfl (Nat.le_of_ble_eq_true rfl) (.cons (.next <| .next <| .next <| .next <| .next <| .next <| .next <| .next <| .here) (.cons (.next <| .next <| .next <| .next <| .next <| .next <| .next <| .next <| .next <| .here) (.cons (.next <| .next <| .next <| .next <| .next <| .next <| .next <| .next <| .next <| .next <| .here) (.cons (.next <| .next <| .next <| .next <| .next <| .next <| .next <| .next <| .next <| .next <| .next <| .here) .nil)))) .nil))) (by decide) (by decide) fun b hb nb => ⟨b, _, hb, rfl, fun F2 hF2 hz => ⟨F2, rfl, hF2, (entC_box3 hz)⟩⟩)
  ·
   intro e1 F1 hF1 he hj
   replace hr := hr.mono hF1
   have g87 : (e1 87) = .agg #[vs, .int .i64 100, .int .i64 150, .int .i64 14, vb, vl, vn, vd] := hj 0 (by kernel_rfl) (by decide)
   have g90 : (e1 90) = .agg #[.int .i64 2, .bool true, .int .i64 30, .int .i64 30] := hj 3 (by kernel_rfl) (by decide)
   have g91 : Sl F1 (e1 91) 4 Ent.enc [ent1 0 45 45, ent1 1 48 48, ent1 2 30 30] := hj 4 (by kernel_rfl) (by decide)
   refine ⟨_, _, _, _, _, rfl, ?_⟩
   refine Cm bd_33 Ay (.cons (Ce g87) (.cons (Ce rfl) .nil)) (wrong_ok hr g91) fun v2 F2 hr hF2 => ⟨F2, rfl, hF2, (hr.ans ev_w1)⟩
  ·
   intro e1 F1 hF1 he hj
   have g92 : (e1 92) = .tuple #[tupA (e1 92) 0, .int .i64 0] ∧ Nats F1 (tupA (e1 92) 0) [0, 2] := hj 5 (by kernel_rfl) (by decide)
   refine ⟨_, _, _, _, _, rfl, ?_⟩
   refine Be (Ag (Ce g92.1)).quiet ⟨_, rfl, Heap.le_refl _, ⟨rfl, g92.2⟩⟩
  ·
   intro e1 F1 hF1 he hj
   have g86 : (e1 86) = .tuple #[tupA (e1 86) 0, .int .i64 0] ∧ Nats F1 (tupA (e1 86) 0) [0, 2] := hj 6 (by kernel_rfl) (by decide)
   refine ⟨_, _, _, _, _, rfl, ?_⟩
   refine Be (Ax (Ce g86.1) rfl).quiet ⟨_, rfl, Heap.le_refl _, g86.2⟩
  ·
   intro e1 F1 hF1 he hj
   have g86 : (e1 86) = .tuple #[tupA (e1 86) 0, .int .i64 0] ∧ Nats F1 (tupA (e1 86) 0) [0, 2] := hj 6 (by kernel_rfl) (by decide)
   refine ⟨_, _, _, _, _, rfl, ?_⟩
   refine Be (Ax (Ce g86.1) rfl).quiet ⟨_, rfl, Heap.le_refl _, rfl⟩
  ·
   intro e1 F1 hF1 he hj
   have g87 : (e1 87) = .agg #[vs, .int .i64 100, .int .i64 150, .int .i64 14, vb, vl, vn, vd] := hj 0 (by kernel_rfl) (by decide)
   have g88 : (e1 88) = .agg #[.int .i64 0, .bool true, .int .i64 45, .int .i64 45] := hj 1 (by kernel_rfl) (by decide)
   have g89 : (e1 89) = .agg #[.int .i64 1, .bool true, .int .i64 48, .int .i64 48] := hj 2 (by kernel_rfl) (by decide)
   have g90 : (e1 90) = .agg #[.int .i64 2, .bool true, .int .i64 30, .int .i64 30] := hj 3 (by kernel_rfl) (by decide)
   have g91 : Sl F1 (e1 91) 4 Ent.enc [ent1 0 45 45, ent1 1 48 48, ent1 2 30 30] := hj 4 (by kernel_rfl) (by decide)
   have g92 : (e1 92) = .tuple #[tupA (e1 92) 0, .int .i64 0] ∧ Nats F1 (tupA (e1 92) 0) [0, 2] := hj 5 (by kernel_rfl) (by decide)
   have g86 : (e1 86) = .tuple #[tupA (e1 86) 0, .int .i64 0] ∧ Nats F1 (tupA (e1 86) 0) [0, 2] := hj 6 (by kernel_rfl) (by decide)
   have g93 : Nats F1 (e1 93) [0, 2] := hj 7 (by kernel_rfl) (by decide)
   refine ⟨_, _, _, _, _, rfl, ?_⟩
   refine Be (Ad (Ce rfl)).quiet ⟨_, rfl, Heap.le_refl _, g93⟩
  ·
   intro e1 F1 hF1 he hj
   have g87 : (e1 87) = .agg #[vs, .int .i64 100, .int .i64 150, .int .i64 14, vb, vl, vn, vd] := hj 0 (by kernel_rfl) (by decide)
   have g88 : (e1 88) = .agg #[.int .i64 0, .bool true, .int .i64 45, .int .i64 45] := hj 1 (by kernel_rfl) (by decide)
   have g89 : (e1 89) = .agg #[.int .i64 1, .bool true, .int .i64 48, .int .i64 48] := hj 2 (by kernel_rfl) (by decide)
   have g90 : (e1 90) = .agg #[.int .i64 2, .bool true, .int .i64 30, .int .i64 30] := hj 3 (by kernel_rfl) (by decide)
   have g91 : Sl F1 (e1 91) 4 Ent.enc [ent1 0 45 45, ent1 1 48 48, ent1 2 30 30] := hj 4 (by kernel_rfl) (by decide)
   have g92 : (e1 92) = .tuple #[tupA (e1 92) 0, .int .i64 0] ∧ Nats F1 (tupA (e1 92) 0) [0, 2] := hj 5 (by kernel_rfl) (by decide)
   have g86 : (e1 86) = .tuple #[tupA (e1 86) 0, .int .i64 0] ∧ Nats F1 (tupA (e1 86) 0) [0, 2] := hj 6 (by kernel_rfl) (by decide)
   have g93 : Nats F1 (e1 93) [0, 2] := hj 7 (by kernel_rfl) (by decide)
   have g94 : (e1 94) = .int .i64 0 := hj 8 (by kernel_rfl) (by decide)
   have g23 : Nats F1 (e1 23) [0, 2] := hj 9 (by kernel_rfl) (by decide)
   refine ⟨_, _, _, _, _, rfl, ?_⟩
   refine Be (Ad (Ce g94)).quiet ⟨_, rfl, Heap.le_refl _, rfl⟩
 intro e67 F64 hF65 he66 hj
 replace hr := hr.mono hF65
 replace hq1 := hq1.mono hF65
 replace hq2 := hq2.mono hF65
 replace hq3 := hq3.mono hF65
 replace hq4 := hq4.mono hF65
 replace hq7 := hq7.mono hF65
 replace g18 := g18.mono hF65
 replace g20 := g20.mono hF65
 replace g21 := g21.mono hF65
 have g87 : (e67 87) = .agg #[vs, .int .i64 100, .int .i64 150, .int .i64 14, vb, vl, vn, vd] := hj 0 (by decide)
 have g88 : (e67 88) = .agg #[.int .i64 0, .bool true, .int .i64 45, .int .i64 45] := hj 1 (by decide)
 have g89 : (e67 89) = .agg #[.int .i64 1, .bool true, .int .i64 48, .int .i64 48] := hj 2 (by decide)
 have g90 : (e67 90) = .agg #[.int .i64 2, .bool true, .int .i64 30, .int .i64 30] := hj 3 (by decide)
 have g91 : Sl F64 (e67 91) 4 Ent.enc [ent1 0 45 45, ent1 1 48 48, ent1 2 30 30] := hj 4 (by decide)
 have g92 : (e67 92) = .tuple #[tupA (e67 92) 0, .int .i64 0] ∧ Nats F64 (tupA (e67 92) 0) [0, 2] := hj 5 (by decide)
 have g86 : (e67 86) = .tuple #[tupA (e67 86) 0, .int .i64 0] ∧ Nats F64 (tupA (e67 86) 0) [0, 2] := hj 6 (by decide)
 have g93 : Nats F64 (e67 93) [0, 2] := hj 7 (by decide)
 have g94 : (e67 94) = .int .i64 0 := hj 8 (by decide)
 have g23 : Nats F64 (e67 23) [0, 2] := hj 9 (by decide)
 have g24 : (e67 24) = .int .i64 0 := hj 10 (by decide)
 refine Ae <| Af <| WC_drawF 9 (.inl rfl) (fun _ _ h => h) (by kernel_rfl) (by kernel_rfl) false rfl ([fun F v => v = .agg #[vs, .int .i64 100, .int .i64 150, .int .i64 14, vb, vl, vn, vd], fun F v => v = .agg #[.int .i64 2, .bool true, .int .i64 30, .int .i64 30], fun F v => Sl F v 4 Ent.enc [ent1 2 30 30], fun F v => v = .tuple #[tupA v 0, .int .i64 8] ∧ Lsts F (tupA v 0) [], fun F v => v = .tuple #[tupA v 0, .int .i64 8] ∧ Lsts F (tupA v 0) [], fun F v => Lsts F v [], fun F v => v = .int .i64 8, fun F v => Lsts F v [], fun F v => v = .int .i64 8]) (⟨fun F F2 v hF h => h, fun F F2 v hF h => h, fun F F2 v hF h => h.mono hF, fun F F2 v hF h => ⟨h.1, h.2.mono hF⟩, fun F F2 v hF h => ⟨h.1, h.2.mono hF⟩, fun F F2 v hF h => h.mono hF, fun F F2 v hF h => h, fun F F2 v hF h => h.mono hF, fun F F2 v hF h => h, trivial⟩) (fun ds => ?_) (fun ds => ?_)
 ·
  refine ⟨⟨⟨⟨⟨⟨⟨⟨⟨trivial, ?_⟩, ?_⟩, ?_⟩, ?_⟩, ?_⟩, ?_⟩, ?_⟩, ?_⟩, ?_⟩
  ·
   intro e1 F1 hF1 he hj
   refine ⟨_, _, _, _, _, rfl, ?_⟩
   refine Be (Bf Cg (Bp (Bx he (by kernel_rfl)) <| Bp (Bx he66 (by kernel_rfl)) <| Bp (Bx he62 (by kernel_rfl)) <| Bp (Bx he58 (by kernel_rfl)) <| B1 rfl <| A6 rfl <| Ba rfl <| Aq rfl <| Ac) rfl rfl (Bi 0 rfl)).quiet ⟨_, rfl, Heap.le_refl _, rfl⟩
  ·
   intro e1 F1 hF1 he hj
   refine ⟨_, _, _, _, _, rfl, ?_⟩
   refine Be (A4 bd_36 Ay (.cons Ab (.cons Ab (.cons Ab .nil))) (entry_ok _ _ _) (fun _ _ h => h)) ⟨_, rfl, Heap.le_refl _, rfl⟩
  ·
   intro e1 F1 hF1 he hj
   have g97 : (e1 97) = .agg #[.int .i64 2, .bool true, .int .i64 30, .int .i64 30] := hj 1 (by kernel_rfl) (by decide)
   refine ⟨_, _, _, _, _, rfl, ?_⟩
   refine OpX_freeze (Cv (offs := [(0, 4)]) (zl := [.int .i64 0, .bool false, .int .i64 0, .int .i64 0]) D7 zr_60 rfl (.cons (Ce g97) rfl .nil) (by intro i p h; rcases i with _ | i <;> simp at h <;> subst h <;> rfl) (.cons rfl rfl (Nat.le_of_ble_eq_true rfl) (.cons (.here) (.cons (.next <| .here) (.cons (.next <| .next <| .here) (.cons (.next <| .next <| .next <| .here) .nil)))) .nil) (by decide) (by decide) fun b hb nb => ⟨b, _, hb, rfl, fun F2 hF2 hz => ⟨F2, rfl, hF2, (entD_box1 hz)⟩⟩)
  ·
   intro e1 F1 hF1 he hj
   replace hr := hr.mono hF1
   have g96 : (e1 96) = .agg #[vs, .int .i64 100, .int .i64 150, .int .i64 14, vb, vl, vn, vd] := hj 0 (by kernel_rfl) (by decide)
   have g97 : (e1 97) = .agg #[.int .i64 2, .bool true, .int .i64 30, .int .i64 30] := hj 1 (by kernel_rfl) (by decide)
   have g98 : Sl F1 (e1 98) 4 Ent.enc [ent1 2 30 30] := hj 2 (by kernel_rfl) (by decide)
   refine ⟨_, _, _, _, _, rfl, ?_⟩
   refine Cm bd_28 Ay (.cons (Ce g96) (.cons (Ce rfl) .nil)) (D9 hr g98) fun v2 F2 hr hF2 => ⟨F2, rfl, hF2, (hr.ans ev_r2)⟩
  ·
   intro e1 F1 hF1 he hj
   have g99 : (e1 99) = .tuple #[tupA (e1 99) 0, .int .i64 8] ∧ Lsts F1 (tupA (e1 99) 0) [] := hj 3 (by kernel_rfl) (by decide)
   refine ⟨_, _, _, _, _, rfl, ?_⟩
   refine Be (Ag (Ce g99.1)).quiet ⟨_, rfl, Heap.le_refl _, ⟨rfl, g99.2⟩⟩
  ·
   intro e1 F1 hF1 he hj
   have g95 : (e1 95) = .tuple #[tupA (e1 95) 0, .int .i64 8] ∧ Lsts F1 (tupA (e1 95) 0) [] := hj 4 (by kernel_rfl) (by decide)
   refine ⟨_, _, _, _, _, rfl, ?_⟩
   refine Be (Ax (Ce g95.1) rfl).quiet ⟨_, rfl, Heap.le_refl _, g95.2⟩
  ·
   intro e1 F1 hF1 he hj
   have g95 : (e1 95) = .tuple #[tupA (e1 95) 0, .int .i64 8] ∧ Lsts F1 (tupA (e1 95) 0) [] := hj 4 (by kernel_rfl) (by decide)
   refine ⟨_, _, _, _, _, rfl, ?_⟩
   refine Be (Ax (Ce g95.1) rfl).quiet ⟨_, rfl, Heap.le_refl _, rfl⟩
  ·
   intro e1 F1 hF1 he hj
   have g96 : (e1 96) = .agg #[vs, .int .i64 100, .int .i64 150, .int .i64 14, vb, vl, vn, vd] := hj 0 (by kernel_rfl) (by decide)
   have g97 : (e1 97) = .agg #[.int .i64 2, .bool true, .int .i64 30, .int .i64 30] := hj 1 (by kernel_rfl) (by decide)
   have g98 : Sl F1 (e1 98) 4 Ent.enc [ent1 2 30 30] := hj 2 (by kernel_rfl) (by decide)
   have g99 : (e1 99) = .tuple #[tupA (e1 99) 0, .int .i64 8] ∧ Lsts F1 (tupA (e1 99) 0) [] := hj 3 (by kernel_rfl) (by decide)
   have g95 : (e1 95) = .tuple #[tupA (e1 95) 0, .int .i64 8] ∧ Lsts F1 (tupA (e1 95) 0) [] := hj 4 (by kernel_rfl) (by decide)
   have g100 : Lsts F1 (e1 100) [] := hj 5 (by kernel_rfl) (by decide)
   refine ⟨_, _, _, _, _, rfl, ?_⟩
   refine Be (Ad (Ce rfl)).quiet ⟨_, rfl, Heap.le_refl _, g100⟩
  ·
   intro e1 F1 hF1 he hj
   have g96 : (e1 96) = .agg #[vs, .int .i64 100, .int .i64 150, .int .i64 14, vb, vl, vn, vd] := hj 0 (by kernel_rfl) (by decide)
   have g97 : (e1 97) = .agg #[.int .i64 2, .bool true, .int .i64 30, .int .i64 30] := hj 1 (by kernel_rfl) (by decide)
   have g98 : Sl F1 (e1 98) 4 Ent.enc [ent1 2 30 30] := hj 2 (by kernel_rfl) (by decide)
   have g99 : (e1 99) = .tuple #[tupA (e1 99) 0, .int .i64 8] ∧ Lsts F1 (tupA (e1 99) 0) [] := hj 3 (by kernel_rfl) (by decide)
   have g95 : (e1 95) = .tuple #[tupA (e1 95) 0, .int .i64 8] ∧ Lsts F1 (tupA (e1 95) 0) [] := hj 4 (by kernel_rfl) (by decide)
   have g100 : Lsts F1 (e1 100) [] := hj 5 (by kernel_rfl) (by decide)
   have g101 : (e1 101) = .int .i64 8 := hj 6 (by kernel_rfl) (by decide)
   have g25 : Lsts F1 (e1 25) [] := hj 7 (by kernel_rfl) (by decide)
   refine ⟨_, _, _, _, _, rfl, ?_⟩
   refine Be (Ad (Ce g101)).quiet ⟨_, rfl, Heap.le_refl _, rfl⟩
 intro e71 F68 hF69 he70 hj
 replace hq1 := hq1.mono hF69
 replace hq2 := hq2.mono hF69
 replace hq3 := hq3.mono hF69
 replace hq4 := hq4.mono hF69
 replace hq7 := hq7.mono hF69
 replace g18 := g18.mono hF69
 replace g20 := g20.mono hF69
 replace g21 := g21.mono hF69
 replace g23 := g23.mono hF69
 have g96 : (e71 96) = .agg #[vs, .int .i64 100, .int .i64 150, .int .i64 14, vb, vl, vn, vd] := hj 0 (by decide)
 have g97 : (e71 97) = .agg #[.int .i64 2, .bool true, .int .i64 30, .int .i64 30] := hj 1 (by decide)
 have g98 : Sl F68 (e71 98) 4 Ent.enc [ent1 2 30 30] := hj 2 (by decide)
 have g99 : (e71 99) = .tuple #[tupA (e71 99) 0, .int .i64 8] ∧ Lsts F68 (tupA (e71 99) 0) [] := hj 3 (by decide)
 have g95 : (e71 95) = .tuple #[tupA (e71 95) 0, .int .i64 8] ∧ Lsts F68 (tupA (e71 95) 0) [] := hj 4 (by decide)
 have g100 : Lsts F68 (e71 100) [] := hj 5 (by decide)
 have g101 : (e71 101) = .int .i64 8 := hj 6 (by decide)
 have g25 : Lsts F68 (e71 25) [] := hj 7 (by decide)
 have g26 : (e71 26) = .int .i64 8 := hj 8 (by decide)
 refine Ae <| Af <| Ai fun ds => Aa rfl (Ag (Bp (Bx he70 (by kernel_rfl)) <| Bp (Bx he66 (by kernel_rfl)) <| Bp (Bx he62 (by kernel_rfl)) <| Bp (Bx he58 (by kernel_rfl)) <| B1 rfl <| A6 rfl <| Aq rfl <| Al rfl <| Ac)) ?_
 refine Aa rfl (B9 (Ac) Ab) ?_
 refine Aa rfl (Ag (Ac)) ?_
 refine Ap rfl rfl (Ac) (by first | rfl | decide) ?_
 refine Aa rfl (Ag (Aq rfl <| Al rfl <| Bp (Bx he70 (by kernel_rfl)) <| Bp (Bx he66 (by kernel_rfl)) <| Bp (Bx he62 (by kernel_rfl)) <| Bp (Bx he58 (by kernel_rfl)) <| B1 rfl <| Ba rfl <| A0 rfl <| Ac)) ?_
 refine Ap rfl rfl (Al rfl <| Ac) (by first | rfl | decide) ?_
 refine Aa rfl (B9 (Ac) Ab) ?_
 refine Aa rfl (A1 (Aq rfl <| Ac) (by first | rfl | decide) (Ac)) ?_
 refine Aa rfl (Ag (Ac)) ?_
 refine Ap rfl rfl (Ac) (by first | rfl | decide) ?_
 refine Aa rfl (Ag (A0 rfl <| Aq rfl <| Al rfl <| Bp (Bx he70 (by kernel_rfl)) <| Bp (Bx he66 (by kernel_rfl)) <| Bp (Bx he62 (by kernel_rfl)) <| Bp (Bx he58 (by kernel_rfl)) <| B1 rfl <| A0 rfl <| Ac)) ?_
 refine Ap rfl rfl (Al rfl <| Ac) (by first | rfl | decide) ?_
 refine Aa rfl (B9 (Ac) Ab) ?_
 refine Aa rfl (A1 (Aq rfl <| Ac) (by first | rfl | decide) (Ac)) ?_
 refine Aa rfl (Ag (Ac)) ?_
 refine Ap rfl rfl (Ac) (by first | rfl | decide) ?_
 refine Aa rfl (Ag (Ba rfl <| Aq rfl <| Al rfl <| Bp (Bx he70 (by kernel_rfl)) <| Bp (Bx he66 (by kernel_rfl)) <| Bp (Bx he62 (by kernel_rfl)) <| Bp (Bx he58 (by kernel_rfl)) <| A6 rfl <| A0 rfl <| Aq rfl <| Ac)) ?_
 refine Ap rfl rfl (Al rfl <| Ac) (by first | rfl | decide) ?_
 refine Aa rfl (B9 (Ac) Ab) ?_
 refine Aa rfl (A1 (Aq rfl <| Ac) (by first | rfl | decide) (Ac)) ?_
 refine Aa rfl (Ag (Ac)) ?_
 refine Ap rfl rfl (Ac) (by first | rfl | decide) ?_
 refine Aa rfl (Ag (Ba rfl <| A0 rfl <| Aq rfl <| Al rfl <| Bp (Bx he70 (by kernel_rfl)) <| Bp (Bx he66 (by kernel_rfl)) <| Bp (Bx he62 (by kernel_rfl)) <| Bp (Bx he58 (by kernel_rfl)) <| Ac)) ?_
 refine Ap rfl rfl (Al rfl <| Ac) (by first | rfl | decide) ?_
 refine Aa rfl (B9 (Ac) Ab) ?_
 refine Aa rfl (A1 (Aq rfl <| Ac) (by first | rfl | decide) (Ac)) ?_
 refine Aa rfl (Ag (Ac)) ?_
 refine Ap rfl rfl (Ac) (by first | rfl | decide) ?_
 refine Aa rfl (Ag (A6 rfl <| Aq rfl <| Al rfl <| Bp (Bx he70 (by kernel_rfl)) <| Bp (Bx he66 (by kernel_rfl)) <| Bp (Bx he62 (by kernel_rfl)) <| Ce g19)) ?_
 refine Ap rfl rfl (Al rfl <| Ac) (by first | rfl | decide) ?_
 refine Aa rfl (B9 (Ac) Ab) ?_
 refine Aa rfl (A1 (Aq rfl <| Ac) (by first | rfl | decide) (Ac)) ?_
 refine Aa rfl (Ag (Ac)) ?_
 refine Ap rfl rfl (Ac) (by first | rfl | decide) ?_
 refine Aa rfl (Ag (A6 rfl <| A0 rfl <| Aq rfl <| Al rfl <| Bp (Bx he70 (by kernel_rfl)) <| Bp (Bx he66 (by kernel_rfl)) <| Ce g22)) ?_
 refine Ap rfl rfl (Al rfl <| Ac) (by first | rfl | decide) ?_
 refine Aa rfl (B9 (Ac) Ab) ?_
 refine Aa rfl (A1 (Aq rfl <| Ac) (by first | rfl | decide) (Ac)) ?_
 refine Aa rfl (Ag (Ac)) ?_
 refine Ap rfl rfl (Ac) (by first | rfl | decide) ?_
 refine Aa rfl (Ag (A6 rfl <| Ba rfl <| Aq rfl <| Al rfl <| Bp (Bx he70 (by kernel_rfl)) <| Ce g24)) ?_
 refine Ap rfl rfl (Al rfl <| Ac) (by first | rfl | decide) ?_
 refine Aa rfl (B9 (Ac) Ab) ?_
 refine Aa rfl (A1 (Aq rfl <| Ac) (by first | rfl | decide) (Ac)) ?_
 refine Aa rfl (Ag (Ac)) ?_
 refine Ap rfl rfl (Ac) (by first | rfl | decide) ?_
 refine Aa rfl (Ag (A6 rfl <| Ba rfl <| A0 rfl <| Aq rfl <| Al rfl <| Bp (Bx he70 (by kernel_rfl)) <| Bp (Bx he66 (by kernel_rfl)) <| Bp (Bx he62 (by kernel_rfl)) <| Bp (Bx he58 (by kernel_rfl)) <| Ba rfl <| Ac)) ?_
 refine Ap rfl rfl (Al rfl <| Ac) (by first | rfl | decide) ?_
 refine Aa rfl (B9 (Ac) Ab) ?_
 refine Aa rfl (A1 (Aq rfl <| Ac) (by first | rfl | decide) (Ac)) ?_
 refine Aa rfl (Ag (Ac)) ?_
 refine Ap rfl rfl (Ac) (by first | rfl | decide) ?_
 refine Aa rfl (Ag (B1 rfl <| Aq rfl <| Al rfl <| Ce g26)) ?_
 refine Ap rfl rfl (Al rfl <| Ac) (by first | rfl | decide) ?_
 refine Aa rfl (B9 (Ac) Ab) ?_
 refine Aa rfl (A1 (Aq rfl <| Ac) (by first | rfl | decide) (Ac)) ?_
 refine Aa rfl (Ag (Ac)) ?_
 refine Ap rfl rfl (Ac) (by first | rfl | decide) ?_
 refine Aa rfl (Ag (B1 rfl <| A0 rfl <| Aq rfl <| Al rfl <| Bp (Bx he70 (by kernel_rfl)) <| Bp (Bx he66 (by kernel_rfl)) <| Bp (Bx he62 (by kernel_rfl)) <| Bp (Bx he58 (by kernel_rfl)) <| B1 rfl <| A6 rfl <| A0 rfl <| Ac)) ?_
 refine Ap rfl rfl (Al rfl <| Ac) (by first | rfl | decide) ?_
 refine Aa rfl (B9 (Ac) Ab) ?_
 refine Aa rfl (A1 (Aq rfl <| Ac) (by first | rfl | decide) (Ac)) ?_
 refine Aa rfl (Ag (Ac)) ?_
 refine Ap rfl rfl (Ac) (by first | rfl | decide) ?_
 refine Aa rfl (Ag (B1 rfl <| Ba rfl <| Aq rfl <| Al rfl <| Bp (Bx he70 (by kernel_rfl)) <| Bp (Bx he66 (by kernel_rfl)) <| Bp (Bx he62 (by kernel_rfl)) <| Bp (Bx he58 (by kernel_rfl)) <| B1 rfl <| Ba rfl <| A0 rfl <| Al rfl <| Ac)) ?_
 refine Ap rfl rfl (Al rfl <| Ac) (by first | rfl | decide) ?_
 refine Bw rfl (A4 bd_37 Ay (.cons Ab (.cons Ab .nil)) (C7 _ _) (fun _ _ h => h)) ?_
 refine Ap rfl rfl (Aq rfl <| Ac) (by first | rfl | decide) ?_
 refine Bw rfl (A4 bd_37 Ay (.cons Ab (.cons Ab .nil)) (C7 _ _) (fun _ _ h => h)) ?_
 refine Ap rfl rfl (Aq rfl <| Al rfl <| Ac) (by first | rfl | decide) ?_
 refine Bw rfl (A4 bd_37 Ay (.cons Ab (.cons Ab .nil)) (C7 _ _) (fun _ _ h => h)) ?_
 refine Ap rfl rfl (A0 rfl <| Ac) (by first | rfl | decide) ?_
 refine Bg rfl (Cv (offs := [(0, 2), (2, 2), (4, 2)]) (zl := [.int .i64 0, .int .i64 0, .int .i64 0, .int .i64 0, .int .i64 0, .int .i64 0]) C5 zr_63 rfl (.cons (Aq rfl <| Ac) rfl (.cons (Al rfl <| Ac) rfl (.cons (Ac) rfl .nil))) (by intro i p h; rcases i with _ | _ | _ | i <;> simp at h <;> subst h <;> rfl) (.cons rfl rfl (Nat.le_of_ble_eq_true rfl) (.cons (.here) (.cons (.next <| .here) .nil)) (.cons rfl rfl (Nat.le_of_ble_eq_true rfl) (.cons (.next <| .next <| .here) (.cons (.next <| .next <| .next <| .here) .nil)) (.cons rfl rfl (Nat.le_of_ble_eq_true rfl) (.cons (.next <| .next <| .next <| .next <| .here) (.cons (.next <| .next <| .next <| .next <| .next <| .here) .nil)) .nil))) (by decide) (by decide) fun b72 hb72 nb72 => ?_)
 refine Bb (i := 0) rfl hb72 .here fun F73 hF74 hz75 => ?_
 replace hq1 := hq1.mono hF74
 replace hq2 := hq2.mono hF74
 replace hq3 := hq3.mono hF74
 replace hq4 := hq4.mono hF74
 replace hq7 := hq7.mono hF74
 replace g18 := g18.mono hF74
 replace g20 := g20.mono hF74
 replace g21 := g21.mono hF74
 replace g23 := g23.mono hF74
 have hsl76 := resA_box3 hz75
 refine Ap rfl rfl (A0 rfl <| Al rfl <| Ac) (by first | rfl | decide) ?_
 refine Bw rfl (A4 bd_21 Ay (.cons (A0 rfl <| Ac) (.cons (Ac) .nil)) (refSame_ok hq1 hsl76) (fun _ _ h => h)) ?_
 refine Aa rfl (A1 (A0 rfl <| Aq rfl <| Ac) (by first | rfl | decide) (Ac)) ?_
 refine Aa rfl (Ag (Ac)) ?_
 refine Ap rfl rfl (Ac) (by first | rfl | decide) ?_
 refine Aa rfl (Ag (B1 rfl <| A6 rfl <| Aq rfl <| Al rfl <| Bp (Bx he70 (by kernel_rfl)) <| Bp (Bx he66 (by kernel_rfl)) <| Bp (Bx he62 (by kernel_rfl)) <| Bp (Bx he58 (by kernel_rfl)) <| B1 rfl <| A0 rfl <| Al rfl <| Ac)) ?_
 refine Ap rfl rfl (Al rfl <| Ac) (by first | rfl | decide) ?_
 refine Bw rfl (A4 bd_37 Ay (.cons Ab (.cons Ab .nil)) (C7 _ _) (fun _ _ h => h)) ?_
 refine Ap rfl rfl (Aq rfl <| Ac) (by first | rfl | decide) ?_
 refine Bw rfl (A4 bd_37 Ay (.cons Ab (.cons Ab .nil)) (C7 _ _) (fun _ _ h => h)) ?_
 refine Ap rfl rfl (Aq rfl <| Al rfl <| Ac) (by first | rfl | decide) ?_
 refine Bw rfl (A4 bd_37 Ay (.cons Ab (.cons Ab .nil)) (C7 _ _) (fun _ _ h => h)) ?_
 refine Ap rfl rfl (A0 rfl <| Ac) (by first | rfl | decide) ?_
 refine Bg rfl (Cv (offs := [(0, 2), (2, 2), (4, 2)]) (zl := [.int .i64 0, .int .i64 0, .int .i64 0, .int .i64 0, .int .i64 0, .int .i64 0]) C5 zr_63 rfl (.cons (Aq rfl <| Ac) rfl (.cons (Al rfl <| Ac) rfl (.cons (Ac) rfl .nil))) (by intro i p h; rcases i with _ | _ | _ | i <;> simp at h <;> subst h <;> rfl) (.cons rfl rfl (Nat.le_of_ble_eq_true rfl) (.cons (.here) (.cons (.next <| .here) .nil)) (.cons rfl rfl (Nat.le_of_ble_eq_true rfl) (.cons (.next <| .next <| .here) (.cons (.next <| .next <| .next <| .here) .nil)) (.cons rfl rfl (Nat.le_of_ble_eq_true rfl) (.cons (.next <| .next <| .next <| .next <| .here) (.cons (.next <| .next <| .next <| .next <| .next <| .here) .nil)) .nil))) (by decide) (by decide) fun b77 hb77 nb77 => ?_)
 refine Bb (i := 0) rfl hb77 .here fun F78 hF79 hz80 => ?_
 replace hq2 := hq2.mono hF79
 replace hq3 := hq3.mono hF79
 replace hq4 := hq4.mono hF79
 replace hq7 := hq7.mono hF79
 replace g18 := g18.mono hF79
 replace g20 := g20.mono hF79
 replace g21 := g21.mono hF79
 replace g23 := g23.mono hF79
 have hsl81 := resB_box3 hz80
 refine Ap rfl rfl (A0 rfl <| Al rfl <| Ac) (by first | rfl | decide) ?_
 refine Bw rfl (A4 bd_21 Ay (.cons (A0 rfl <| Ac) (.cons (Ac) .nil)) (refSame_ok hq2 hsl81) (fun _ _ h => h)) ?_
 refine Aa rfl (A1 (A0 rfl <| Aq rfl <| Ac) (by first | rfl | decide) (Ac)) ?_
 refine Aa rfl (Ag (Ac)) ?_
 refine Ap rfl rfl (Ac) (by first | rfl | decide) ?_
 refine Aa rfl (Ag (B1 rfl <| A6 rfl <| Ba rfl <| Aq rfl <| Al rfl <| Bp (Bx he70 (by kernel_rfl)) <| Bp (Bx he66 (by kernel_rfl)) <| Bp (Bx he62 (by kernel_rfl)) <| Bp (Bx he58 (by kernel_rfl)) <| A6 rfl <| Ba rfl <| Al rfl <| Ac)) ?_
 refine Ap rfl rfl (Al rfl <| Ac) (by first | rfl | decide) ?_
 refine Bg rfl (Bq Bl Co rfl (.cons Ab (.cons Ab (.cons Ab (.cons Ab .nil)))) rfl rfl (by decide) (by simp [Value.oneCell']) fun b82 hb82 nb82 => ?_)
 refine Bb (i := 0) rfl hb82 .here fun F83 hF84 hz85 => ?_
 replace hq3 := hq3.mono hF84
 replace hq4 := hq4.mono hF84
 replace hq7 := hq7.mono hF84
 replace g18 := g18.mono hF84
 replace g20 := g20.mono hF84
 replace g21 := g21.mono hF84
 replace g23 := g23.mono hF84
 have hsl86 := ints_box4 hz85
 refine Ap rfl rfl (Aq rfl <| Ac) (by first | rfl | decide) ?_
 refine Bw rfl (A4 bd_25 Ay (.cons (Al rfl <| Ac) (.cons (Ac) .nil)) (D3 hq3 hsl86) (fun _ _ h => h)) ?_
 refine Aa rfl (A1 (Aq rfl <| Al rfl <| Ac) (by first | rfl | decide) (Ac)) ?_
 refine Aa rfl (Ag (Ac)) ?_
 refine Ap rfl rfl (Ac) (by first | rfl | decide) ?_
 refine Aa rfl (Ag (B1 rfl <| B1 rfl <| Bp (Bx he70 (by kernel_rfl)) <| Bp (Bx he66 (by kernel_rfl)) <| Bp (Bx he62 (by kernel_rfl)) <| Bp (Bx he58 (by kernel_rfl)) <| A6 rfl <| Ba rfl <| Ac)) ?_
 refine Ap rfl rfl (Al rfl <| Ac) (by first | rfl | decide) ?_
 refine Bg rfl (Bq Bl Co rfl (.cons Ab .nil) rfl rfl (by decide) (by simp [Value.oneCell']) fun b87 hb87 nb87 => ?_)
 refine Bb (i := 0) rfl hb87 .here fun F88 hF89 hz90 => ?_
 replace hq4 := hq4.mono hF89
 replace hq7 := hq7.mono hF89
 replace g18 := g18.mono hF89
 replace g20 := g20.mono hF89
 replace g21 := g21.mono hF89
 replace g23 := g23.mono hF89
 have hsl91 := Ca hz90
 refine Ap rfl rfl (Aq rfl <| Ac) (by first | rfl | decide) ?_
 refine Bw rfl (A4 bd_25 Ay (.cons (Al rfl <| Ac) (.cons (Ac) .nil)) (D3 hq4 hsl91) (fun _ _ h => h)) ?_
 refine Aa rfl (A1 (Aq rfl <| Al rfl <| Ac) (by first | rfl | decide) (Ac)) ?_
 refine Aa rfl (Ag (Ac)) ?_
 refine Ap rfl rfl (Ac) (by first | rfl | decide) ?_
 refine Aa rfl (Ag (B1 rfl <| B1 rfl <| A0 rfl <| Al rfl <| Bp (Bx he70 (by kernel_rfl)) <| Bp (Bx he66 (by kernel_rfl)) <| Bp (Bx he62 (by kernel_rfl)) <| Bp (Bx he58 (by kernel_rfl)) <| A6 rfl <| A0 rfl <| Aq rfl <| Al rfl <| Ac)) ?_
 refine Ap rfl rfl (Al rfl <| Ac) (by first | rfl | decide) ?_
 refine Aa rfl (B9 (Ac) Ab) ?_
 refine Aa rfl (A1 (Aq rfl <| Ac) (by first | rfl | decide) (Ac)) ?_
 refine Aa rfl (Ag (Ac)) ?_
 refine Ap rfl rfl (Ac) (by first | rfl | decide) ?_
 refine Aa rfl (Ag (B1 rfl <| B1 rfl <| Ba rfl <| Al rfl <| Bp (Bx he70 (by kernel_rfl)) <| Bp (Bx he66 (by kernel_rfl)) <| Bp (Bx he62 (by kernel_rfl)) <| Bp (Bx he58 (by kernel_rfl)) <| Al rfl <| Ac)) ?_
 refine Ap rfl rfl (Al rfl <| Ac) (by first | rfl | decide) ?_
 refine Bg rfl (Bq Bl Co rfl (.cons Ab (.cons Ab (.cons Ab .nil))) rfl rfl (by decide) (by simp [Value.oneCell']) fun b92 hb92 nb92 => ?_)
 refine Bb (i := 0) rfl hb92 .here fun F93 hF94 hz95 => ?_
 replace hq7 := hq7.mono hF94
 replace g18 := g18.mono hF94
 replace g20 := g20.mono hF94
 replace g21 := g21.mono hF94
 replace g23 := g23.mono hF94
 have hsl96 := ints_box3 hz95
 refine Ap rfl rfl (Aq rfl <| Ac) (by first | rfl | decide) ?_
 refine Bw rfl (A4 bd_25 Ay (.cons (Al rfl <| Ac) (.cons (Ac) .nil)) (D3 hq7 hsl96) (fun _ _ h => h)) ?_
 refine Aa rfl (A1 (Aq rfl <| Al rfl <| Ac) (by first | rfl | decide) (Ac)) ?_
 refine Aa rfl (Ag (Ac)) ?_
 refine Ap rfl rfl (Ac) (by first | rfl | decide) ?_
 refine Aa rfl (Ag (B1 rfl <| B1 rfl <| Ba rfl <| A0 rfl <| Aq rfl <| Bp (Bx he70 (by kernel_rfl)) <| Bp (Bx he66 (by kernel_rfl)) <| Bp (Bx he62 (by kernel_rfl)) <| Ce rfl)) ?_
 refine Ap rfl rfl (Al rfl <| Ac) (by first | rfl | decide) ?_
 refine Bg rfl (Bq Bl Co rfl (.cons Ab (.cons Ab .nil)) rfl rfl (by decide) (by simp [Value.oneCell']) fun b97 hb97 nb97 => ?_)
 refine Bb (i := 0) rfl hb97 .here fun F98 hF99 hz100 => ?_
 replace g18 := g18.mono hF99
 replace g20 := g20.mono hF99
 replace g21 := g21.mono hF99
 replace g23 := g23.mono hF99
 have hsl101 := n13_box2 hz100
 refine Ap rfl rfl (Aq rfl <| Ac) (by first | rfl | decide) ?_
 refine Bg rfl (Bq Bl Co rfl (.cons Ab (.cons Ab (.cons Ab .nil))) rfl rfl (by decide) (by simp [Value.oneCell']) fun b102 hb102 nb102 => ?_)
 refine Bb (i := 0) rfl hb102 .here fun F103 hF104 hz105 => ?_
 replace g18 := g18.mono hF104
 replace g20 := g20.mono hF104
 replace g21 := g21.mono hF104
 replace g23 := g23.mono hF104
 replace hsl101 := hsl101.mono hF104
 have hsl106 := n013_box3 hz105
 refine Ap rfl rfl (Aq rfl <| Al rfl <| Ac) (by first | rfl | decide) ?_
 refine Bg rfl (Bq Bl Co rfl (.cons Ab (.cons Ab (.cons Ab .nil))) rfl rfl (by decide) (by simp [Value.oneCell']) fun b107 hb107 nb107 => ?_)
 refine Bb (i := 0) rfl hb107 .here fun F108 hF109 hz110 => ?_
 replace g18 := g18.mono hF109
 replace g20 := g20.mono hF109
 replace g21 := g21.mono hF109
 replace g23 := g23.mono hF109
 replace hsl101 := hsl101.mono hF109
 replace hsl106 := hsl106.mono hF109
 have hsl111 := n123_box3 hz110
 refine Ap rfl rfl (A0 rfl <| Ac) (by first | rfl | decide) ?_
 refine Bg rfl (Bq D0 zr_28 rfl (.cons (Aq rfl <| Ac) (.cons (Al rfl <| Ac) (.cons (Ac) .nil))) rfl rfl (by decide) (by simp [Value.oneCell']) fun b112 hb112 nb112 => ?_)
 refine Bb (i := 0) rfl hb112 .here fun F113 hF114 hz115 => ?_
 replace g18 := g18.mono hF114
 replace g20 := g20.mono hF114
 replace g21 := g21.mono hF114
 replace g23 := g23.mono hF114
 replace hsl101 := hsl101.mono hF114
 replace hsl106 := hsl106.mono hF114
 replace hsl111 := hsl111.mono hF114
 have hsl116 := vals_box3 hz115
 refine Ap rfl rfl (A0 rfl <| Al rfl <| Ac) (by first | rfl | decide) ?_
 refine Bw rfl (A4 bd_30 Ay (.cons (A0 rfl <| Ac) (.cons (Ac) .nil)) (alike_ok g18 (lsts3 hsl116 hsl101 hsl106 hsl111)) (fun _ _ h => h)) ?_
 refine Aa rfl (A1 (A0 rfl <| Aq rfl <| Ac) (by first | rfl | decide) (Ac)) ?_
 refine Aa rfl (Ag (Ac)) ?_
 refine Ap rfl rfl (Ac) (by first | rfl | decide) ?_
 refine Aa rfl (Ag (B1 rfl <| B1 rfl <| A6 rfl <| A0 rfl <| Aq rfl <| Bp (Bx he70 (by kernel_rfl)) <| Bp (Bx he66 (by kernel_rfl)) <| Ce rfl)) ?_
 refine Ap rfl rfl (Al rfl <| Ac) (by first | rfl | decide) ?_
 refine Bg rfl (Bq Bl Co rfl (.cons Ab (.cons Ab .nil)) rfl rfl (by decide) (by simp [Value.oneCell']) fun b117 hb117 nb117 => ?_)
 refine Bb (i := 0) rfl hb117 .here fun F118 hF119 hz120 => ?_
 replace g20 := g20.mono hF119
 replace g21 := g21.mono hF119
 replace g23 := g23.mono hF119
 have hsl121 := n02_box2 hz120
 refine Ap rfl rfl (Aq rfl <| Ac) (by first | rfl | decide) ?_
 refine Bw rfl (A4 bd_25 Ay (.cons (Al rfl <| Ac) (.cons (Ac) .nil)) (refInts_nat g20 hsl121) (fun _ _ h => h)) ?_
 refine Aa rfl (A1 (Aq rfl <| Al rfl <| Ac) (by first | rfl | decide) (Ac)) ?_
 refine Aa rfl (Ag (Ac)) ?_
 refine Ap rfl rfl (Ac) (by first | rfl | decide) ?_
 refine Aa rfl (Ag (B1 rfl <| B1 rfl <| A6 rfl <| Ba rfl <| Aq rfl <| Al rfl <| Bp (Bx he70 (by kernel_rfl)) <| Bp (Bx he66 (by kernel_rfl)) <| Ce rfl)) ?_
 refine Ap rfl rfl (Al rfl <| Ac) (by first | rfl | decide) ?_
 refine Bg rfl (Bq Bl Co rfl (.cons Ab (.cons Ab (.cons Ab (.cons Ab .nil)))) rfl rfl (by decide) (by simp [Value.oneCell']) fun b122 hb122 nb122 => ?_)
 refine Bb (i := 0) rfl hb122 .here fun F123 hF124 hz125 => ?_
 replace g21 := g21.mono hF124
 replace g23 := g23.mono hF124
 have hsl126 := n0123_box4 hz125
 refine Ap rfl rfl (Aq rfl <| Ac) (by first | rfl | decide) ?_
 refine Bw rfl (A4 bd_25 Ay (.cons (Al rfl <| Ac) (.cons (Ac) .nil)) (refInts_nat g21 hsl126) (fun _ _ h => h)) ?_
 refine Aa rfl (A1 (Aq rfl <| Al rfl <| Ac) (by first | rfl | decide) (Ac)) ?_
 refine Aa rfl (Ag (Ac)) ?_
 refine Ap rfl rfl (Ac) (by first | rfl | decide) ?_
 refine Aa rfl (Ag (B1 rfl <| B1 rfl <| B1 rfl <| Bp (Bx he70 (by kernel_rfl)) <| Ce rfl)) ?_
 refine Ap rfl rfl (Al rfl <| Ac) (by first | rfl | decide) ?_
 refine Bg rfl (Bq Bl Co rfl (.cons Ab (.cons Ab .nil)) rfl rfl (by decide) (by simp [Value.oneCell']) fun b127 hb127 nb127 => ?_)
 refine Bb (i := 0) rfl hb127 .here fun F128 hF129 hz130 => ?_
 replace g23 := g23.mono hF129
 have hsl131 := n02_box2 hz130
 refine Ap rfl rfl (Aq rfl <| Ac) (by first | rfl | decide) ?_
 refine Bw rfl (A4 bd_25 Ay (.cons (Al rfl <| Ac) (.cons (Ac) .nil)) (refInts_nat g23 hsl131) (fun _ _ h => h)) ?_
 refine Aa rfl (A1 (Aq rfl <| Al rfl <| Ac) (by first | rfl | decide) (Ac)) ?_
 refine Aa rfl (Ad (Ac)) ?_
 refine Ah <| Ae <| A3 <| Au rfl (.tmp (Ac) .nil) ?_
 show _ = _
 first | rfl | decide
end Go.Proofs.Ytaikojfonleccaa
namespace Go.Proofs.Ytaikojfonleccaa
open Go.RowKit
theorem bd_22 : Body Try.prog 22 := Bs (by kernel_rfl)
set_option maxRecDepth 100000 in
theorem known_ok {F : Heap} : Ok Try.prog 6 [].toArray F fun u _ => u = .bool true := by
 refine Ok.intro Try.func6 rfl Try.ntmps6 rfl fun w0 => ?_
 refine Af <| Ai fun ds => Aa rfl (Ad Ab) ?_
 refine Ah <| Ae <| Af <| Ai fun ds => Bg rfl (Cm bd_35 Ay .nil sale_ok fun v1 F2 hr3 hF4 => ?_)
 obtain ⟨vs, vb, vl, vn, vd, rfl, hr⟩ := hr3
 refine Bg rfl (B7 zr_27 rfl fun b5 hb5 nb5 => ?_)
 refine Cj (B8 sz_27 (Ac) (Al rfl <| Ac) (i := 0) rfl rfl rfl rfl hr.ones (.here) ?_)
 refine Ah <| Ae <| Af <| Ai fun ds => Aa rfl (Bf Cg (Ac) rfl rfl (Bi 0 rfl)) ?_
 refine Bw rfl (A4 bd_17 Ay (.cons (Ac) (.cons Ab .nil)) (next_ok hr 45) (fun _ _ h => h.trans (show _ = Value.tuple #[.int .i64 50, .int .i64 0] by rw [ev_n2]))) ?_
 refine Aa rfl (Ag (Ac)) ?_
 refine Aa rfl (Ax (Ac) rfl) ?_
 refine Aa rfl (Ax (Al rfl <| Ac) rfl) ?_
 refine Aa rfl (Ad (Al rfl <| Ac)) ?_
 refine Aa rfl (Ad (Al rfl <| Ac)) ?_
 refine Ah <| Ae <| Af <| Ai fun ds => Aa rfl (Bf Cg (A0 rfl <| Aq rfl <| Al rfl <| Ac) rfl rfl (Bi 0 rfl)) ?_
 refine Bg rfl (Bq Bl Co rfl (.cons Ab (.cons Ab .nil)) rfl rfl (by decide) (by simp [Value.oneCell']) fun b6 hb6 nb6 => ?_)
 refine Bb (i := 0) rfl hb6 .here fun F7 hF8 hz9 => ?_
 replace hr := hr.mono hF8
 have hsl10 := Cq hz9
 refine Bg rfl (Cm bd_19 Ay (.cons (Al rfl <| Ac) (.cons (Ac) .nil)) ((sellTop_ok hr hsl10).mono fun u F2 _ h => (by rw [ev_s3] at h; exact h : ∃ ws0, u = .tuple #[ws0, .int .i64 0] ∧ Sl F2 ws0 2 Res.enc [⟨0, 45⟩, ⟨1, 73⟩, ⟨-1, 0⟩])) fun v11 F12 hr13 hF14 => ?_)
 replace hr := hr.mono hF14
 obtain ⟨hq1_, rfl, hq1⟩ := hr13
 refine Aa rfl (Ag (Ac)) ?_
 refine Aa rfl (Ax (Ac) rfl) ?_
 refine Aa rfl (Ax (Al rfl <| Ac) rfl) ?_
 refine Aa rfl (Ad (Al rfl <| Ac)) ?_
 refine Aa rfl (Ad (Al rfl <| Ac)) ?_
 refine Ah <| Ae <| Af <| Ai fun ds => Aa rfl (Bf Cg (Ba rfl <| A0 rfl <| Aq rfl <| Al rfl <| Ac) rfl rfl (Bi 0 rfl)) ?_
 refine Bg rfl (Bq Bl Co rfl (.cons Ab (.cons Ab .nil)) rfl rfl (by decide) (by simp [Value.oneCell']) fun b15 hb15 nb15 => ?_)
 refine Bb (i := 0) rfl hb15 .here fun F16 hF17 hz18 => ?_
 replace hr := hr.mono hF17
 replace hq1 := hq1.mono hF17
 have hsl19 := Cq hz18
 refine Bg rfl (Cm bd_19 Ay (.cons (Al rfl <| Ac) (.cons (Ac) .nil)) ((sellTop_ok hr hsl19).mono fun u F2 _ h => (by rw [ev_s4] at h; exact h : ∃ ws0, u = .tuple #[ws0, .int .i64 0] ∧ Sl F2 ws0 2 Res.enc [⟨0, 60⟩, ⟨1, 48⟩, ⟨-1, 0⟩])) fun v20 F21 hr22 hF23 => ?_)
 replace hr := hr.mono hF23
 replace hq1 := hq1.mono hF23
 obtain ⟨hq2_, rfl, hq2⟩ := hr22
 refine Aa rfl (Ag (Ac)) ?_
 refine Aa rfl (Ax (Ac) rfl) ?_
 refine Aa rfl (Ax (Al rfl <| Ac) rfl) ?_
 refine Aa rfl (Ad (Al rfl <| Ac)) ?_
 refine Aa rfl (Ad (Al rfl <| Ac)) ?_
 refine Ah <| Ae <| Af <| Ai fun ds => Aa rfl (Bf Cg (A6 rfl <| A0 rfl <| Aq rfl <| Al rfl <| Ac) rfl rfl (Bi 0 rfl)) ?_
 refine Bg rfl (Cm bd_23 Ay (.cons (Ac) (.cons Ab (.cons Ab .nil))) ((account_ok hr Sl.nil Sl.nil).mono fun u F2 _ h => (by rw [ev_a3] at h; exact h : ∃ ws0 ws1, u = .tuple #[ws0, ws1, .int .i64 33, .int .i64 0] ∧ Ints F2 ws0 [66, 80, 0, 0] ∧ Ints F2 ws1 [113])) fun v24 F25 hr26 hF27 => ?_)
 replace hr := hr.mono hF27
 replace hq1 := hq1.mono hF27
 replace hq2 := hq2.mono hF27
 obtain ⟨hq3_, hq4_, rfl, hq3, hq4⟩ := hr26
 refine Aa rfl (Ag (Ac)) ?_
 refine Aa rfl (Ax (Ac) rfl) ?_
 refine Aa rfl (Ax (Al rfl <| Ac) rfl) ?_
 refine Aa rfl (Ax (Aq rfl <| Ac) rfl) ?_
 refine Aa rfl (Ax (Aq rfl <| Al rfl <| Ac) rfl) ?_
 refine Aa rfl (Ad (Aq rfl <| Al rfl <| Ac)) ?_
 refine Aa rfl (Ad (Aq rfl <| Al rfl <| Ac)) ?_
 refine Aa rfl (Ad (Aq rfl <| Al rfl <| Ac)) ?_
 refine Aa rfl (Ad (Aq rfl <| Al rfl <| Ac)) ?_
 refine Ah <| Ae <| Af <| Ai fun ds => Aa rfl (Bf Cg (B1 rfl <| Aq rfl <| Ac) rfl rfl (Bi 0 rfl)) ?_
 refine Bg rfl (Bq Bl Co rfl (.cons Ab (.cons Ab .nil)) rfl rfl (by decide) (by simp [Value.oneCell']) fun b28 hb28 nb28 => ?_)
 refine Bb (i := 0) rfl hb28 .here fun F29 hF30 hz31 => ?_
 replace hr := hr.mono hF30
 replace hq1 := hq1.mono hF30
 replace hq2 := hq2.mono hF30
 replace hq3 := hq3.mono hF30
 replace hq4 := hq4.mono hF30
 have hsl32 := Cq hz31
 refine Bg rfl (Cm bd_26 Ay (.cons (Al rfl <| Ac) (.cons (Ac) .nil)) ((share_ok hr hsl32).mono fun u F2 _ h => (by rw [ev_h2] at h; exact h : ∃ ws0, u = .tuple #[ws0, .int .i64 0] ∧ Ints F2 ws0 [8, 7])) fun v33 F34 hr35 hF36 => ?_)
 replace hr := hr.mono hF36
 replace hq1 := hq1.mono hF36
 replace hq2 := hq2.mono hF36
 replace hq3 := hq3.mono hF36
 replace hq4 := hq4.mono hF36
 obtain ⟨hq5_, rfl, hq5⟩ := hr35
 refine Aa rfl (Ag (Ac)) ?_
 refine Aa rfl (Ax (Ac) rfl) ?_
 refine Aa rfl (Ax (Al rfl <| Ac) rfl) ?_
 refine Aa rfl (Ad (Al rfl <| Ac)) ?_
 refine Aa rfl (Ad (Al rfl <| Ac)) ?_
 refine Ah <| Ae <| Af <| WC_drawF 9 (.inl rfl) (fun _ _ h => h) (by kernel_rfl) (by kernel_rfl) false rfl ([fun F v => v = .agg #[vs, .int .i64 100, .int .i64 150, .int .i64 14, vb, vl, vn, vd], fun F v => v = .agg #[.int .i64 0, .bool true, .int .i64 40, .int .i64 50], fun F v => Sl F v 4 Ent.enc [ent1 0 40 50], fun F v => v = .tuple #[tupA v 0, .int .i64 0] ∧ Lsts F (tupA v 0) [[0, 2], [0, 2, 3]], fun F v => v = .tuple #[tupA v 0, .int .i64 0] ∧ Lsts F (tupA v 0) [[0, 2], [0, 2, 3]], fun F v => Lsts F v [[0, 2], [0, 2, 3]], fun F v => v = .int .i64 0, fun F v => Lsts F v [[0, 2], [0, 2, 3]], fun F v => v = .int .i64 0]) (⟨fun F F2 v hF h => h, fun F F2 v hF h => h, fun F F2 v hF h => h.mono hF, fun F F2 v hF h => ⟨h.1, h.2.mono hF⟩, fun F F2 v hF h => ⟨h.1, h.2.mono hF⟩, fun F F2 v hF h => h.mono hF, fun F F2 v hF h => h, fun F F2 v hF h => h.mono hF, fun F F2 v hF h => h, trivial⟩) (fun ds => ?_) (fun ds => ?_)
 ·
  refine ⟨⟨⟨⟨⟨⟨⟨⟨⟨trivial, ?_⟩, ?_⟩, ?_⟩, ?_⟩, ?_⟩, ?_⟩, ?_⟩, ?_⟩, ?_⟩
  ·
   intro e1 F1 hF1 he hj
   refine ⟨_, _, _, _, _, rfl, ?_⟩
   refine Be (Bf Cg (Bp (Bx he (by kernel_rfl)) <| B1 rfl <| Ba rfl <| Aq rfl <| Ac) rfl rfl (Bi 0 rfl)).quiet ⟨_, rfl, Heap.le_refl _, rfl⟩
  ·
   intro e1 F1 hF1 he hj
   refine ⟨_, _, _, _, _, rfl, ?_⟩
   refine Be (A4 bd_36 Ay (.cons Ab (.cons Ab (.cons Ab .nil))) (entry_ok _ _ _) (fun _ _ h => h)) ⟨_, rfl, Heap.le_refl _, rfl⟩
  ·
   intro e1 F1 hF1 he hj
   have g49 : (e1 49) = .agg #[.int .i64 0, .bool true, .int .i64 40, .int .i64 50] := hj 1 (by kernel_rfl) (by decide)
   refine ⟨_, _, _, _, _, rfl, ?_⟩
   refine OpX_freeze (Cv (offs := [(0, 4)]) (zl := [.int .i64 0, .bool false, .int .i64 0, .int .i64 0]) D7 zr_60 rfl (.cons (Ce g49) rfl .nil) (by intro i p h; rcases i with _ | i <;> simp at h <;> subst h <;> rfl) (.cons rfl rfl (Nat.le_of_ble_eq_true rfl) (.cons (.here) (.cons (.next <| .here) (.cons (.next <| .next <| .here) (.cons (.next <| .next <| .next <| .here) .nil)))) .nil) (by decide) (by decide) fun b hb nb => ⟨b, _, hb, rfl, fun F2 hF2 hz => ⟨F2, rfl, hF2, (entE_box1 hz)⟩⟩)
  ·
   intro e1 F1 hF1 he hj
   replace hr := hr.mono hF1
   have g48 : (e1 48) = .agg #[vs, .int .i64 100, .int .i64 150, .int .i64 14, vb, vl, vn, vd] := hj 0 (by kernel_rfl) (by decide)
   have g49 : (e1 49) = .agg #[.int .i64 0, .bool true, .int .i64 40, .int .i64 50] := hj 1 (by kernel_rfl) (by decide)
   have g50 : Sl F1 (e1 50) 4 Ent.enc [ent1 0 40 50] := hj 2 (by kernel_rfl) (by decide)
   refine ⟨_, _, _, _, _, rfl, ?_⟩
   refine Cm bd_28 Ay (.cons (Ce g48) (.cons (Ce rfl) .nil)) (D9 hr g50) fun v2 F2 hr hF2 => ⟨F2, rfl, hF2, (hr.ans ev_r3)⟩
  ·
   intro e1 F1 hF1 he hj
   have g51 : (e1 51) = .tuple #[tupA (e1 51) 0, .int .i64 0] ∧ Lsts F1 (tupA (e1 51) 0) [[0, 2], [0, 2, 3]] := hj 3 (by kernel_rfl) (by decide)
   refine ⟨_, _, _, _, _, rfl, ?_⟩
   refine Be (Ag (Ce g51.1)).quiet ⟨_, rfl, Heap.le_refl _, ⟨rfl, g51.2⟩⟩
  ·
   intro e1 F1 hF1 he hj
   have g47 : (e1 47) = .tuple #[tupA (e1 47) 0, .int .i64 0] ∧ Lsts F1 (tupA (e1 47) 0) [[0, 2], [0, 2, 3]] := hj 4 (by kernel_rfl) (by decide)
   refine ⟨_, _, _, _, _, rfl, ?_⟩
   refine Be (Ax (Ce g47.1) rfl).quiet ⟨_, rfl, Heap.le_refl _, g47.2⟩
  ·
   intro e1 F1 hF1 he hj
   have g47 : (e1 47) = .tuple #[tupA (e1 47) 0, .int .i64 0] ∧ Lsts F1 (tupA (e1 47) 0) [[0, 2], [0, 2, 3]] := hj 4 (by kernel_rfl) (by decide)
   refine ⟨_, _, _, _, _, rfl, ?_⟩
   refine Be (Ax (Ce g47.1) rfl).quiet ⟨_, rfl, Heap.le_refl _, rfl⟩
  ·
   intro e1 F1 hF1 he hj
   have g48 : (e1 48) = .agg #[vs, .int .i64 100, .int .i64 150, .int .i64 14, vb, vl, vn, vd] := hj 0 (by kernel_rfl) (by decide)
   have g49 : (e1 49) = .agg #[.int .i64 0, .bool true, .int .i64 40, .int .i64 50] := hj 1 (by kernel_rfl) (by decide)
   have g50 : Sl F1 (e1 50) 4 Ent.enc [ent1 0 40 50] := hj 2 (by kernel_rfl) (by decide)
   have g51 : (e1 51) = .tuple #[tupA (e1 51) 0, .int .i64 0] ∧ Lsts F1 (tupA (e1 51) 0) [[0, 2], [0, 2, 3]] := hj 3 (by kernel_rfl) (by decide)
   have g47 : (e1 47) = .tuple #[tupA (e1 47) 0, .int .i64 0] ∧ Lsts F1 (tupA (e1 47) 0) [[0, 2], [0, 2, 3]] := hj 4 (by kernel_rfl) (by decide)
   have g52 : Lsts F1 (e1 52) [[0, 2], [0, 2, 3]] := hj 5 (by kernel_rfl) (by decide)
   refine ⟨_, _, _, _, _, rfl, ?_⟩
   refine Be (Ad (Ce rfl)).quiet ⟨_, rfl, Heap.le_refl _, g52⟩
  ·
   intro e1 F1 hF1 he hj
   have g48 : (e1 48) = .agg #[vs, .int .i64 100, .int .i64 150, .int .i64 14, vb, vl, vn, vd] := hj 0 (by kernel_rfl) (by decide)
   have g49 : (e1 49) = .agg #[.int .i64 0, .bool true, .int .i64 40, .int .i64 50] := hj 1 (by kernel_rfl) (by decide)
   have g50 : Sl F1 (e1 50) 4 Ent.enc [ent1 0 40 50] := hj 2 (by kernel_rfl) (by decide)
   have g51 : (e1 51) = .tuple #[tupA (e1 51) 0, .int .i64 0] ∧ Lsts F1 (tupA (e1 51) 0) [[0, 2], [0, 2, 3]] := hj 3 (by kernel_rfl) (by decide)
   have g47 : (e1 47) = .tuple #[tupA (e1 47) 0, .int .i64 0] ∧ Lsts F1 (tupA (e1 47) 0) [[0, 2], [0, 2, 3]] := hj 4 (by kernel_rfl) (by decide)
   have g52 : Lsts F1 (e1 52) [[0, 2], [0, 2, 3]] := hj 5 (by kernel_rfl) (by decide)
   have g53 : (e1 53) = .int .i64 0 := hj 6 (by kernel_rfl) (by decide)
   have g14 : Lsts F1 (e1 14) [[0, 2], [0, 2, 3]] := hj 7 (by kernel_rfl) (by decide)
   refine ⟨_, _, _, _, _, rfl, ?_⟩
   refine Be (Ad (Ce g53)).quiet ⟨_, rfl, Heap.le_refl _, rfl⟩
 intro e40 F37 hF38 he39 hj
 replace hq1 := hq1.mono hF38
 replace hq2 := hq2.mono hF38
 replace hq3 := hq3.mono hF38
 replace hq4 := hq4.mono hF38
 replace hq5 := hq5.mono hF38
 have g48 : (e40 48) = .agg #[vs, .int .i64 100, .int .i64 150, .int .i64 14, vb, vl, vn, vd] := hj 0 (by decide)
 have g49 : (e40 49) = .agg #[.int .i64 0, .bool true, .int .i64 40, .int .i64 50] := hj 1 (by decide)
 have g50 : Sl F37 (e40 50) 4 Ent.enc [ent1 0 40 50] := hj 2 (by decide)
 have g51 : (e40 51) = .tuple #[tupA (e40 51) 0, .int .i64 0] ∧ Lsts F37 (tupA (e40 51) 0) [[0, 2], [0, 2, 3]] := hj 3 (by decide)
 have g47 : (e40 47) = .tuple #[tupA (e40 47) 0, .int .i64 0] ∧ Lsts F37 (tupA (e40 47) 0) [[0, 2], [0, 2, 3]] := hj 4 (by decide)
 have g52 : Lsts F37 (e40 52) [[0, 2], [0, 2, 3]] := hj 5 (by decide)
 have g53 : (e40 53) = .int .i64 0 := hj 6 (by decide)
 have g14 : Lsts F37 (e40 14) [[0, 2], [0, 2, 3]] := hj 7 (by decide)
 have g15 : (e40 15) = .int .i64 0 := hj 8 (by decide)
 refine Ae <| Af <| Ai fun ds => Aa rfl (Ag (Bp (Bx he39 (by kernel_rfl)) <| B1 rfl <| Aq rfl <| Al rfl <| Ac)) ?_
 refine Aa rfl (B9 (Ac) Ab) ?_
 refine Aa rfl (Ag (Ac)) ?_
 refine Ap rfl rfl (Ac) (by first | rfl | decide) ?_
 refine Aa rfl (Ag (Aq rfl <| Al rfl <| Bp (Bx he39 (by kernel_rfl)) <| A6 rfl <| Ba rfl <| Aq rfl <| Al rfl <| Ac)) ?_
 refine Ap rfl rfl (Al rfl <| Ac) (by first | rfl | decide) ?_
 refine Aa rfl (B9 (Ac) Ab) ?_
 refine Aa rfl (A1 (Aq rfl <| Ac) (by first | rfl | decide) (Ac)) ?_
 refine Aa rfl (Ag (Ac)) ?_
 refine Ap rfl rfl (Ac) (by first | rfl | decide) ?_
 refine Aa rfl (Ag (A0 rfl <| Aq rfl <| Al rfl <| Bp (Bx he39 (by kernel_rfl)) <| A6 rfl <| Aq rfl <| Al rfl <| Ac)) ?_
 refine Ap rfl rfl (Al rfl <| Ac) (by first | rfl | decide) ?_
 refine Aa rfl (B9 (Ac) Ab) ?_
 refine Aa rfl (A1 (Aq rfl <| Ac) (by first | rfl | decide) (Ac)) ?_
 refine Aa rfl (Ag (Ac)) ?_
 refine Ap rfl rfl (Ac) (by first | rfl | decide) ?_
 refine Aa rfl (Ag (Ba rfl <| Aq rfl <| Al rfl <| Bp (Bx he39 (by kernel_rfl)) <| Ba rfl <| Ac)) ?_
 refine Ap rfl rfl (Al rfl <| Ac) (by first | rfl | decide) ?_
 refine Aa rfl (B9 (Ac) Ab) ?_
 refine Aa rfl (A1 (Aq rfl <| Ac) (by first | rfl | decide) (Ac)) ?_
 refine Aa rfl (Ag (Ac)) ?_
 refine Ap rfl rfl (Ac) (by first | rfl | decide) ?_
 refine Aa rfl (Ag (Ba rfl <| A0 rfl <| Aq rfl <| Al rfl <| Bp (Bx he39 (by kernel_rfl)) <| Ac)) ?_
 refine Ap rfl rfl (Al rfl <| Ac) (by first | rfl | decide) ?_
 refine Aa rfl (B9 (Ac) Ab) ?_
 refine Aa rfl (A1 (Aq rfl <| Ac) (by first | rfl | decide) (Ac)) ?_
 refine Aa rfl (Ag (Ac)) ?_
 refine Ap rfl rfl (Ac) (by first | rfl | decide) ?_
 refine Aa rfl (Ag (A6 rfl <| Aq rfl <| Al rfl <| Ce g15)) ?_
 refine Ap rfl rfl (Al rfl <| Ac) (by first | rfl | decide) ?_
 refine Aa rfl (B9 (Ac) Ab) ?_
 refine Aa rfl (A1 (Aq rfl <| Ac) (by first | rfl | decide) (Ac)) ?_
 refine Aa rfl (Ag (Ac)) ?_
 refine Ap rfl rfl (Ac) (by first | rfl | decide) ?_
 refine Aa rfl (Ag (A6 rfl <| A0 rfl <| Aq rfl <| Al rfl <| Bp (Bx he39 (by kernel_rfl)) <| B1 rfl <| A0 rfl <| Ac)) ?_
 refine Ap rfl rfl (Al rfl <| Ac) (by first | rfl | decide) ?_
 refine Aa rfl (B9 (Ac) Ab) ?_
 refine Aa rfl (A1 (Aq rfl <| Ac) (by first | rfl | decide) (Ac)) ?_
 refine Aa rfl (Ag (Ac)) ?_
 refine Ap rfl rfl (Ac) (by first | rfl | decide) ?_
 refine Aa rfl (Ag (A6 rfl <| Ba rfl <| Aq rfl <| Al rfl <| Bp (Bx he39 (by kernel_rfl)) <| A6 rfl <| Ba rfl <| A0 rfl <| Ac)) ?_
 refine Ap rfl rfl (Al rfl <| Ac) (by first | rfl | decide) ?_
 refine Bw rfl (A4 bd_37 Ay (.cons Ab (.cons Ab .nil)) (C7 _ _) (fun _ _ h => h)) ?_
 refine Ap rfl rfl (Aq rfl <| Ac) (by first | rfl | decide) ?_
 refine Bw rfl (A4 bd_37 Ay (.cons Ab (.cons Ab .nil)) (C7 _ _) (fun _ _ h => h)) ?_
 refine Ap rfl rfl (Aq rfl <| Al rfl <| Ac) (by first | rfl | decide) ?_
 refine Bw rfl (A4 bd_37 Ay (.cons Ab (.cons Ab .nil)) (C7 _ _) (fun _ _ h => h)) ?_
 refine Ap rfl rfl (A0 rfl <| Ac) (by first | rfl | decide) ?_
 refine Bg rfl (Cv (offs := [(0, 2), (2, 2), (4, 2)]) (zl := [.int .i64 0, .int .i64 0, .int .i64 0, .int .i64 0, .int .i64 0, .int .i64 0]) C5 zr_63 rfl (.cons (Aq rfl <| Ac) rfl (.cons (Al rfl <| Ac) rfl (.cons (Ac) rfl .nil))) (by intro i p h; rcases i with _ | _ | _ | i <;> simp at h <;> subst h <;> rfl) (.cons rfl rfl (Nat.le_of_ble_eq_true rfl) (.cons (.here) (.cons (.next <| .here) .nil)) (.cons rfl rfl (Nat.le_of_ble_eq_true rfl) (.cons (.next <| .next <| .here) (.cons (.next <| .next <| .next <| .here) .nil)) (.cons rfl rfl (Nat.le_of_ble_eq_true rfl) (.cons (.next <| .next <| .next <| .next <| .here) (.cons (.next <| .next <| .next <| .next <| .next <| .here) .nil)) .nil))) (by decide) (by decide) fun b41 hb41 nb41 => ?_)
 refine Bb (i := 0) rfl hb41 .here fun F42 hF43 hz44 => ?_
 replace hq1 := hq1.mono hF43
 replace hq2 := hq2.mono hF43
 replace hq3 := hq3.mono hF43
 replace hq4 := hq4.mono hF43
 replace hq5 := hq5.mono hF43
 replace g14 := g14.mono hF43
 have hsl45 := resC_box3 hz44
 refine Ap rfl rfl (A0 rfl <| Al rfl <| Ac) (by first | rfl | decide) ?_
 refine Bw rfl (A4 bd_21 Ay (.cons (A0 rfl <| Ac) (.cons (Ac) .nil)) (refSame_ok hq1 hsl45) (fun _ _ h => h)) ?_
 refine Aa rfl (A1 (A0 rfl <| Aq rfl <| Ac) (by first | rfl | decide) (Ac)) ?_
 refine Aa rfl (Ag (Ac)) ?_
 refine Ap rfl rfl (Ac) (by first | rfl | decide) ?_
 refine Aa rfl (Ag (B1 rfl <| Aq rfl <| Al rfl <| Bp (Bx he39 (by kernel_rfl)) <| A6 rfl <| A0 rfl <| Ac)) ?_
 refine Ap rfl rfl (Al rfl <| Ac) (by first | rfl | decide) ?_
 refine Bw rfl (A4 bd_37 Ay (.cons Ab (.cons Ab .nil)) (C7 _ _) (fun _ _ h => h)) ?_
 refine Ap rfl rfl (Aq rfl <| Ac) (by first | rfl | decide) ?_
 refine Bw rfl (A4 bd_37 Ay (.cons Ab (.cons Ab .nil)) (C7 _ _) (fun _ _ h => h)) ?_
 refine Ap rfl rfl (Aq rfl <| Al rfl <| Ac) (by first | rfl | decide) ?_
 refine Bw rfl (A4 bd_37 Ay (.cons Ab (.cons Ab .nil)) (C7 _ _) (fun _ _ h => h)) ?_
 refine Ap rfl rfl (A0 rfl <| Ac) (by first | rfl | decide) ?_
 refine Bg rfl (Cv (offs := [(0, 2), (2, 2), (4, 2)]) (zl := [.int .i64 0, .int .i64 0, .int .i64 0, .int .i64 0, .int .i64 0, .int .i64 0]) C5 zr_63 rfl (.cons (Aq rfl <| Ac) rfl (.cons (Al rfl <| Ac) rfl (.cons (Ac) rfl .nil))) (by intro i p h; rcases i with _ | _ | _ | i <;> simp at h <;> subst h <;> rfl) (.cons rfl rfl (Nat.le_of_ble_eq_true rfl) (.cons (.here) (.cons (.next <| .here) .nil)) (.cons rfl rfl (Nat.le_of_ble_eq_true rfl) (.cons (.next <| .next <| .here) (.cons (.next <| .next <| .next <| .here) .nil)) (.cons rfl rfl (Nat.le_of_ble_eq_true rfl) (.cons (.next <| .next <| .next <| .next <| .here) (.cons (.next <| .next <| .next <| .next <| .next <| .here) .nil)) .nil))) (by decide) (by decide) fun b46 hb46 nb46 => ?_)
 refine Bb (i := 0) rfl hb46 .here fun F47 hF48 hz49 => ?_
 replace hq2 := hq2.mono hF48
 replace hq3 := hq3.mono hF48
 replace hq4 := hq4.mono hF48
 replace hq5 := hq5.mono hF48
 replace g14 := g14.mono hF48
 have hsl50 := resD_box3 hz49
 refine Ap rfl rfl (A0 rfl <| Al rfl <| Ac) (by first | rfl | decide) ?_
 refine Bw rfl (A4 bd_21 Ay (.cons (A0 rfl <| Ac) (.cons (Ac) .nil)) (refSame_ok hq2 hsl50) (fun _ _ h => h)) ?_
 refine Aa rfl (A1 (A0 rfl <| Aq rfl <| Ac) (by first | rfl | decide) (Ac)) ?_
 refine Aa rfl (Ag (Ac)) ?_
 refine Ap rfl rfl (Ac) (by first | rfl | decide) ?_
 refine Aa rfl (Ag (B1 rfl <| Ba rfl <| Aq rfl <| Al rfl <| Bp (Bx he39 (by kernel_rfl)) <| Ba rfl <| Aq rfl <| Al rfl <| Ac)) ?_
 refine Ap rfl rfl (Al rfl <| Ac) (by first | rfl | decide) ?_
 refine Bg rfl (Bq Bl Co rfl (.cons Ab (.cons Ab (.cons Ab (.cons Ab .nil)))) rfl rfl (by decide) (by simp [Value.oneCell']) fun b51 hb51 nb51 => ?_)
 refine Bb (i := 0) rfl hb51 .here fun F52 hF53 hz54 => ?_
 replace hq3 := hq3.mono hF53
 replace hq4 := hq4.mono hF53
 replace hq5 := hq5.mono hF53
 replace g14 := g14.mono hF53
 have hsl55 := ints_box4 hz54
 refine Ap rfl rfl (Aq rfl <| Ac) (by first | rfl | decide) ?_
 refine Bw rfl (A4 bd_25 Ay (.cons (Al rfl <| Ac) (.cons (Ac) .nil)) (D3 hq3 hsl55) (fun _ _ h => h)) ?_
 refine Aa rfl (A1 (Aq rfl <| Al rfl <| Ac) (by first | rfl | decide) (Ac)) ?_
 refine Aa rfl (Ag (Ac)) ?_
 refine Ap rfl rfl (Ac) (by first | rfl | decide) ?_
 refine Aa rfl (Ag (B1 rfl <| A6 rfl <| Bp (Bx he39 (by kernel_rfl)) <| Ba rfl <| Aq rfl <| Ac)) ?_
 refine Ap rfl rfl (Al rfl <| Ac) (by first | rfl | decide) ?_
 refine Bg rfl (Bq Bl Co rfl (.cons Ab .nil) rfl rfl (by decide) (by simp [Value.oneCell']) fun b56 hb56 nb56 => ?_)
 refine Bb (i := 0) rfl hb56 .here fun F57 hF58 hz59 => ?_
 replace hq4 := hq4.mono hF58
 replace hq5 := hq5.mono hF58
 replace g14 := g14.mono hF58
 have hsl60 := Ca hz59
 refine Ap rfl rfl (Aq rfl <| Ac) (by first | rfl | decide) ?_
 refine Bw rfl (A4 bd_25 Ay (.cons (Al rfl <| Ac) (.cons (Ac) .nil)) (D3 hq4 hsl60) (fun _ _ h => h)) ?_
 refine Aa rfl (A1 (Aq rfl <| Al rfl <| Ac) (by first | rfl | decide) (Ac)) ?_
 refine Aa rfl (Ag (Ac)) ?_
 refine Ap rfl rfl (Ac) (by first | rfl | decide) ?_
 refine Aa rfl (Ag (B1 rfl <| A6 rfl <| A0 rfl <| Al rfl <| Bp (Bx he39 (by kernel_rfl)) <| Ba rfl <| Al rfl <| Ac)) ?_
 refine Ap rfl rfl (Al rfl <| Ac) (by first | rfl | decide) ?_
 refine Aa rfl (B9 (Ac) Ab) ?_
 refine Aa rfl (A1 (Aq rfl <| Ac) (by first | rfl | decide) (Ac)) ?_
 refine Aa rfl (Ag (Ac)) ?_
 refine Ap rfl rfl (Ac) (by first | rfl | decide) ?_
 refine Aa rfl (Ag (B1 rfl <| A6 rfl <| Ba rfl <| Al rfl <| Bp (Bx he39 (by kernel_rfl)) <| Al rfl <| Ac)) ?_
 refine Ap rfl rfl (Al rfl <| Ac) (by first | rfl | decide) ?_
 refine Bg rfl (Bq Bl Co rfl (.cons Ab (.cons Ab .nil)) rfl rfl (by decide) (by simp [Value.oneCell']) fun b61 hb61 nb61 => ?_)
 refine Bb (i := 0) rfl hb61 .here fun F62 hF63 hz64 => ?_
 replace hq5 := hq5.mono hF63
 replace g14 := g14.mono hF63
 have hsl65 := Cq hz64
 refine Ap rfl rfl (Aq rfl <| Ac) (by first | rfl | decide) ?_
 refine Bw rfl (A4 bd_25 Ay (.cons (Al rfl <| Ac) (.cons (Ac) .nil)) (D3 hq5 hsl65) (fun _ _ h => h)) ?_
 refine Aa rfl (A1 (Aq rfl <| Al rfl <| Ac) (by first | rfl | decide) (Ac)) ?_
 refine Aa rfl (Ag (Ac)) ?_
 refine Ap rfl rfl (Ac) (by first | rfl | decide) ?_
 refine Aa rfl (Ag (B1 rfl <| A6 rfl <| Ba rfl <| A0 rfl <| Aq rfl <| Ce rfl)) ?_
 refine Ap rfl rfl (Al rfl <| Ac) (by first | rfl | decide) ?_
 refine Bg rfl (Bq Bl Co rfl (.cons Ab (.cons Ab .nil)) rfl rfl (by decide) (by simp [Value.oneCell']) fun b66 hb66 nb66 => ?_)
 refine Bb (i := 0) rfl hb66 .here fun F67 hF68 hz69 => ?_
 replace g14 := g14.mono hF68
 have hsl70 := n02_box2 hz69
 refine Ap rfl rfl (Aq rfl <| Ac) (by first | rfl | decide) ?_
 refine Bg rfl (Bq Bl Co rfl (.cons Ab (.cons Ab (.cons Ab .nil))) rfl rfl (by decide) (by simp [Value.oneCell']) fun b71 hb71 nb71 => ?_)
 refine Bb (i := 0) rfl hb71 .here fun F72 hF73 hz74 => ?_
 replace g14 := g14.mono hF73
 replace hsl70 := hsl70.mono hF73
 have hsl75 := n023_box3 hz74
 refine Ap rfl rfl (Aq rfl <| Al rfl <| Ac) (by first | rfl | decide) ?_
 refine Bg rfl (Bq D0 zr_28 rfl (.cons (Al rfl <| Ac) (.cons (Ac) .nil)) rfl rfl (by decide) (by simp [Value.oneCell']) fun b76 hb76 nb76 => ?_)
 refine Bb (i := 0) rfl hb76 .here fun F77 hF78 hz79 => ?_
 replace g14 := g14.mono hF78
 replace hsl70 := hsl70.mono hF78
 replace hsl75 := hsl75.mono hF78
 have hsl80 := vals_box2 hz79
 refine Ap rfl rfl (A0 rfl <| Ac) (by first | rfl | decide) ?_
 refine Bw rfl (A4 bd_30 Ay (.cons (Aq rfl <| Al rfl <| Ac) (.cons (Ac) .nil)) (alike_ok g14 (lsts2 hsl80 hsl70 hsl75)) (fun _ _ h => h)) ?_
 refine Aa rfl (A1 (A0 rfl <| Al rfl <| Ac) (by first | rfl | decide) (Ac)) ?_
 refine Aa rfl (Ag (Ac)) ?_
 refine Ap rfl rfl (Ac) (by first | rfl | decide) ?_
 refine Bw rfl (A4 bd_22 Ay .nil awake_ok (fun _ _ h => h)) ?_
 refine Aa rfl (A1 (Al rfl <| Ac) (by first | rfl | decide) (Ac)) ?_
 refine Aa rfl (Ad (Ac)) ?_
 refine Ah <| Ae <| A3 <| Au rfl (.tmp (Ac) .nil) ?_
 show _ = _
 first | rfl | decide
end Go.Proofs.Ytaikojfonleccaa
namespace Go.Proofs.Ytaikojfonleccaa
open Go.ChangeShapes Go.WideShapes Go.ChangeAt Go.RowKit
set_option maxRecDepth 100000 in
theorem saleKnownLifted (os : Os) (started : os.Started) (H : Type) (enc : TypeId × Value → H) :
   ReturnsInHanded {} Try.checked os 6 .any (Rows.saleKnownSpec.pre6 enc Try.prog Try.f6 Rows.saleKnownRow.domain false) (Rows.saleKnownSpec.post enc Try.prog Try.f6 false true false false) := by
 refine returnsInHanded_of_change_sized (C := Try.checked) ownKnob0 started (by kernel_rfl) Try.func6
   (ChangeSpec.witness6 (enc := enc) (C := Try.checked) false ⟨#[], #[], []⟩ 8 (by kernel_rfl) (by kernel_rfl) (by kernel_rfl) (by kernel_rfl)) ?_
 intro W base args ds gs before hval0 hW hcnd hsz _
 have hval : ∀ (j : Nat) t v, Try.f6.params[j]? = some t → args[j]? = some v → Value.okWide Try.prog W .any base t v := hval0
 have hW' := hW
 obtain ⟨p, q, hA0, hV, rfl, hfz, hnd⟩ := hW
 have hA : DataW.TrodAll enc Try.prog W 0 (fun _ => true) true Try.f6.params.toList args.toList ds p := hA0
 rw [Try.params6] at hA hval
 obtain ⟨hargs, rfl, rfl⟩ := trodAll_nil hA
 obtain rfl : args = #[] := by cases args; simp_all
 obtain ⟨rfl, rfl⟩ := trodVars_none hV
 clear hA0 hval0
 refine (Ok.law known_ok).mono fun e W' ⟨he, bel⟩ => ?_
 subst he
 exact ⟨_, rfl, _, _, _, [], _, [], hW', trodAll_mk1 (shut_bool Try.underlying4 _), trodAll_mk0, rfl, bel.frame _, fun h => by cases h⟩
theorem saleKnown : Rows.SaleKnownSaid :=
 OpenClaim.holds_of_wide 6 Try.f6 rfl rfl rfl rfl rfl rfl rfl ⟨rfl, rfl, rfl, rfl, rfl⟩ rfl rfl rfl rfl rfl (by kernel_rfl) Try.func6 (by kernel_rfl)
   (of_decide_eq_true (by kernel_rfl)) (by unfold Func.isWrapper; first | (rw [if_pos (by decide +kernel)]; kernel_rfl) | (rw [if_neg (by decide +kernel)]; exact ⟨rfl, rfl⟩))
   (fun os started H enc _ => saleKnownLifted os started H enc)
#print axioms saleKnown
end Go.Proofs.Ytaikojfonleccaa
