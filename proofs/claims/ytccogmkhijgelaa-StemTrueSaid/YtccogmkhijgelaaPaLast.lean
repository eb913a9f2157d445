/-
  StemTrue returns true of any stem and any past, and leaves what it is handed as it was. No conditions.
-/
import Derived.Test.YtccogmkhijgelaaPae
namespace Go.Proofs.Ytccogmkhijgelaa
open Go.RowKit
theorem el_26 : ElemT Try.prog 26 1 24 (.slice none 0 0) := elemT_of (by kernel_rfl) rfl (by decide)
theorem fd_55_0 : FieldT Try.prog 55 0 0 := C7 (by kernel_rfl)
theorem fd_55_1 : FieldT Try.prog 55 1 1 := C7 (by kernel_rfl)
theorem fd_55_2 : FieldT Try.prog 55 2 2 := C7 (by kernel_rfl)
theorem fd_55_3 : FieldT Try.prog 55 3 3 := C7 (by kernel_rfl)
theorem one_50 : OneT Try.prog 50 := Dt (by kernel_rfl)
theorem sl_114 : SliceT Try.prog 114 26 1 := Eo (by kernel_rfl)
set_option maxRecDepth 100000 in
set_option maxHeartbeats 2000000 in
theorem told_ok {F : Heap} {vp ve : Value} {ps : List (Value × Edn)} {s : Stm} (hr : StmR F vp ve ps s) (hv : ValidT s) {v0 v1 v2 v3 : Value} {xa xb xc xd : List Nat} (h0s : Sl F v0 1 u8E xa) (h0b : ∀ x ∈ xa, x < 256) (h1s : Sl F v1 1 u8E xb) (h1b : ∀ x ∈ xb, x < 256) (h2s : Sl F v2 1 u8E xc) (h2b : ∀ x ∈ xc, x < 256) (h3s : Sl F v3 1 u8E xd) (h3b : ∀ x ∈ xd, x < 256) : Ok Try.prog 43 [.agg #[vp, ve], .agg #[v0, v1, v2, v3]].toArray F fun u F' => ∃ l Y R c vl ve' ps' vy, u = .tuple #[.agg #[vp, ve'], vl, .int .i64 c, vy] ∧ Ints F' vl l ∧ l.length = ps.length ∧ IsTree l ∧ ToldI s l Y R c ∧ StmR F' vp ve' ps' (toldS s xd Y R) ∧ Ints F' vy (iL Y ps.length) := by
 have hle0 : F.le F := Heap.le_refl _
 refine Ok.intro Try.func43 rfl Try.ntmps43 rfl fun w0 => ?_
 have hnp := hv.np
 have hne := hv.ne
 have hlen := hr.len
 have hL1 := hr.eds.plain.lt
 have hL2 := hr.places.plain.lt
 refine Af <| Ai fun ds => Bj rfl (B2 (Ak rfl) rfl fun b1 hb1 nb1 => ?_)
 refine Bj rfl (B2 (Al rfl <| Ak rfl) rfl fun b2 hb2 nb2 => ?_)
 refine Bj rfl (B8 zr_25 rfl fun b3 hb3 nb3 => ?_)
 refine Aa rfl (Ae Ad) ?_
 refine Aa rfl (Ae Ad) ?_
 refine Aa rfl (Ae Ad) ?_
 refine Ah <| Ac <| Af <| Ai fun ds => Aa rfl (Am Bv (Ax rfl <| Al rfl <| Ab)) ?_
 refine Aa rfl (Ap B1 (Ab) (Cell.own 2 rfl rfl)) ?_
 refine Aa rfl (Bm B6 (Ab) hr.eds.plain) ?_
 refine Aa rfl (Ae (Ab)) ?_
 refine Ah <| Ac <| Af <| Ai fun ds => Aa rfl (Ag (Ab)) ?_
 refine Aa rfl (Am fd_55_0 (A5 rfl <| Al rfl <| Ab)) ?_
 refine Aa rfl (Ap one_50 (Ab) (Cell.own 1 rfl rfl)) ?_
 refine Bj rfl (Cn bd_41 A1 (.cons (Aq rfl <| Ab) (.cons (Ab) .nil)) (tree_ok7 h0s h0b (many := ps.length) (by omega) (by omega)) fun v4 F5 hr6 hF7 => ?_)
 replace hr := hr.mono hF7
 replace h1s := h1s.mono hF7
 replace h2s := h2s.mono hF7
 replace h3s := h3s.mono hF7
 replace hle0 := Heap.le_trans hle0 hF7
 obtain ⟨l, hl, hll0, ht⟩ := hr6
 have hll : l.length = s.editions.length := by omega
 obtain ⟨v9, hv9⟩ : ∃ y, y = v4 := ⟨_, rfl⟩
 subst hv9
 refine Aa rfl (Ae (Ab)) ?_
 refine Ah <| Ac <| Af <| Ai fun ds => Bj rfl (x_build0 B6 fun b8 hb8 nb8 => ?_)
 refine Aa rfl (Am Bv (A5 rfl <| Ax rfl <| Aq rfl <| Al rfl <| Ab)) ?_
 refine Aa rfl (Ap B1 (Ab) (Cell.own 3 rfl rfl)) ?_
 refine Bj rfl (Co B6 el_64 (Aq rfl <| Ab) (own_box rfl) (Ab) (src_eds hr.eds hr.one) (by omega) (by omega) (.z) .box fun v9 R10 ho11 => ?_)
 have ho10 : Own 64 4 v9 ps.length (ps.flatMap edE) R10 := by simpa using ho11
 obtain ⟨v10, hv10⟩ : ∃ y, y = v9 := ⟨_, rfl⟩
 subst hv10
 refine Aa rfl (Ae (Ab)) ?_
 refine Ah <| Ac <| Af <| Ai fun ds => Aa rfl (Ag (A5 rfl <| Aq rfl <| Ab)) ?_
 refine Bj rfl (x_make (k := ps.length) Bh el_3 rfl rfl (Ab) (Ab) rfl (by omega) (by omega) fun b12 hb12 nb12 => ?_)
 refine Aa rfl (Ae (Ab)) ?_
 refine Ah <| Ac <| Af <| Ai fun ds => Aa rfl (Ag (A5 rfl <| Ax rfl <| Al rfl <| Ab)) ?_
 refine Bj rfl (x_make (k := ps.length) sl_114 el_26 rfl rfl (Ab) (Ab) rfl (by omega) (by omega) fun b13 hb13 nb13 => ?_)
 refine Aa rfl (Ae (Ab)) ?_
 refine Ah <| Ac <| Af <| Ai fun ds => Aa rfl (Ae Ad) ?_
 refine Ah <| Ac <| Af <| Af ?_
 obtain ⟨ρ, hρn, hρs⟩ := tree_rank9 ht
 refine E4 (.one (.here) <| .one (.here) <| .one (.skip <| .here) <| .one (.skip <| .here) <| .one (.lastS) <| .lastb (.last)) ?_
 refine Ai fun ds => Aa rfl (Ae Ad) ?_
 refine Ah <| Ac <| A0 <| Bt [13, 14, 15, 16, 17, 18, 19, 37, 38, 39, 40, 41, 42, 43, 44, 45, 46, 47, 48, 49, 50, 51, 52, 53, 54, 55, 56, 57, 58, 59, 60, 61, 62, 63, 64, 65, 66, 67, 68, 69, 70, 71, 72, 73, 74, 75, 76, 77, 78, 79, 80, 81, 82, 83, 84, 85, 86, 87, 88, 89, 90, 91, 92, 93, 94, 95, 96, 97, 98, 99, 100, 101, 102, 103, 104, 105, 106, 107, 108, 109, 110, 111, 112, 113, 114, 115, 116, 117, 118, 119, 120, 121, 122, 123, 124, 125, 126, 127, 128, 129, 130, 131, 132, 133, 134, 135, 136, 137, 138, 139, 140, 141, 142, 143, 144, 145, 146, 147, 148, 149, 150, 151, 152, 153, 154, 155, 156, 157, 158, 159, 160, 161, 162, 163, 164, 165, 166, 167, 168] (fun m e σ => ∃ rn : Nat, m + rn = ps.length ∧ e 14 = .int .i64 (rn : Int) ∧ ∃ c D Y R W G, F.le G ∧ StmR G vp ve ps s ∧ Ints G v9 l ∧ Sl G v1 1 u8E xb ∧ Sl G v2 1 u8E xc ∧ Sl G v3 1 u8E xd ∧ TellR G ps.length W D R ∧ e 13 = .int .i64 c ∧ TellI s l ρ D Y R c ∧ (∀ i, i < l.length → ρ i < rn → D i = true) ∧ σ = ⟨G, (b13, bx 26 ((vL W ps.length).flatMap valE)) :: (b12, bx 3 ((iL Y ps.length).flatMap intE)) :: (b3, bx 25 [.slice none 0 0, .slice none 0 0]) :: (b2, bx 55 [v0, v1, v2, v3]) :: (b1, bx 25 [vp, ve]) :: R10⟩) (ps.length) ?_ ?_
 · exact ⟨0, by omega, (Ab), 0, fun _ => false, fun _ => 0, fun _ => [], fun _ => .slice none 0 0, _, hle0, hr, hl, h1s, h2s, h3s, TellR.start, (Al rfl <| Ab), TellI.start, fun i hi h => absurd h (by omega), by rw [← vL_zero, ← iL_zero]⟩
 ·
  rintro m e _ ⟨rn, hm, hs14, c, D, Y, R, W, G1, hle0, hr, hl, h1s, h2s, h3s, hT, hs13, hI, hcov, rfl⟩; have hcb := hI.bound (by omega) (by omega)
  by_cases hlt : rn < ps.length
  ·
   refine Af <| Af <| Ai fun ds => Aa rfl (Ag (At rfl hs14)) ?_
   refine Aa rfl (Ag (Al rfl <| Aj rfl <| A2 rfl <| Aq rfl <| Ab)) ?_
   refine Aa rfl (Bu (Al rfl <| Ab) (Ab)) ?_
   refine Ah <| Ac <| Ar (Ab) (by first | rfl | exact decide_eq_true (by omega)) ?_
   refine Aw <| Ac <| Af <| A0 <| Af <| Ai fun ds => Aa rfl (Ae Ad) ?_
   refine Ah <| Ac <| A0 <| Bt [13, 15, 16, 17, 18, 19, 42, 43, 44, 45, 46, 47, 48, 49, 50, 51, 52, 53, 54, 55, 56, 57, 58, 59, 60, 61, 62, 63, 64, 65, 66, 67, 68, 69, 70, 71, 72, 73, 74, 75, 76, 77, 78, 79, 80, 81, 82, 83, 84, 85, 86, 87, 88, 89, 90, 91, 92, 93, 94, 95, 96, 97, 98, 99, 100, 101, 102, 103, 104, 105, 106, 107, 108, 109, 110, 111, 112, 113, 114, 115, 116, 117, 118, 119, 120, 121, 122, 123, 124, 125, 126, 127, 128, 129, 130, 131, 132, 133, 134, 135, 136, 137, 138, 139, 140, 141, 142, 143, 144, 145, 146, 147, 148, 149, 150, 151, 152, 153, 154, 155, 156, 157, 158, 159, 160, 161, 162, 163, 164, 165, 166, 167, 168] (fun m e σ => ∃ j : Nat, m + j = ps.length ∧ e 15 = .int .i64 (j : Int) ∧ ∃ c D Y R W G, F.le G ∧ StmR G vp ve ps s ∧ Ints G v9 l ∧ Sl G v1 1 u8E xb ∧ Sl G v2 1 u8E xc ∧ Sl G v3 1 u8E xd ∧ TellR G ps.length W D R ∧ e 13 = .int .i64 c ∧ TellI s l ρ D Y R c ∧ (∀ i, i < l.length → (ρ i < rn ∨ (ρ i = rn ∧ i < j)) → D i = true) ∧ σ = ⟨G, (b13, bx 26 ((vL W ps.length).flatMap valE)) :: (b12, bx 3 ((iL Y ps.length).flatMap intE)) :: (b3, bx 25 [.slice none 0 0, .slice none 0 0]) :: (b2, bx 55 [v0, v1, v2, v3]) :: (b1, bx 25 [vp, ve]) :: R10⟩) (ps.length) ?_ ?_
   · exact ⟨0, by omega, (Ab), c, D, Y, R, W, _, hle0, hr, hl, h1s, h2s, h3s, hT, (Ax rfl <| At rfl hs13), hI, fun i hi h => hcov i hi (by omega), rfl⟩
   ·
    rintro m2 e2 _ ⟨j, hm2, ht15, c, D, Y, R, W, G2, hle0, hr, hl, h1s, h2s, h3s, hT, ht13, hI, hcov, rfl⟩; have hcb := hI.bound (by omega) (by omega)
    by_cases hlt2 : j < ps.length
    ·
     have hjn := hlt2
     have hjl : j < l.length := by omega
     have hyj : (iL Y ps.length)[j]'(by rw [Ch]; exact hjn) = Y j := iL_at _
     refine Af <| Af <| Ai fun ds => Aa rfl (Ag (At rfl ht15)) ?_
     refine Aa rfl (Ag (Al rfl <| Aj rfl <| Ax rfl <| Aj rfl <| A2 rfl <| Aq rfl <| Ab)) ?_
     refine Aa rfl (Bu (Al rfl <| Ab) (Ab)) ?_
     refine Ah <| Ac <| Ar (Ab) (by first | rfl | exact decide_eq_true (by omega)) ?_
     by_cases hDj : D j = true
     ·
      have hyb := hI.lo j hjl hDj
      refine Aw <| Ac <| Af <| A0 <| Af <| Af <| Ai fun ds => Aa rfl (Ag (Aq rfl <| Al rfl <| Aj rfl <| Ax rfl <| Aj rfl <| Ax rfl <| Al rfl <| Ab)) ?_
      refine Aa rfl (Ag (Ax rfl <| At rfl ht15)) ?_
      refine Aa rfl (A8 (k := j) Bh (Al rfl <| Ab) (Cu (Nat.le_refl _) (by omega)) (Ab) rfl hjn) ?_
      refine Aa rfl (Ap Bk (Ab) (Dn 1 rfl (iL_get hjn))) ?_
      refine Aa rfl (C8 (Ab) Ad) ?_
      refine Aa rfl (Ag (Ab)) ?_
      refine Au rfl rfl (Ab) (.inl (congrArg Value.bool (decide_eq_true (by omega)))) rfl ?_
      refine Au rfl rfl (Al rfl <| Ab) (.inl (congrArg Value.bool (decide_eq_true (by omega)))) rfl ?_
      refine Au rfl rfl (Aq rfl <| Ab) (.inl (congrArg Value.bool (decide_eq_true (by omega)))) rfl ?_
      refine Au rfl rfl (Aq rfl <| Al rfl <| Ab) (.inl (congrArg Value.bool (decide_eq_true (by omega)))) rfl ?_
      refine Au rfl rfl (Ax rfl <| Ab) (.inl (congrArg Value.bool (decide_eq_true (by omega)))) rfl ?_
      refine Au rfl rfl (Ax rfl <| Al rfl <| Ab) (.inl (congrArg Value.bool (decide_eq_true (by omega)))) rfl ?_
      refine Au rfl rfl (Ab) (.inr rfl) rfl ?_
      refine Au rfl rfl (Al rfl <| Ab) (.inr rfl) rfl ?_
      refine Au rfl rfl (Aq rfl <| Ab) (.inr rfl) rfl ?_
      refine Au rfl rfl (Aq rfl <| Al rfl <| Ab) (.inr rfl) rfl ?_
      refine Au rfl rfl (Ax rfl <| Ab) (.inr rfl) rfl ?_
      refine Au rfl rfl (Ax rfl <| Al rfl <| Ab) (.inr rfl) rfl ?_
      refine Au rfl rfl (Ax rfl <| Aq rfl <| Ab) (.inr rfl) rfl ?_
      refine Au rfl rfl (Ax rfl <| Aq rfl <| Al rfl <| Ab) (.inr rfl) rfl ?_
      refine Au rfl rfl (A5 rfl <| Ax rfl <| Aq rfl <| Ab) (.inl (congrArg Value.bool (decide_eq_true (by omega)))) rfl ?_
      refine Aa rfl (A6 (A5 rfl <| Ax rfl <| Aq rfl <| Al rfl <| Ab) (decide_eq_true (by omega)) Ad) ?_
      refine Ah <| Ac <| Ar (Ab) rfl ?_
      refine Bp ?_
      refine Bf (Bi ?_)
      refine Ac <| Ai fun ds => Aa rfl (Ag (A2 rfl <| A5 rfl <| Al rfl <| At rfl ht15)) ?_
      refine Aa rfl (Bq (Ab) Ad rfl (by omega) (by omega)) ?_
      refine Aa rfl (Ae (Ab)) ?_
      refine Ah <| Ac ⟨_, m2 - 1, Off.eq (C6 rfl <| Dr rfl <| Ee rfl <| Bg), by omega, ?_⟩
      exact ⟨j + 1, by omega, (Ab), c, D, Y, R, W, _, hle0, hr, hl, h1s, h2s, h3s, hT, (A2 rfl <| A5 rfl <| Ax rfl <| At rfl ht13), hI, fun i hi h => by by_cases e : i = j; subst e; exact hDj; exact hcov i hi (by omega), rfl⟩
     ·
      replace hDj : D j = false := by simpa using hDj
      have hyz := hI.no j hjl hDj
      refine Aw <| Ac <| Af <| A0 <| Af <| Af <| Ai fun ds => Aa rfl (Ag (Aq rfl <| Al rfl <| Aj rfl <| Ax rfl <| Aj rfl <| Ax rfl <| Al rfl <| Ab)) ?_
      refine Aa rfl (Ag (Ax rfl <| At rfl ht15)) ?_
      refine Aa rfl (A8 (k := j) Bh (Al rfl <| Ab) (Cu (Nat.le_refl _) (by omega)) (Ab) rfl hjn) ?_
      refine Aa rfl (Ap Bk (Ab) (Dn 1 rfl (iL_get hjn))) ?_
      refine Aa rfl (C8 (Ab) Ad) ?_
      refine Aa rfl (Ag (Ab)) ?_
      refine As rfl rfl (Ab) (decide_eq_false (by omega)) ?_
      refine Aa rfl (Ag (A5 rfl <| Al rfl <| Aj rfl <| Ax rfl <| Aj rfl <| A5 rfl <| Ax rfl <| Al rfl <| Ab)) ?_
      refine As rfl rfl (Al rfl <| Ab) (decide_eq_false (by omega)) ?_
      refine Aa rfl (Ag (A5 rfl <| Aq rfl <| At rfl ht15)) ?_
      refine As rfl rfl (Aq rfl <| Ab) (decide_eq_false (by omega)) ?_
      refine Aa rfl (A8 (k := j) Bh (Al rfl <| Ab) hl.plain (Ab) rfl hjl) ?_
      refine As rfl rfl (Aq rfl <| Al rfl <| Ab) (decide_eq_false (by omega)) ?_
      refine Aa rfl (Ap Bk (Ab) (hl.cell1 hjl rfl)) ?_
      refine As rfl rfl (Ax rfl <| Ab) (decide_eq_false (by omega)) ?_
      refine Aa rfl (Bw (Ab) Ad) ?_
      refine As rfl rfl (Ax rfl <| Al rfl <| Ab) (decide_eq_false (by omega)) ?_
      refine Aa rfl (Ag (Ab)) ?_
      by_cases hu0 : upN l j = -1
      ·
       refine Au rfl rfl (Ab) (.inl (congrArg Value.bool (by rw [C1 hjl]; exact decide_eq_false (fun h => h hu0)))) rfl ?_
       refine Au rfl rfl (Al rfl <| Ab) (.inl (congrArg Value.bool (by rw [C1 hjl]; exact decide_eq_false (fun h => h hu0)))) rfl ?_
       refine Au rfl rfl (Aq rfl <| Ab) (.inl (congrArg Value.bool (by rw [C1 hjl]; exact decide_eq_false (fun h => h hu0)))) rfl ?_
       refine Au rfl rfl (Aq rfl <| Al rfl <| Ab) (.inl (congrArg Value.bool (by rw [C1 hjl]; exact decide_eq_false (fun h => h hu0)))) rfl ?_
       refine Au rfl rfl (Ax rfl <| Ab) (.inl (congrArg Value.bool (by rw [C1 hjl]; exact decide_eq_false (fun h => h hu0)))) rfl ?_
       refine Au rfl rfl (Ax rfl <| Al rfl <| Ab) (.inl (congrArg Value.bool (by rw [C1 hjl]; exact decide_eq_false (fun h => h hu0)))) rfl ?_
       refine Au rfl rfl (Ax rfl <| Aq rfl <| Ab) (.inl (congrArg Value.bool (by rw [C1 hjl]; exact decide_eq_false (fun h => h hu0)))) rfl ?_
       refine Au rfl rfl (Ax rfl <| Aq rfl <| Al rfl <| Ab) (.inl (congrArg Value.bool (by rw [C1 hjl]; exact decide_eq_false (fun h => h hu0)))) rfl ?_
       refine As rfl rfl (A5 rfl <| Ax rfl <| Aq rfl <| Ab) (decide_eq_false (by omega)) ?_
       refine Aa rfl (A9 (A5 rfl <| Ab) (by rw [C1 hjl]; exact decide_eq_false (fun h => h hu0)) Ad) ?_
       refine Aa rfl (A9 (A5 rfl <| Ax rfl <| Aq rfl <| Al rfl <| Ab) (decide_eq_false (by omega)) (Ab)) ?_
       refine Ah <| Ac <| Ao (Ab) rfl ?_
       have hup : ∀ k : Nat, upN l j = (k : Int) → D k = true ∧ ρ k < ρ j ∧ k ≠ j := fun k hk => absurd (hu0.symm.trans hk) (by omega)
       have htb : turnN xb j < 256 := Ey h1b
       refine Aw <| Ac <| Af <| Ai fun ds => Aa rfl (Ag (A2 rfl <| A5 rfl <| Al rfl <| Aj rfl <| Ax rfl <| Aj rfl <| Ax rfl <| Al rfl <| Ab)) ?_
       refine Aa rfl (Ag (A2 rfl <| A5 rfl <| Aq rfl <| At rfl ht15)) ?_
       refine Aa rfl (Am fd_55_1 (A2 rfl <| A5 rfl <| Aq rfl <| Al rfl <| Aj rfl <| Ax rfl <| Aj rfl <| A2 rfl <| A5 rfl <| Aq rfl <| Ab)) ?_
       refine Aa rfl (Ap one_50 (Ab) (Cell.own 3 rfl rfl)) ?_
       refine Aa rfl (Ag (A2 rfl <| A5 rfl <| Ax rfl <| Al rfl <| At rfl ht15)) ?_
       refine Bx rfl (Be bd_96 A1 (.cons (Al rfl <| Ab) (.cons (Ab) .nil)) (Ej h1s h1b (n := j) rfl) (fun _ _ h => h)) ?_
       refine Aa rfl (q_rem (Ab) Ad (Int.natCast_nonneg _) (by decide)) ?_
       refine Aa rfl (Bq Ad (Ab) rfl (by omega) (by omega)) ?_
       refine Aa rfl (A8 (k := j) Bh (Ax rfl <| Aq rfl <| Al rfl <| Ab) (Cu (Nat.le_refl _) (by omega)) (Ax rfl <| Aq rfl <| Ab) rfl hjn) ?_
       refine Cf (D4 sz_3 (Ab) (row_addr9 (c := j)) (Al rfl <| Ab) (i := 1) rfl (by rw [iL_len1]; omega) rfl (.next <| .here) ?_)
       refine Ah <| Ac <| Af <| Af ?_
       rw [iL_setA hjn]
       refine Ai fun ds => Aa rfl (Ag (Bc rfl <| Aq rfl <| Aj rfl <| Ax rfl <| Aj rfl <| A5 rfl <| Ax rfl <| Al rfl <| Ab)) ?_
       refine Aa rfl (Ag (Bc rfl <| Aq rfl <| Al rfl <| At rfl ht15)) ?_
       refine Aa rfl (A8 (k := j) Bh (Al rfl <| Ab) hl.plain (Ab) rfl hjl) ?_
       refine Aa rfl (Ap Bk (Ab) (hl.cell1 hjl rfl)) ?_
       refine Aa rfl (Bw (Ab) Ad) ?_
       refine Ah <| Ac <| WC_cut [83, 84, 85, 86, 87, 88, 89, 90, 91, 92, 93, 94, 95, 96, 97, 98, 99] (fun st σ => ∃ y : Int, (upN l j = -1 → 1450 ≤ y ∧ y ≤ 1499) ∧ (∀ k : Nat, upN l j = (k : Int) → Y k < y ∧ y ≤ Y k + 50) ∧ σ = ⟨G2, (b13, bx 26 ((vL W ps.length).flatMap valE)) :: (b12, bx 3 ((iL (updA Y j y) ps.length).flatMap intE)) :: (b3, bx 25 [.slice none 0 0, .slice none 0 0]) :: (b2, bx 55 [v0, v1, v2, v3]) :: (b1, bx 25 [vp, ve]) :: R10⟩) ?_ ?_
       ·
        by_cases hu : decide (upN l j = -1) = true
        ·
         have hu := of_decide_eq_true hu
         refine Ao (Ab) (by rw [C1 hjl]; exact decide_eq_false (fun h => h hu)) ?_
         refine Aw <| Ac ⟨_, Off.eq (C5), ?_⟩
         exact ⟨_, fun _ => by omega, fun k hk => absurd (hu.symm.trans hk) (by omega), rfl⟩
        ·
         replace hu : decide (upN l j = -1) = false := by simpa using hu
         have hu := of_decide_eq_false hu
         obtain ⟨k, hku, hkl⟩ := ht.in_.nat hjl hu
         have hkn : k < ps.length := by omega
         have hlk : l[j] = (k : Int) := by rw [C1 hjl, hku]
         have hDk := (hup k hku).1
         have hyb := hI.lo k hkl hDk
         have hrkb := hρn k hkl
         have hkj : k ≠ j := (hup k hku).2.2
         have hYk : updA Y j (1450 + ((turnN xb j : Nat) : Int) % 50) k = Y k := Cl hkj
         refine Ar (Ab) (by rw [C1 hjl]; exact decide_eq_true hu) ?_
         have hleS := hle0
         refine C0 (.inl rfl) (fun _ _ h => h) (.cons_cons _ <| .cons_cons _ <| .cons_cons _ <| .cons_cons _ <| .cons_cons _ <| .refl _) [17] (by kernel_rfl) fun ds => ?_
         refine A3 0 rfl (by kernel_rfl) (by kernel_rfl) (by kernel_rfl) (by kernel_rfl) rfl rfl (fun _ h => h.drop (.cons_cons _ <| .cons_cons _ <| .cons_cons _ <| .cons_cons _ <| .cons_cons _ <| .refl _)) (fun _ _ _ h => h) (Ag (Bc rfl <| Ax rfl <| Aq rfl <| Al rfl <| Aj rfl <| Ax rfl <| Aj rfl <| Ax rfl <| Al rfl <| Ab)) ?_
         refine A3 1 rfl (by kernel_rfl) (by kernel_rfl) (by kernel_rfl) (by kernel_rfl) rfl rfl (fun _ h => h.drop (.cons_cons _ <| .cons_cons _ <| .cons_cons _ <| .cons_cons _ <| .cons_cons _ <| .refl _)) (fun _ _ _ h => h) (Ag (Bc rfl <| A5 rfl <| At rfl ht15)) ?_
         refine A3 2 rfl (by kernel_rfl) (by kernel_rfl) (by kernel_rfl) (by kernel_rfl) rfl rfl (fun _ h => h.drop (.cons_cons _ <| .cons_cons _ <| .cons_cons _ <| .cons_cons _ <| .cons_cons _ <| .refl _)) (fun _ _ _ h => h) (Ag (Bc rfl <| A5 rfl <| Al rfl <| Aj rfl <| Ax rfl <| Aj rfl <| Ax rfl <| Al rfl <| Ab)) ?_
         refine A3 3 rfl (by kernel_rfl) (by kernel_rfl) (by kernel_rfl) (by kernel_rfl) rfl rfl (fun _ h => h.drop (.cons_cons _ <| .cons_cons _ <| .cons_cons _ <| .cons_cons _ <| .cons_cons _ <| .refl _)) (fun _ _ _ h => h) (Ag (Bc rfl <| A5 rfl <| Aq rfl <| Aj rfl <| Ax rfl <| Aj rfl <| A5 rfl <| Ax rfl <| Al rfl <| Ab)) ?_
         refine A3 4 rfl (by kernel_rfl) (by kernel_rfl) (by kernel_rfl) (by kernel_rfl) rfl rfl (fun _ h => h.drop (.cons_cons _ <| .cons_cons _ <| .cons_cons _ <| .cons_cons _ <| .cons_cons _ <| .refl _)) (fun _ _ _ h => h) (Ag (Bc rfl <| A5 rfl <| Aq rfl <| Al rfl <| At rfl ht15)) ?_
         refine A3 5 rfl (by kernel_rfl) (by kernel_rfl) (by kernel_rfl) (by kernel_rfl) rfl rfl (fun _ h => h.drop (.cons_cons _ <| .cons_cons _ <| .cons_cons _ <| .cons_cons _ <| .cons_cons _ <| .refl _)) (fun _ _ _ h => h) (A8 (k := j) Bh (Al rfl <| Ab) hl.plain (Ab) rfl hjl) ?_
         refine A3 6 rfl (by kernel_rfl) (by kernel_rfl) (by kernel_rfl) (by kernel_rfl) rfl rfl (fun _ h => h.drop (.cons_cons _ <| .cons_cons _ <| .cons_cons _ <| .cons_cons _ <| .cons_cons _ <| .refl _)) (fun _ _ _ h => h) (Ap Bk (Ab) (hl.cell1 hjl rfl)) ?_
         refine A3 7 rfl (by kernel_rfl) (by kernel_rfl) (by kernel_rfl) (by kernel_rfl) rfl rfl (fun _ h => h.drop (.cons_cons _ <| .cons_cons _ <| .cons_cons _ <| .cons_cons _ <| .cons_cons _ <| .refl _)) (fun _ _ _ h => h) (A8 (k := k) Bh (Ax rfl <| Ab) (Cu (Nat.le_refl _) (by omega)) (Ab) hlk hkn) ?_
         refine A3 8 rfl (by kernel_rfl) (by kernel_rfl) (by kernel_rfl) (by kernel_rfl) rfl rfl (fun _ h => h.drop (.cons_cons _ <| .cons_cons _ <| .cons_cons _ <| .cons_cons _ <| .cons_cons _ <| .refl _)) (fun _ _ _ h => h) (Ap Bk (Ab) (Dn 1 rfl (iL_get hkn))) ?_
         refine A3 9 rfl (by kernel_rfl) (by kernel_rfl) (by kernel_rfl) (by kernel_rfl) rfl rfl (fun _ h => h.drop (.cons_cons _ <| .cons_cons _ <| .cons_cons _ <| .cons_cons _ <| .cons_cons _ <| .refl _)) (fun _ _ _ h => h) (Bq (Ab) Ad rfl (by omega) (by omega)) ?_
         refine A3 10 rfl (by kernel_rfl) (by kernel_rfl) (by kernel_rfl) (by kernel_rfl) rfl rfl (fun _ h => h.drop (.cons_cons _ <| .cons_cons _ <| .cons_cons _ <| .cons_cons _ <| .cons_cons _ <| .refl _)) (fun _ _ _ h => h) (Am fd_55_1 (Bc rfl <| A2 rfl <| Al rfl <| Aj rfl <| Ax rfl <| Aj rfl <| A2 rfl <| A5 rfl <| Aq rfl <| Ab)) ?_
         refine A3 11 rfl (by kernel_rfl) (by kernel_rfl) (by kernel_rfl) (by kernel_rfl) rfl rfl (fun _ h => h.drop (.cons_cons _ <| .cons_cons _ <| .cons_cons _ <| .cons_cons _ <| .cons_cons _ <| .refl _)) (fun _ _ _ h => h) (Ap one_50 (Ab) (Cell.own 3 rfl rfl)) ?_
         refine A3 12 rfl (by kernel_rfl) (by kernel_rfl) (by kernel_rfl) (by kernel_rfl) rfl rfl (fun _ h => h.drop (.cons_cons _ <| .cons_cons _ <| .cons_cons _ <| .cons_cons _ <| .cons_cons _ <| .refl _)) (fun _ _ _ h => h) (Ag (Bc rfl <| A2 rfl <| Aq rfl <| Al rfl <| At rfl ht15)) ?_
         refine WX_x 13 rfl (by kernel_rfl) rfl (x_quiet (Be bd_96 A1 (.cons (Al rfl <| Ab) (.cons (Ab) .nil)) (Ej h1s h1b (n := j) rfl) (fun _ _ h => h)) ⟨fun _ _ => (fun _ h => h.drop (.cons_cons _ <| .cons_cons _ <| .cons_cons _ <| .cons_cons _ <| .cons_cons _ <| .refl _)), ?_⟩)
         refine A3 14 rfl (by kernel_rfl) (by kernel_rfl) (by kernel_rfl) (by kernel_rfl) rfl rfl (fun _ h => h.drop (.cons_cons _ <| .cons_cons _ <| .cons_cons _ <| .cons_cons _ <| .cons_cons _ <| .refl _)) (fun _ _ _ h => h) (q_rem (Ab) Ad (Int.natCast_nonneg _) (by decide)) ?_
         refine A3 15 rfl (by kernel_rfl) (by kernel_rfl) (by kernel_rfl) (by kernel_rfl) rfl rfl (fun _ h => h.drop (.cons_cons _ <| .cons_cons _ <| .cons_cons _ <| .cons_cons _ <| .cons_cons _ <| .refl _)) (fun _ _ _ h => h) (Bq (Ax rfl <| Al rfl <| Ab) (Ab) rfl (by omega) (by omega)) ?_
         refine A3 16 rfl (by kernel_rfl) (by kernel_rfl) (by kernel_rfl) (by kernel_rfl) rfl rfl (fun _ h => h.drop (.cons_cons _ <| .cons_cons _ <| .cons_cons _ <| .cons_cons _ <| .cons_cons _ <| .refl _)) (fun _ _ _ h => h) (A8 (k := j) Bh (A5 rfl <| Ax rfl <| Aq rfl <| Al rfl <| Ab) (Cu (Nat.le_refl _) (by omega)) (A5 rfl <| Ax rfl <| Aq rfl <| Ab) rfl hjn) ?_
         refine WX_x0 17 rfl (by kernel_rfl) (D4 sz_3 (Ab) (row_addr9 (c := j)) (Al rfl <| Ab) (i := 1) rfl (by rw [iL_len1]; omega) rfl (.next <| .here) ⟨(fun h => nomatch h), ?_⟩)
         refine C9 (by kernel_rfl) ?_ _
         refine Ac ⟨_, Off.eq (C6 rfl <| Ds rfl <| C5), ?_⟩
         rw [iL_setA hjn, updA_updA]
         exact ⟨_, fun h => absurd h hu, fun k2 hk2 => by obtain rfl : k2 = k := (by omega); exact ⟨by omega, by omega⟩, rfl⟩
       rintro e15 _ ⟨y, hy0, hyk, rfl⟩
       refine Af <| Ai fun ds => Aa rfl (Ae Ad) ?_
       refine Ah <| Ac <| A0 <| Bt [13, 16, 17, 18, 19, 100, 101, 102, 103, 104, 105, 106, 107, 108, 109, 110, 111, 112, 113, 114, 115, 116, 117, 118, 119, 120, 121, 122, 123, 124, 125, 126, 127, 128, 129, 130, 131, 132, 133, 134, 135, 136, 137, 138, 139, 140, 141, 142, 143, 144, 145, 146, 147, 148, 149, 150, 151, 152, 153, 154, 155, 156, 157, 158, 159, 160, 161, 162, 163, 164, 165, 166, 167, 168] (fun m e σ => ∃ p : Nat, m + p = s.places.length ∧ e 16 = .int .i64 (p : Int) ∧ ∃ (xs : List Int) (w12 : Value) (R12 : List (Nat × Obj)), e 13 = .int .i64 (c + sumN p (fun q => chgX l R j q (xs[q]?.getD 0))) ∧ xs.length = p ∧ (∀ x ∈ xs, 1 ≤ x ∧ x ≤ 3) ∧ (∀ k : Nat, upN l j = (k : Int) → ∀ q, q < p → stepOk (freeP s q) (rdL R q k) (xs[q]?.getD 0)) ∧ Own 3 1 w12 xs.length (xs.flatMap intE) R12 ∧ σ = ⟨G2, (b13, bx 26 ((vL (updA W j w12) ps.length).flatMap valE)) :: (b12, bx 3 ((iL (updA Y j y) ps.length).flatMap intE)) :: (b3, bx 25 [.slice none 0 0, .slice none 0 0]) :: (b2, bx 55 [v0, v1, v2, v3]) :: (b1, bx 25 [vp, ve]) :: (R10 ++ R12)⟩) (s.places.length) ?_ ?_
       · exact ⟨0, by omega, (Ab), [], _, [], ((Al rfl <| Aj rfl <| Bc rfl <| Ax rfl <| Aq rfl <| Al rfl <| At rfl ht13)).trans (congrArg (Value.int .i64) (by simp [sumN])), rfl, (fun x h => nomatch h), fun k hk q hq => absurd hq (by omega), Own.nil, by rw [updA_self (hT.no j hjn hDj), List.append_nil]⟩
       ·
        rintro m3 e3 _ ⟨p, hm3, hu16, xs, w12, R12, hu13, hxl, hxv, hxk, ho12, rfl⟩
        by_cases hlt : p < s.places.length
        ·
         have ht2 : (turnN xc (j * s.places.length + p)) < 256 := Ey h2b
         have hmul : (j : Int) * (s.places.length : Int) = ((j * s.places.length : Nat) : Int) := by push_cast; rfl
         have hmb : j * s.places.length ≤ 24 := Nat.le_trans (Nat.mul_le_mul (show j ≤ 4 by omega) (show s.places.length ≤ 6 by omega)) (by decide)
         have hsb : 0 ≤ sumN p (fun q => chgX l R j q (xs[q]?.getD 0)) ∧ sumN p (fun q => chgX l R j q (xs[q]?.getD 0)) ≤ p * 1 := ⟨Dp fun q _ => chgX_bound.1, sum_le_mul fun q _ => chgX_bound.2⟩
         refine Af <| Af <| Ai fun ds => Aa rfl (Ag (At rfl hu16)) ?_
         refine Aa rfl (Am Ci (Al rfl <| Aj rfl <| Al rfl <| Aj rfl <| Bc rfl <| Ax rfl <| Aq rfl <| Al rfl <| Aj rfl <| Ax rfl <| Aj rfl <| A2 rfl <| A5 rfl <| Aq rfl <| Al rfl <| Ab)) ?_
         refine Aa rfl (Ap Cs (Ab) (Cell.own 4 rfl rfl)) ?_
         refine Aa rfl (Bm C2 (Ab) hr.places.plain) ?_
         refine Aa rfl (Bu (Aq rfl <| Al rfl <| Ab) (Ab)) ?_
         refine Ah <| Ac <| Ar (Ab) (by first | rfl | exact decide_eq_true (by omega)) ?_
         refine Aw <| Ac <| Af <| A0 <| Af <| Ai fun ds => Aa rfl (Am fd_55_2 (Ax rfl <| Al rfl <| Aj rfl <| Al rfl <| Aj rfl <| Bc rfl <| Ax rfl <| Aq rfl <| Al rfl <| Aj rfl <| Ax rfl <| Aj rfl <| A2 rfl <| A5 rfl <| Aq rfl <| Ab)) ?_
         refine Aa rfl (Ap one_50 (Ab) (Cell.own 3 rfl rfl)) ?_
         refine Aa rfl (Ag (Ax rfl <| Aq rfl <| Al rfl <| Aj rfl <| Al rfl <| Aj rfl <| Bc rfl <| Ax rfl <| Aq rfl <| Al rfl <| At rfl ht15)) ?_
         refine Aa rfl (Am Ci (A5 rfl <| Aj rfl <| Al rfl <| Aj rfl <| Bc rfl <| Ax rfl <| Aq rfl <| Al rfl <| Aj rfl <| Ax rfl <| Aj rfl <| A2 rfl <| A5 rfl <| Aq rfl <| Al rfl <| Ab)) ?_
         refine Aa rfl (Ap Cs (Ab) (Cell.own 4 rfl rfl)) ?_
         refine Aa rfl (Bm C2 (Ab) hr.places.plain) ?_
         refine Aa rfl (q_mul (Aq rfl <| Al rfl <| Ab) (Ab) rfl (by omega) (by omega)) ?_
         refine Aa rfl (Ag (A5 rfl <| Ax rfl <| At rfl hu16)) ?_
         refine Aa rfl (Bq (Al rfl <| Ab) (Ab) rfl (by omega) (by omega)) ?_
         refine Bx rfl (Be bd_96 A1 (.cons (Ax rfl <| Aq rfl <| Al rfl <| Ab) (.cons (Ab) .nil)) (Ej h2s h2b (n := j * s.places.length + p) (by push_cast; rfl)) (fun _ _ h => h)) ?_
         refine Aa rfl (Ae (Ab)) ?_
         refine Ah <| Ac <| Af <| Ai fun ds => Aa rfl (Ag (Ab)) ?_
         refine Aa rfl (q_quo (Ab) Ad (Int.natCast_nonneg _) (by omega) (by decide)) ?_
         refine Aa rfl (q_rem (Ab) Ad (by omega) (by decide)) ?_
         refine Aa rfl (Bq Ad (Ab) rfl (by omega) (by omega)) ?_
         refine Aa rfl (Ae (Ab)) ?_
         refine Ah <| Ac <| Af <| Af <| Ai fun ds => Aa rfl (Ag (A2 rfl <| Ax rfl <| Al rfl <| Aj rfl <| Al rfl <| Aj rfl <| Bc rfl <| Ax rfl <| Aq rfl <| Al rfl <| Aj rfl <| Ax rfl <| Aj rfl <| A5 rfl <| Ax rfl <| Al rfl <| Ab)) ?_
         refine Aa rfl (Ag (A2 rfl <| Ax rfl <| Aq rfl <| Aj rfl <| Al rfl <| Aj rfl <| Bc rfl <| Ax rfl <| Aq rfl <| Al rfl <| At rfl ht15)) ?_
         refine Aa rfl (A8 (k := j) Bh (Al rfl <| Ab) hl.plain (Ab) rfl hjl) ?_
         refine Aa rfl (Ap Bk (Ab) (hl.cell1 hjl rfl)) ?_
         refine Aa rfl (Bw (Ab) Ad) ?_
         refine Ah <| Ac <| WC_cut [13, 18, 19, 126, 127, 128, 129, 130, 131, 132, 133, 134, 135, 136, 137, 138, 139, 140, 141, 142, 143, 144, 145, 146, 147, 148, 149, 150, 151, 152, 153, 154, 155, 156, 157, 158] (fun st σ => ∃ r : Int, 1 ≤ r ∧ r ≤ 3 ∧ (∀ k : Nat, upN l j = (k : Int) → stepOk (freeP s p) (rdL R p k) r) ∧ st 18 = .int .i64 r ∧ st 13 = .int .i64 (c + sumN p (fun q => chgX l R j q (xs[q]?.getD 0)) + chgX l R j p r) ∧ σ = ⟨G2, (b13, bx 26 ((vL (updA W j w12) ps.length).flatMap valE)) :: (b12, bx 3 ((iL (updA Y j y) ps.length).flatMap intE)) :: (b3, bx 25 [.slice none 0 0, .slice none 0 0]) :: (b2, bx 55 [v0, v1, v2, v3]) :: (b1, bx 25 [vp, ve]) :: (R10 ++ R12)⟩) ?_ ?_
         ·
          by_cases hu : decide (upN l j = -1) = true
          ·
           have hu := of_decide_eq_true hu
           refine Ao (Ab) (by rw [C1 hjl]; exact decide_eq_false (fun h => h hu)) ?_
           refine Aw <| Ac ⟨_, Off.eq (C5), ?_⟩
           exact ⟨(1 + (((turnN xc (j * s.places.length + p)) : Nat) : Int) / 3 % 3), by omega, by omega, fun k hk => absurd (hu.symm.trans hk) (by omega), (Ax rfl <| Al rfl <| Ab), ((A2 rfl <| A5 rfl <| Aq rfl <| At rfl hu13)).trans (congrArg (Value.int .i64) (by unfold chgX; rw [if_pos hu]; omega)), rfl⟩
          ·
           replace hu : decide (upN l j = -1) = false := by simpa using hu
           have hu := of_decide_eq_false hu
           obtain ⟨k, hku, hkl⟩ := ht.in_.nat hjl hu
           have hkn : k < ps.length := by omega
           have hlk : l[j] = (k : Int) := by rw [C1 hjl, hku]
           have hDk := (hup k hku).1
           have hkR := hT.rd k hkn hDk
           have hlR := hI.len k hkl hDk
           have hpR : p < (R k).length := by omega
           have hkj : k ≠ j := (hup k hku).2.2
           have hfr : (R k)[p] = rdL R p k := by unfold rdL; rw [List.getElem?_eq_getElem hpR]; rfl
           have hv9 := hI.val k hkl hDk _ (List.getElem_mem hpR)
           have hkd := hv.kind p hlt
           have hck : ∀ r, chgX l R j p r = if (R k)[p] = r then 0 else 1 := fun r => by unfold chgX; rw [if_neg hu, hku, Int.toNat_natCast, ← hfr]
           refine Ar (Ab) (by rw [C1 hjl]; exact decide_eq_true hu) ?_
           by_cases h3 : decide (0 < (((turnN xc (j * s.places.length + p)) : Nat) : Int) % 3) = true
           ·
            refine Af <| Ai fun ds => Aa rfl (Ag (A2 rfl <| A5 rfl <| Aq rfl <| Aj rfl <| Al rfl <| Aj rfl <| Bc rfl <| Ax rfl <| Aq rfl <| Al rfl <| Aj rfl <| Ax rfl <| Aj rfl <| Aq rfl <| Ab)) ?_
            refine Aa rfl (Ag (A2 rfl <| A5 rfl <| Aq rfl <| Al rfl <| Aj rfl <| Al rfl <| Aj rfl <| Bc rfl <| Ax rfl <| Aq rfl <| Al rfl <| Aj rfl <| Ax rfl <| Aj rfl <| A5 rfl <| Ax rfl <| Al rfl <| Ab)) ?_
            refine Aa rfl (Ag (A2 rfl <| A5 rfl <| Ax rfl <| Aj rfl <| Al rfl <| Aj rfl <| Bc rfl <| Ax rfl <| Aq rfl <| Al rfl <| At rfl ht15)) ?_
            refine Aa rfl (A8 (k := j) Bh (Al rfl <| Ab) hl.plain (Ab) rfl hjl) ?_
            refine Aa rfl (Ap Bk (Ab) (hl.cell1 hjl rfl)) ?_
            refine Aa rfl (A8 (k := k) sl_114 (Ax rfl <| Ab) (Cu (Nat.le_refl _) (by omega)) (Ab) hlk hkn) ?_
            refine Aa rfl (Ap Cb (Ab) (Dn 0 rfl ((vL_get hkn).trans (congrArg some (Cl hkj))))) ?_
            refine Aa rfl (Ag (Bc rfl <| Al rfl <| At rfl hu16)) ?_
            refine Aa rfl (A8 (k := p) Bh (Al rfl <| Ab) hkR.plain (Ab) rfl hpR) ?_
            refine Aa rfl (Ap Bk (Ab) (hkR.cell1 hpR rfl)) ?_
            refine Aa rfl (Ae (Ab)) ?_
            refine Ah <| Ac <| Af <| Af <| Ai fun ds => Aa rfl (Ag (A2 rfl <| Ax rfl <| Al rfl <| Ab)) ?_
            refine Aa rfl (q_rem (Ab) Ad (Int.natCast_nonneg _) (by decide)) ?_
            refine Aa rfl (C8 (Ab) Ad) ?_
            refine Aa rfl (Ag (Ab)) ?_
            refine Au rfl rfl (Ab) (.inl (congrArg Value.bool h3)) rfl ?_
            refine Au rfl rfl (Al rfl <| Ab) (.inl (congrArg Value.bool h3)) rfl ?_
            refine Au rfl rfl (Aq rfl <| Ab) (.inl (congrArg Value.bool h3)) rfl ?_
            refine Au rfl rfl (Aq rfl <| Al rfl <| Ab) (.inl (congrArg Value.bool h3)) rfl ?_
            refine Au rfl rfl (Ax rfl <| Ab) (.inl (congrArg Value.bool h3)) rfl ?_
            refine Au rfl rfl (Ax rfl <| Al rfl <| Ab) (.inl (congrArg Value.bool h3)) rfl ?_
            refine Au rfl rfl (Ax rfl <| Aq rfl <| Ab) (.inl (congrArg Value.bool h3)) rfl ?_
            refine Au rfl rfl (Ax rfl <| Aq rfl <| Al rfl <| Ab) (.inl (congrArg Value.bool h3)) rfl ?_
            refine Au rfl rfl (Ab) (.inr rfl) rfl ?_
            refine Au rfl rfl (Al rfl <| Ab) (.inr rfl) rfl ?_
            refine Au rfl rfl (Aq rfl <| Ab) (.inr rfl) rfl ?_
            refine Au rfl rfl (A5 rfl <| Aq rfl <| Al rfl <| Ab) (.inl (congrArg Value.bool h3)) rfl ?_
            refine Aa rfl (A6 (A5 rfl <| Ax rfl <| Ab) h3 Ad) ?_
            refine Ah <| Ac <| Ar (Ab) rfl ?_
            refine Ai fun ds => Aa rfl (Ag (A2 rfl <| Al rfl <| Ab)) ?_
            refine Aa rfl (Ae (Ab)) ?_
            refine Ah <| Ac <| Af <| Ai fun ds => Aa rfl (Ag (Ab)) ?_
            refine Aa rfl (Ag (A2 rfl <| Ax rfl <| Ab)) ?_
            refine Aa rfl (Bw (Al rfl <| Ab) (Ab)) ?_
            refine Ah <| Ac <| Ao (Ab) (decide_eq_false (fun h => h rfl)) ?_
            refine Aw <| Ac ⟨_, Off.eq (Ex rfl <| Ds rfl <| C5), ?_⟩
            exact ⟨(R k)[p], by omega, by omega, fun k2 hk2 => by obtain rfl : k2 = k := (by omega); rw [← hfr]; exact .inl rfl, (Aq rfl <| Al rfl <| Ab), ((Bc rfl <| A2 rfl <| A5 rfl <| Aq rfl <| Al rfl <| At rfl hu13)).trans (congrArg (Value.int .i64) (by rw [hck, if_pos rfl]; omega)), rfl⟩
           ·
            replace h3 : decide (0 < (((turnN xc (j * s.places.length + p)) : Nat) : Int) % 3) = false := by simpa using h3
            refine Af <| Ai fun ds => Aa rfl (Ag (A2 rfl <| A5 rfl <| Aq rfl <| Aj rfl <| Al rfl <| Aj rfl <| Bc rfl <| Ax rfl <| Aq rfl <| Al rfl <| Aj rfl <| Ax rfl <| Aj rfl <| Aq rfl <| Ab)) ?_
            refine Aa rfl (Ag (A2 rfl <| A5 rfl <| Aq rfl <| Al rfl <| Aj rfl <| Al rfl <| Aj rfl <| Bc rfl <| Ax rfl <| Aq rfl <| Al rfl <| Aj rfl <| Ax rfl <| Aj rfl <| A5 rfl <| Ax rfl <| Al rfl <| Ab)) ?_
            refine Aa rfl (Ag (A2 rfl <| A5 rfl <| Ax rfl <| Aj rfl <| Al rfl <| Aj rfl <| Bc rfl <| Ax rfl <| Aq rfl <| Al rfl <| At rfl ht15)) ?_
            refine Aa rfl (A8 (k := j) Bh (Al rfl <| Ab) hl.plain (Ab) rfl hjl) ?_
            refine Aa rfl (Ap Bk (Ab) (hl.cell1 hjl rfl)) ?_
            refine Aa rfl (A8 (k := k) sl_114 (Ax rfl <| Ab) (Cu (Nat.le_refl _) (by omega)) (Ab) hlk hkn) ?_
            refine Aa rfl (Ap Cb (Ab) (Dn 0 rfl ((vL_get hkn).trans (congrArg some (Cl hkj))))) ?_
            refine Aa rfl (Ag (Bc rfl <| Al rfl <| At rfl hu16)) ?_
            refine Aa rfl (A8 (k := p) Bh (Al rfl <| Ab) hkR.plain (Ab) rfl hpR) ?_
            refine Aa rfl (Ap Bk (Ab) (hkR.cell1 hpR rfl)) ?_
            refine Aa rfl (Ae (Ab)) ?_
            refine Ah <| Ac <| Af <| Af <| Ai fun ds => Aa rfl (Ag (A2 rfl <| Ax rfl <| Al rfl <| Ab)) ?_
            refine Aa rfl (q_rem (Ab) Ad (Int.natCast_nonneg _) (by decide)) ?_
            refine Aa rfl (C8 (Ab) Ad) ?_
            refine Aa rfl (Ag (Ab)) ?_
            refine As rfl rfl (Ab) h3 ?_
            refine Aa rfl (Am Ci (Bc rfl <| A5 rfl <| Al rfl <| Aj rfl <| Al rfl <| Aj rfl <| Bc rfl <| Ax rfl <| Aq rfl <| Al rfl <| Aj rfl <| Ax rfl <| Aj rfl <| A2 rfl <| A5 rfl <| Aq rfl <| Al rfl <| Ab)) ?_
            refine As rfl rfl (Al rfl <| Ab) h3 ?_
            refine Aa rfl (Ap Cs (Ab) (Cell.own 4 rfl rfl)) ?_
            refine As rfl rfl (Aq rfl <| Ab) h3 ?_
            refine Aa rfl (Ag (Bc rfl <| A5 rfl <| Aq rfl <| Al rfl <| At rfl hu16)) ?_
            refine As rfl rfl (Aq rfl <| Al rfl <| Ab) h3 ?_
            refine Aa rfl (A8 (k := p) C2 (Al rfl <| Ab) hr.places.plain (Ab) rfl hlt) ?_
            refine As rfl rfl (Ax rfl <| Ab) h3 ?_
            refine Aa rfl (Bs fd_70_1 (Ab)) ?_
            refine As rfl rfl (Ax rfl <| Al rfl <| Ab) h3 ?_
            refine Aa rfl (Ap Bk (Ab) (hr.places.cell hlt rfl)) ?_
            refine As rfl rfl (Ax rfl <| Aq rfl <| Ab) h3 ?_
            refine Aa rfl (By (Ab) Ad) ?_
            refine As rfl rfl (Ax rfl <| Aq rfl <| Al rfl <| Ab) h3 ?_
            refine Aa rfl (Ag (Ab)) ?_
            by_cases hk1 : (s.pl p).kind = 1
            ·
             refine As rfl rfl (Ab) (by rw [pl_at hlt]; exact decide_eq_true hk1) ?_
             refine Aa rfl (Ag (A2 rfl <| A5 rfl <| Ax rfl <| Ab)) ?_
             refine As rfl rfl (Al rfl <| Ab) (by rw [pl_at hlt]; exact decide_eq_true hk1) ?_
             refine Aa rfl (Ag (A5 rfl <| Ax rfl <| Al rfl <| Ab)) ?_
             refine As rfl rfl (Aq rfl <| Ab) (by rw [pl_at hlt]; exact decide_eq_true hk1) ?_
             refine Aa rfl (Bu (Al rfl <| Ab) (Ab)) ?_
             refine As rfl rfl (A5 rfl <| Aq rfl <| Al rfl <| Ab) h3 ?_
             refine Aa rfl (A6 (Aq rfl <| Al rfl <| Ab) (by rw [pl_at hlt]; exact decide_eq_true hk1) (Ab)) ?_
             refine Aa rfl (A9 (A5 rfl <| Ax rfl <| Ab) h3 (Ab)) ?_
             refine Ah <| Ac ?_
             by_cases hlf : (1 + (((turnN xc (j * s.places.length + p)) : Nat) : Int) / 3 % 3) < (R k)[p]
             ·
              refine Ar (Ab) (decide_eq_true hlf) ?_
              refine Ai fun ds => Aa rfl (Ag (A2 rfl <| Al rfl <| Ab)) ?_
              refine Aa rfl (Ae (Ab)) ?_
              refine Ah <| Ac <| Af <| Ai fun ds => Aa rfl (Ag (Ab)) ?_
              refine Aa rfl (Ag (A2 rfl <| Ax rfl <| Ab)) ?_
              refine Aa rfl (Bw (Al rfl <| Ab) (Ab)) ?_
              refine Ah <| Ac <| Ao (Ab) (decide_eq_false (fun h => h rfl)) ?_
              refine Aw <| Ac ⟨_, Off.eq (Ex rfl <| Ds rfl <| C5), ?_⟩
              exact ⟨(R k)[p], by omega, by omega, fun k2 hk2 => by obtain rfl : k2 = k := (by omega); rw [← hfr]; exact .inl rfl, (Aq rfl <| Al rfl <| Ab), ((Bc rfl <| A2 rfl <| A5 rfl <| Aq rfl <| Al rfl <| At rfl hu13)).trans (congrArg (Value.int .i64) (by rw [hck, if_pos rfl]; omega)), rfl⟩
             ·
              refine Ao (Ab) (decide_eq_false hlf) ?_
              by_cases hne : (1 + (((turnN xc (j * s.places.length + p)) : Nat) : Int) / 3 % 3) = (R k)[p]
              ·
               refine Aw <| Ac <| Af <| Ai fun ds => Aa rfl (Ag (Bc rfl <| Al rfl <| Ab)) ?_
               refine Aa rfl (Ag (A2 rfl <| Aq rfl <| Ab)) ?_
               refine Aa rfl (Bw (Al rfl <| Ab) (Ab)) ?_
               refine Ah <| Ac <| Ao (Ab) (decide_eq_false (fun h => h hne)) ?_
               refine Aw <| Ac ⟨_, Off.eq (C6 rfl <| Dr rfl <| Ee rfl <| ou2 rfl <| Ds rfl <| C5), ?_⟩
               exact ⟨(1 + (((turnN xc (j * s.places.length + p)) : Nat) : Int) / 3 % 3), by omega, by omega, fun k2 hk2 => by obtain rfl : k2 = k := (by omega); rw [← hfr]; exact (show stepOk _ _ _ from by by_cases e : (R k2)[p] = (1 + (((turnN xc (j * s.places.length + p)) : Nat) : Int) / 3 % 3); exact .inl e; exact .inr (.inl (by omega))), (Bc rfl <| Ax rfl <| Ab), ((Bc rfl <| A2 rfl <| A5 rfl <| Al rfl <| At rfl hu13)).trans (congrArg (Value.int .i64) (by rw [hck, if_pos hne.symm]; omega)), rfl⟩
              ·
               refine Aw <| Ac <| Af <| Ai fun ds => Aa rfl (Ag (Bc rfl <| Al rfl <| Ab)) ?_
               refine Aa rfl (Ag (A2 rfl <| Aq rfl <| Ab)) ?_
               refine Aa rfl (Bw (Al rfl <| Ab) (Ab)) ?_
               refine Ah <| Ac <| Ar (Ab) (decide_eq_true hne) ?_
               refine Ai fun ds => Aa rfl (Ag (Bc rfl <| A2 rfl <| A5 rfl <| Al rfl <| At rfl hu13)) ?_
               refine Aa rfl (Bq (Ab) Ad rfl (by omega) (by omega)) ?_
               refine Aa rfl (Ae (Ab)) ?_
               refine Ah <| Ac ⟨_, Off.eq (Ex rfl <| ou2 rfl <| C5), ?_⟩
               exact ⟨(1 + (((turnN xc (j * s.places.length + p)) : Nat) : Int) / 3 % 3), by omega, by omega, fun k2 hk2 => by obtain rfl : k2 = k := (by omega); rw [← hfr]; exact (show stepOk _ _ _ from by by_cases e : (R k2)[p] = (1 + (((turnN xc (j * s.places.length + p)) : Nat) : Int) / 3 % 3); exact .inl e; exact .inr (.inl (by omega))), (Bc rfl <| Ax rfl <| Aq rfl <| Al rfl <| Ab), ((Ab)).trans (congrArg (Value.int .i64) (by rw [hck, if_neg (fun h => hne h.symm)])), rfl⟩
            ·
             refine Au rfl rfl (Ab) (.inl (congrArg Value.bool (by rw [pl_at hlt]; exact decide_eq_false hk1))) rfl ?_
             refine Au rfl rfl (Al rfl <| Ab) (.inl (congrArg Value.bool (by rw [pl_at hlt]; exact decide_eq_false hk1))) rfl ?_
             refine Au rfl rfl (Aq rfl <| Ab) (.inl (congrArg Value.bool (by rw [pl_at hlt]; exact decide_eq_false hk1))) rfl ?_
             refine As rfl rfl (A5 rfl <| Aq rfl <| Al rfl <| Ab) h3 ?_
             refine Aa rfl (A9 (Aq rfl <| Al rfl <| Ab) (by rw [pl_at hlt]; exact decide_eq_false hk1) Ad) ?_
             refine Aa rfl (A9 (A5 rfl <| Ax rfl <| Ab) h3 (Ab)) ?_
             refine Ah <| Ac <| Ao (Ab) rfl ?_
             by_cases hne : (1 + (((turnN xc (j * s.places.length + p)) : Nat) : Int) / 3 % 3) = (R k)[p]
             ·
              refine Aw <| Ac <| Af <| Ai fun ds => Aa rfl (Ag (Bc rfl <| Al rfl <| Ab)) ?_
              refine Aa rfl (Ag (A2 rfl <| Aq rfl <| Ab)) ?_
              refine Aa rfl (Bw (Al rfl <| Ab) (Ab)) ?_
              refine Ah <| Ac <| Ao (Ab) (decide_eq_false (fun h => h hne)) ?_
              refine Aw <| Ac ⟨_, Off.eq (C6 rfl <| Dr rfl <| Ee rfl <| ou2 rfl <| Ds rfl <| C5), ?_⟩
              exact ⟨(1 + (((turnN xc (j * s.places.length + p)) : Nat) : Int) / 3 % 3), by omega, by omega, fun k2 hk2 => by obtain rfl : k2 = k := (by omega); rw [← hfr]; exact .inr (.inr (decide_eq_true (by omega))), (Bc rfl <| Ax rfl <| Ab), ((Bc rfl <| A2 rfl <| A5 rfl <| Al rfl <| At rfl hu13)).trans (congrArg (Value.int .i64) (by rw [hck, if_pos hne.symm]; omega)), rfl⟩
             ·
              refine Aw <| Ac <| Af <| Ai fun ds => Aa rfl (Ag (Bc rfl <| Al rfl <| Ab)) ?_
              refine Aa rfl (Ag (A2 rfl <| Aq rfl <| Ab)) ?_
              refine Aa rfl (Bw (Al rfl <| Ab) (Ab)) ?_
              refine Ah <| Ac <| Ar (Ab) (decide_eq_true hne) ?_
              refine Ai fun ds => Aa rfl (Ag (Bc rfl <| A2 rfl <| A5 rfl <| Al rfl <| At rfl hu13)) ?_
              refine Aa rfl (Bq (Ab) Ad rfl (by omega) (by omega)) ?_
              refine Aa rfl (Ae (Ab)) ?_
              refine Ah <| Ac ⟨_, Off.eq (Ex rfl <| ou2 rfl <| C5), ?_⟩
              exact ⟨(1 + (((turnN xc (j * s.places.length + p)) : Nat) : Int) / 3 % 3), by omega, by omega, fun k2 hk2 => by obtain rfl : k2 = k := (by omega); rw [← hfr]; exact .inr (.inr (decide_eq_true (by omega))), (Bc rfl <| Ax rfl <| Aq rfl <| Al rfl <| Ab), ((Ab)).trans (congrArg (Value.int .i64) (by rw [hck, if_neg (fun h => hne h.symm)])), rfl⟩
         rintro e22 _ ⟨r, hr1, hr3, hrk, hc18, hc13, rfl⟩
         refine Ai fun ds => Aa rfl (Ag (Aj rfl <| A2 rfl <| A5 rfl <| Aq rfl <| Aj rfl <| Al rfl <| Aj rfl <| Bc rfl <| Ax rfl <| Aq rfl <| Al rfl <| Aj rfl <| Ax rfl <| Aj rfl <| Aq rfl <| Ab)) ?_
         refine Aa rfl (Ag (Al rfl <| Aj rfl <| A2 rfl <| A5 rfl <| Aq rfl <| Aj rfl <| Al rfl <| Aj rfl <| Bc rfl <| Ax rfl <| Aq rfl <| Al rfl <| At rfl ht15)) ?_
         refine Aa rfl (Ag (Aq rfl <| Aj rfl <| A2 rfl <| A5 rfl <| Aq rfl <| Aj rfl <| Al rfl <| Aj rfl <| Bc rfl <| Ax rfl <| Aq rfl <| Al rfl <| Aj rfl <| Ax rfl <| Aj rfl <| Aq rfl <| Ab)) ?_
         refine Aa rfl (Ag (Aq rfl <| Al rfl <| Aj rfl <| A2 rfl <| A5 rfl <| Aq rfl <| Aj rfl <| Al rfl <| Aj rfl <| Bc rfl <| Ax rfl <| Aq rfl <| Al rfl <| At rfl ht15)) ?_
         refine Aa rfl (A8 (k := j) sl_114 (Al rfl <| Ab) (Cu (Nat.le_refl _) (by omega)) (Ab) rfl hjn) ?_
         refine Aa rfl (Ap Cb (Ab) (Dn 0 rfl ((vL_get hjn).trans (congrArg some Dk)))) ?_
         refine Aa rfl (Ag (Ax rfl <| Aq rfl <| At rfl hc18)) ?_
         refine Bj rfl (B4 Bh Df rfl (.cons (Ab) .nil) rfl rfl (by decide) (by simp [Value.oneCell']) fun b17 hb17 nb17 => ?_)
         refine Bj rfl (Co Bh el_3 (Aq rfl <| Ab) ho12 (Ab) (Dl (s := 1) 0 rfl rfl (by simp [Value.oneCell'])) (by omega) (by omega) (.s <| .s <| .s <| .s <| .s <| .s <| .k <| .z) .last fun v18 R19 ho20 => ?_)
         have ho19 := ho20.snoc (x := r) rfl rfl
         refine Aa rfl (A8 (k := j) sl_114 (A5 rfl <| Ab) (Cu (Nat.le_refl _) (by omega)) (Ax rfl <| Aq rfl <| Al rfl <| Ab) rfl hjn) ?_
         refine Cf (D4 sz_26 (Ab) (row_addr9 (c := j)) (Al rfl <| Ab) (i := 1) rfl (by rw [vL_len1]; omega) ho19.one (.next <| .here) ?_)
         refine Ah <| Bd <| Ac ?_
         rw [vL_set hjn, updA_updA]
         refine Dj (fun _ _ h => h.drop (.cons _ <| .cons_cons _ <| .cons_cons _ <| .cons_cons _ <| .cons_cons _ <| .cons_cons _ <| .refl _)) ?_
         refine Ai fun ds => Aa rfl (Ag (A5 rfl <| Aq rfl <| Aj rfl <| A2 rfl <| A5 rfl <| Aq rfl <| At rfl hu16)) ?_
         refine Aa rfl (Bq (Ab) Ad rfl (by omega) (by omega)) ?_
         refine Aa rfl (Ae (Ab)) ?_
         refine Ah <| Ac ⟨_, m3 - 1, Off.eq (Dr rfl <| Ee rfl <| Ds rfl <| Du rfl <| C6 rfl <| Dr rfl <| ou2 rfl <| Bg), by omega, ?_⟩
         exact ⟨p + 1, by omega, (Ab), xs ++ [r], _, _, ((A5 rfl <| Ax rfl <| Al rfl <| At rfl hc13)).trans (congrArg (Value.int .i64) (tell_snoc hxl)), by simp [hxl], tell_val hxv ⟨hr1, hr3⟩, tell_step hxl hxk hrk, ho19, rfl⟩
        ·
         refine Af <| Af <| Ai fun ds => Aa rfl (Ag (At rfl hu16)) ?_
         refine Aa rfl (Am Ci (Al rfl <| Aj rfl <| Al rfl <| Aj rfl <| Bc rfl <| Ax rfl <| Aq rfl <| Al rfl <| Aj rfl <| Ax rfl <| Aj rfl <| A2 rfl <| A5 rfl <| Aq rfl <| Al rfl <| Ab)) ?_
         refine Aa rfl (Ap Cs (Ab) (Cell.own 4 rfl rfl)) ?_
         refine Aa rfl (Bm C2 (Ab) hr.places.plain) ?_
         refine Aa rfl (Bu (Aq rfl <| Al rfl <| Ab) (Ab)) ?_
         refine Ah <| Ac <| Ao (Ab) (by first | rfl | exact decide_eq_false (by omega)) ?_
         obtain rfl : p = s.places.length := by omega
         refine Ct (σ := ⟨_, _⟩) (by rfl) ho12 (.s <| .s <| .s <| .s <| .s <| .k <| .z) .last fun F21 hF22 hz23 => ?_
         replace hr := hr.mono hF22
         replace hl := hl.mono hF22
         replace h1s := h1s.mono hF22
         replace h2s := h2s.mono hF22
         replace h3s := h3s.mono hF22
         replace hT := hT.mono hF22
         replace hle0 := Heap.le_trans hle0 hF22
         refine E4 (.one (.here) <| .one (.here) <| .one (.here) <| .one (.here) <| .one (.here) <| .lastb (.here)) ?_
         have hw12 := ho12.sl (fun _ => rfl) hz23 (by omega)
         have hI2 := hI.step ht hjl hDj (y := y) hxl hxv hy0 (fun k hk => (hup k hk).2.1) (fun k hk => ⟨(hup k hk).1, (hyk k hk).1, (hyk k hk).2, hxk k hk⟩)
         have hT2 := hT.step (i := j) hw12
         refine Bp ?_
         refine Bf <| Bf <| Bi <| Bd <| Ac <| Ai fun ds => Aa rfl (Ag (Ax rfl <| Al rfl <| Aj rfl <| Al rfl <| Aj rfl <| Bc rfl <| Ax rfl <| Aq rfl <| Al rfl <| At rfl ht15)) ?_
         refine Aa rfl (Bq (Ab) Ad rfl (by omega) (by omega)) ?_
         refine Aa rfl (Ae (Ab)) ?_
         refine Ah <| Ac ⟨_, m2 - 1, Off.eq (Dr rfl <| Du rfl <| Ds rfl <| Du rfl <| Ex rfl <| Ee rfl <| ou2 rfl <| Ds rfl <| Bg), by omega, ?_⟩
         exact ⟨j + 1, by omega, (Ab), _, _, _, _, _, _, hle0, hr, hl, h1s, h2s, h3s, hT2, (A5 rfl <| At rfl hu13), hI2, fun i hi h => by by_cases e : i = j; subst e; exact Dk; rw [Cl e]; exact hcov i hi (by omega), rfl⟩
      ·
       obtain ⟨k0, hku0, hkl0⟩ := ht.in_.nat hjl hu0
       have hkn0 : k0 < ps.length := by omega
       have hlk0 : l[j] = (k0 : Int) := by rw [C1 hjl, hku0]
       have hρk := hρs j hjl k0 hku0
       refine As rfl rfl (Ab) (by rw [C1 hjl]; exact decide_eq_true hu0) ?_
       refine Aa rfl (Ag (A5 rfl <| Ax rfl <| Aq rfl <| Al rfl <| Aj rfl <| Ax rfl <| Aj rfl <| Ax rfl <| Al rfl <| Ab)) ?_
       refine As rfl rfl (Al rfl <| Ab) (by rw [C1 hjl]; exact decide_eq_true hu0) ?_
       refine Aa rfl (Ag (A2 rfl <| Aj rfl <| Ax rfl <| Aj rfl <| A5 rfl <| Ax rfl <| Al rfl <| Ab)) ?_
       refine As rfl rfl (Aq rfl <| Ab) (by rw [C1 hjl]; exact decide_eq_true hu0) ?_
       refine Aa rfl (Ag (A2 rfl <| Al rfl <| At rfl ht15)) ?_
       refine As rfl rfl (Aq rfl <| Al rfl <| Ab) (by rw [C1 hjl]; exact decide_eq_true hu0) ?_
       refine Aa rfl (A8 (k := j) Bh (Al rfl <| Ab) hl.plain (Ab) rfl hjl) ?_
       refine As rfl rfl (Ax rfl <| Ab) (by rw [C1 hjl]; exact decide_eq_true hu0) ?_
       refine Aa rfl (Ap Bk (Ab) (hl.cell1 hjl rfl)) ?_
       refine As rfl rfl (Ax rfl <| Al rfl <| Ab) (by rw [C1 hjl]; exact decide_eq_true hu0) ?_
       refine Aa rfl (A8 (k := k0) Bh (Ax rfl <| Ab) (Cu (Nat.le_refl _) (by omega)) (Ab) hlk0 hkn0) ?_
       refine As rfl rfl (Ax rfl <| Aq rfl <| Ab) (by rw [C1 hjl]; exact decide_eq_true hu0) ?_
       refine Aa rfl (Ap Bk (Ab) (Dn 1 rfl (iL_get hkn0))) ?_
       refine As rfl rfl (Ax rfl <| Aq rfl <| Al rfl <| Ab) (by rw [C1 hjl]; exact decide_eq_true hu0) ?_
       refine Aa rfl (By (Ab) Ad) ?_
       refine As rfl rfl (A5 rfl <| Ax rfl <| Aq rfl <| Ab) (decide_eq_false (by omega)) ?_
       refine Aa rfl (A6 (A5 rfl <| Ab) (by rw [C1 hjl]; exact decide_eq_true hu0) (Ab)) ?_
       refine Aa rfl (A9 (A5 rfl <| Ax rfl <| Aq rfl <| Al rfl <| Ab) (decide_eq_false (by omega)) (Ab)) ?_
       refine Ah <| Ac ?_
       by_cases hDk0 : D k0 = true
       ·
        have hyb0 := hI.lo k0 hkl0 hDk0
        have hup : ∀ k : Nat, upN l j = (k : Int) → D k = true ∧ ρ k < ρ j ∧ k ≠ j := fun k hk => by obtain rfl : k = k0 := (by omega); exact ⟨hDk0, hρk, fun e => by subst e; rw [hDj] at hDk0; cases hDk0⟩
        refine Ao (Ab) (decide_eq_false (by omega)) ?_
        have htb : turnN xb j < 256 := Ey h1b
        refine Aw <| Ac <| Af <| Ai fun ds => Aa rfl (Ag (A2 rfl <| A5 rfl <| Al rfl <| Aj rfl <| Ax rfl <| Aj rfl <| Ax rfl <| Al rfl <| Ab)) ?_
        refine Aa rfl (Ag (A2 rfl <| A5 rfl <| Aq rfl <| At rfl ht15)) ?_
        refine Aa rfl (Am fd_55_1 (A2 rfl <| A5 rfl <| Aq rfl <| Al rfl <| Aj rfl <| Ax rfl <| Aj rfl <| A2 rfl <| A5 rfl <| Aq rfl <| Ab)) ?_
        refine Aa rfl (Ap one_50 (Ab) (Cell.own 3 rfl rfl)) ?_
        refine Aa rfl (Ag (A2 rfl <| A5 rfl <| Ax rfl <| Al rfl <| At rfl ht15)) ?_
        refine Bx rfl (Be bd_96 A1 (.cons (Al rfl <| Ab) (.cons (Ab) .nil)) (Ej h1s h1b (n := j) rfl) (fun _ _ h => h)) ?_
        refine Aa rfl (q_rem (Ab) Ad (Int.natCast_nonneg _) (by decide)) ?_
        refine Aa rfl (Bq Ad (Ab) rfl (by omega) (by omega)) ?_
        refine Aa rfl (A8 (k := j) Bh (Ax rfl <| Aq rfl <| Al rfl <| Ab) (Cu (Nat.le_refl _) (by omega)) (Ax rfl <| Aq rfl <| Ab) rfl hjn) ?_
        refine Cf (D4 sz_3 (Ab) (row_addr9 (c := j)) (Al rfl <| Ab) (i := 1) rfl (by rw [iL_len1]; omega) rfl (.next <| .here) ?_)
        refine Ah <| Ac <| Af <| Af ?_
        rw [iL_setA hjn]
        refine Ai fun ds => Aa rfl (Ag (Bc rfl <| Aq rfl <| Aj rfl <| Ax rfl <| Aj rfl <| A5 rfl <| Ax rfl <| Al rfl <| Ab)) ?_
        refine Aa rfl (Ag (Bc rfl <| Aq rfl <| Al rfl <| At rfl ht15)) ?_
        refine Aa rfl (A8 (k := j) Bh (Al rfl <| Ab) hl.plain (Ab) rfl hjl) ?_
        refine Aa rfl (Ap Bk (Ab) (hl.cell1 hjl rfl)) ?_
        refine Aa rfl (Bw (Ab) Ad) ?_
        refine Ah <| Ac <| WC_cut [83, 84, 85, 86, 87, 88, 89, 90, 91, 92, 93, 94, 95, 96, 97, 98, 99] (fun st σ => ∃ y : Int, (upN l j = -1 → 1450 ≤ y ∧ y ≤ 1499) ∧ (∀ k : Nat, upN l j = (k : Int) → Y k < y ∧ y ≤ Y k + 50) ∧ σ = ⟨G2, (b13, bx 26 ((vL W ps.length).flatMap valE)) :: (b12, bx 3 ((iL (updA Y j y) ps.length).flatMap intE)) :: (b3, bx 25 [.slice none 0 0, .slice none 0 0]) :: (b2, bx 55 [v0, v1, v2, v3]) :: (b1, bx 25 [vp, ve]) :: R10⟩) ?_ ?_
        ·
         by_cases hu : decide (upN l j = -1) = true
         ·
          have hu := of_decide_eq_true hu
          refine Ao (Ab) (by rw [C1 hjl]; exact decide_eq_false (fun h => h hu)) ?_
          refine Aw <| Ac ⟨_, Off.eq (C5), ?_⟩
          exact ⟨_, fun _ => by omega, fun k hk => absurd (hu.symm.trans hk) (by omega), rfl⟩
         ·
          replace hu : decide (upN l j = -1) = false := by simpa using hu
          have hu := of_decide_eq_false hu
          obtain ⟨k, hku, hkl⟩ := ht.in_.nat hjl hu
          have hkn : k < ps.length := by omega
          have hlk : l[j] = (k : Int) := by rw [C1 hjl, hku]
          have hDk := (hup k hku).1
          have hyb := hI.lo k hkl hDk
          have hrkb := hρn k hkl
          have hkj : k ≠ j := (hup k hku).2.2
          have hYk : updA Y j (1450 + ((turnN xb j : Nat) : Int) % 50) k = Y k := Cl hkj
          refine Ar (Ab) (by rw [C1 hjl]; exact decide_eq_true hu) ?_
          have hleS := hle0
          refine C0 (.inl rfl) (fun _ _ h => h) (.cons_cons _ <| .cons_cons _ <| .cons_cons _ <| .cons_cons _ <| .cons_cons _ <| .refl _) [17] (by kernel_rfl) fun ds => ?_
          refine A3 0 rfl (by kernel_rfl) (by kernel_rfl) (by kernel_rfl) (by kernel_rfl) rfl rfl (fun _ h => h.drop (.cons_cons _ <| .cons_cons _ <| .cons_cons _ <| .cons_cons _ <| .cons_cons _ <| .refl _)) (fun _ _ _ h => h) (Ag (Bc rfl <| Ax rfl <| Aq rfl <| Al rfl <| Aj rfl <| Ax rfl <| Aj rfl <| Ax rfl <| Al rfl <| Ab)) ?_
          refine A3 1 rfl (by kernel_rfl) (by kernel_rfl) (by kernel_rfl) (by kernel_rfl) rfl rfl (fun _ h => h.drop (.cons_cons _ <| .cons_cons _ <| .cons_cons _ <| .cons_cons _ <| .cons_cons _ <| .refl _)) (fun _ _ _ h => h) (Ag (Bc rfl <| A5 rfl <| At rfl ht15)) ?_
          refine A3 2 rfl (by kernel_rfl) (by kernel_rfl) (by kernel_rfl) (by kernel_rfl) rfl rfl (fun _ h => h.drop (.cons_cons _ <| .cons_cons _ <| .cons_cons _ <| .cons_cons _ <| .cons_cons _ <| .refl _)) (fun _ _ _ h => h) (Ag (Bc rfl <| A5 rfl <| Al rfl <| Aj rfl <| Ax rfl <| Aj rfl <| Ax rfl <| Al rfl <| Ab)) ?_
          refine A3 3 rfl (by kernel_rfl) (by kernel_rfl) (by kernel_rfl) (by kernel_rfl) rfl rfl (fun _ h => h.drop (.cons_cons _ <| .cons_cons _ <| .cons_cons _ <| .cons_cons _ <| .cons_cons _ <| .refl _)) (fun _ _ _ h => h) (Ag (Bc rfl <| A5 rfl <| Aq rfl <| Aj rfl <| Ax rfl <| Aj rfl <| A5 rfl <| Ax rfl <| Al rfl <| Ab)) ?_
          refine A3 4 rfl (by kernel_rfl) (by kernel_rfl) (by kernel_rfl) (by kernel_rfl) rfl rfl (fun _ h => h.drop (.cons_cons _ <| .cons_cons _ <| .cons_cons _ <| .cons_cons _ <| .cons_cons _ <| .refl _)) (fun _ _ _ h => h) (Ag (Bc rfl <| A5 rfl <| Aq rfl <| Al rfl <| At rfl ht15)) ?_
          refine A3 5 rfl (by kernel_rfl) (by kernel_rfl) (by kernel_rfl) (by kernel_rfl) rfl rfl (fun _ h => h.drop (.cons_cons _ <| .cons_cons _ <| .cons_cons _ <| .cons_cons _ <| .cons_cons _ <| .refl _)) (fun _ _ _ h => h) (A8 (k := j) Bh (Al rfl <| Ab) hl.plain (Ab) rfl hjl) ?_
          refine A3 6 rfl (by kernel_rfl) (by kernel_rfl) (by kernel_rfl) (by kernel_rfl) rfl rfl (fun _ h => h.drop (.cons_cons _ <| .cons_cons _ <| .cons_cons _ <| .cons_cons _ <| .cons_cons _ <| .refl _)) (fun _ _ _ h => h) (Ap Bk (Ab) (hl.cell1 hjl rfl)) ?_
          refine A3 7 rfl (by kernel_rfl) (by kernel_rfl) (by kernel_rfl) (by kernel_rfl) rfl rfl (fun _ h => h.drop (.cons_cons _ <| .cons_cons _ <| .cons_cons _ <| .cons_cons _ <| .cons_cons _ <| .refl _)) (fun _ _ _ h => h) (A8 (k := k) Bh (Ax rfl <| Ab) (Cu (Nat.le_refl _) (by omega)) (Ab) hlk hkn) ?_
          refine A3 8 rfl (by kernel_rfl) (by kernel_rfl) (by kernel_rfl) (by kernel_rfl) rfl rfl (fun _ h => h.drop (.cons_cons _ <| .cons_cons _ <| .cons_cons _ <| .cons_cons _ <| .cons_cons _ <| .refl _)) (fun _ _ _ h => h) (Ap Bk (Ab) (Dn 1 rfl (iL_get hkn))) ?_
          refine A3 9 rfl (by kernel_rfl) (by kernel_rfl) (by kernel_rfl) (by kernel_rfl) rfl rfl (fun _ h => h.drop (.cons_cons _ <| .cons_cons _ <| .cons_cons _ <| .cons_cons _ <| .cons_cons _ <| .refl _)) (fun _ _ _ h => h) (Bq (Ab) Ad rfl (by omega) (by omega)) ?_
          refine A3 10 rfl (by kernel_rfl) (by kernel_rfl) (by kernel_rfl) (by kernel_rfl) rfl rfl (fun _ h => h.drop (.cons_cons _ <| .cons_cons _ <| .cons_cons _ <| .cons_cons _ <| .cons_cons _ <| .refl _)) (fun _ _ _ h => h) (Am fd_55_1 (Bc rfl <| A2 rfl <| Al rfl <| Aj rfl <| Ax rfl <| Aj rfl <| A2 rfl <| A5 rfl <| Aq rfl <| Ab)) ?_
          refine A3 11 rfl (by kernel_rfl) (by kernel_rfl) (by kernel_rfl) (by kernel_rfl) rfl rfl (fun _ h => h.drop (.cons_cons _ <| .cons_cons _ <| .cons_cons _ <| .cons_cons _ <| .cons_cons _ <| .refl _)) (fun _ _ _ h => h) (Ap one_50 (Ab) (Cell.own 3 rfl rfl)) ?_
          refine A3 12 rfl (by kernel_rfl) (by kernel_rfl) (by kernel_rfl) (by kernel_rfl) rfl rfl (fun _ h => h.drop (.cons_cons _ <| .cons_cons _ <| .cons_cons _ <| .cons_cons _ <| .cons_cons _ <| .refl _)) (fun _ _ _ h => h) (Ag (Bc rfl <| A2 rfl <| Aq rfl <| Al rfl <| At rfl ht15)) ?_
          refine WX_x 13 rfl (by kernel_rfl) rfl (x_quiet (Be bd_96 A1 (.cons (Al rfl <| Ab) (.cons (Ab) .nil)) (Ej h1s h1b (n := j) rfl) (fun _ _ h => h)) ⟨fun _ _ => (fun _ h => h.drop (.cons_cons _ <| .cons_cons _ <| .cons_cons _ <| .cons_cons _ <| .cons_cons _ <| .refl _)), ?_⟩)
          refine A3 14 rfl (by kernel_rfl) (by kernel_rfl) (by kernel_rfl) (by kernel_rfl) rfl rfl (fun _ h => h.drop (.cons_cons _ <| .cons_cons _ <| .cons_cons _ <| .cons_cons _ <| .cons_cons _ <| .refl _)) (fun _ _ _ h => h) (q_rem (Ab) Ad (Int.natCast_nonneg _) (by decide)) ?_
          refine A3 15 rfl (by kernel_rfl) (by kernel_rfl) (by kernel_rfl) (by kernel_rfl) rfl rfl (fun _ h => h.drop (.cons_cons _ <| .cons_cons _ <| .cons_cons _ <| .cons_cons _ <| .cons_cons _ <| .refl _)) (fun _ _ _ h => h) (Bq (Ax rfl <| Al rfl <| Ab) (Ab) rfl (by omega) (by omega)) ?_
          refine A3 16 rfl (by kernel_rfl) (by kernel_rfl) (by kernel_rfl) (by kernel_rfl) rfl rfl (fun _ h => h.drop (.cons_cons _ <| .cons_cons _ <| .cons_cons _ <| .cons_cons _ <| .cons_cons _ <| .refl _)) (fun _ _ _ h => h) (A8 (k := j) Bh (A5 rfl <| Ax rfl <| Aq rfl <| Al rfl <| Ab) (Cu (Nat.le_refl _) (by omega)) (A5 rfl <| Ax rfl <| Aq rfl <| Ab) rfl hjn) ?_
          refine WX_x0 17 rfl (by kernel_rfl) (D4 sz_3 (Ab) (row_addr9 (c := j)) (Al rfl <| Ab) (i := 1) rfl (by rw [iL_len1]; omega) rfl (.next <| .here) ⟨(fun h => nomatch h), ?_⟩)
          refine C9 (by kernel_rfl) ?_ _
          refine Ac ⟨_, Off.eq (C6 rfl <| Ds rfl <| C5), ?_⟩
          rw [iL_setA hjn, updA_updA]
          exact ⟨_, fun h => absurd h hu, fun k2 hk2 => by obtain rfl : k2 = k := (by omega); exact ⟨by omega, by omega⟩, rfl⟩
        rintro e15 _ ⟨y, hy0, hyk, rfl⟩
        refine Af <| Ai fun ds => Aa rfl (Ae Ad) ?_
        refine Ah <| Ac <| A0 <| Bt [13, 16, 17, 18, 19, 100, 101, 102, 103, 104, 105, 106, 107, 108, 109, 110, 111, 112, 113, 114, 115, 116, 117, 118, 119, 120, 121, 122, 123, 124, 125, 126, 127, 128, 129, 130, 131, 132, 133, 134, 135, 136, 137, 138, 139, 140, 141, 142, 143, 144, 145, 146, 147, 148, 149, 150, 151, 152, 153, 154, 155, 156, 157, 158, 159, 160, 161, 162, 163, 164, 165, 166, 167, 168] (fun m e σ => ∃ p : Nat, m + p = s.places.length ∧ e 16 = .int .i64 (p : Int) ∧ ∃ (xs : List Int) (w12 : Value) (R12 : List (Nat × Obj)), e 13 = .int .i64 (c + sumN p (fun q => chgX l R j q (xs[q]?.getD 0))) ∧ xs.length = p ∧ (∀ x ∈ xs, 1 ≤ x ∧ x ≤ 3) ∧ (∀ k : Nat, upN l j = (k : Int) → ∀ q, q < p → stepOk (freeP s q) (rdL R q k) (xs[q]?.getD 0)) ∧ Own 3 1 w12 xs.length (xs.flatMap intE) R12 ∧ σ = ⟨G2, (b13, bx 26 ((vL (updA W j w12) ps.length).flatMap valE)) :: (b12, bx 3 ((iL (updA Y j y) ps.length).flatMap intE)) :: (b3, bx 25 [.slice none 0 0, .slice none 0 0]) :: (b2, bx 55 [v0, v1, v2, v3]) :: (b1, bx 25 [vp, ve]) :: (R10 ++ R12)⟩) (s.places.length) ?_ ?_
        · exact ⟨0, by omega, (Ab), [], _, [], ((Al rfl <| Aj rfl <| Bc rfl <| Ax rfl <| Aq rfl <| Al rfl <| At rfl ht13)).trans (congrArg (Value.int .i64) (by simp [sumN])), rfl, (fun x h => nomatch h), fun k hk q hq => absurd hq (by omega), Own.nil, by rw [updA_self (hT.no j hjn hDj), List.append_nil]⟩
        ·
         rintro m3 e3 _ ⟨p, hm3, hu16, xs, w12, R12, hu13, hxl, hxv, hxk, ho12, rfl⟩
         by_cases hlt : p < s.places.length
         ·
          have ht2 : (turnN xc (j * s.places.length + p)) < 256 := Ey h2b
          have hmul : (j : Int) * (s.places.length : Int) = ((j * s.places.length : Nat) : Int) := by push_cast; rfl
          have hmb : j * s.places.length ≤ 24 := Nat.le_trans (Nat.mul_le_mul (show j ≤ 4 by omega) (show s.places.length ≤ 6 by omega)) (by decide)
          have hsb : 0 ≤ sumN p (fun q => chgX l R j q (xs[q]?.getD 0)) ∧ sumN p (fun q => chgX l R j q (xs[q]?.getD 0)) ≤ p * 1 := ⟨Dp fun q _ => chgX_bound.1, sum_le_mul fun q _ => chgX_bound.2⟩
          refine Af <| Af <| Ai fun ds => Aa rfl (Ag (At rfl hu16)) ?_
          refine Aa rfl (Am Ci (Al rfl <| Aj rfl <| Al rfl <| Aj rfl <| Bc rfl <| Ax rfl <| Aq rfl <| Al rfl <| Aj rfl <| Ax rfl <| Aj rfl <| A2 rfl <| A5 rfl <| Aq rfl <| Al rfl <| Ab)) ?_
          refine Aa rfl (Ap Cs (Ab) (Cell.own 4 rfl rfl)) ?_
          refine Aa rfl (Bm C2 (Ab) hr.places.plain) ?_
          refine Aa rfl (Bu (Aq rfl <| Al rfl <| Ab) (Ab)) ?_
          refine Ah <| Ac <| Ar (Ab) (by first | rfl | exact decide_eq_true (by omega)) ?_
          refine Aw <| Ac <| Af <| A0 <| Af <| Ai fun ds => Aa rfl (Am fd_55_2 (Ax rfl <| Al rfl <| Aj rfl <| Al rfl <| Aj rfl <| Bc rfl <| Ax rfl <| Aq rfl <| Al rfl <| Aj rfl <| Ax rfl <| Aj rfl <| A2 rfl <| A5 rfl <| Aq rfl <| Ab)) ?_
          refine Aa rfl (Ap one_50 (Ab) (Cell.own 3 rfl rfl)) ?_
          refine Aa rfl (Ag (Ax rfl <| Aq rfl <| Al rfl <| Aj rfl <| Al rfl <| Aj rfl <| Bc rfl <| Ax rfl <| Aq rfl <| Al rfl <| At rfl ht15)) ?_
          refine Aa rfl (Am Ci (A5 rfl <| Aj rfl <| Al rfl <| Aj rfl <| Bc rfl <| Ax rfl <| Aq rfl <| Al rfl <| Aj rfl <| Ax rfl <| Aj rfl <| A2 rfl <| A5 rfl <| Aq rfl <| Al rfl <| Ab)) ?_
          refine Aa rfl (Ap Cs (Ab) (Cell.own 4 rfl rfl)) ?_
          refine Aa rfl (Bm C2 (Ab) hr.places.plain) ?_
          refine Aa rfl (q_mul (Aq rfl <| Al rfl <| Ab) (Ab) rfl (by omega) (by omega)) ?_
          refine Aa rfl (Ag (A5 rfl <| Ax rfl <| At rfl hu16)) ?_
          refine Aa rfl (Bq (Al rfl <| Ab) (Ab) rfl (by omega) (by omega)) ?_
          refine Bx rfl (Be bd_96 A1 (.cons (Ax rfl <| Aq rfl <| Al rfl <| Ab) (.cons (Ab) .nil)) (Ej h2s h2b (n := j * s.places.length + p) (by push_cast; rfl)) (fun _ _ h => h)) ?_
          refine Aa rfl (Ae (Ab)) ?_
          refine Ah <| Ac <| Af <| Ai fun ds => Aa rfl (Ag (Ab)) ?_
          refine Aa rfl (q_quo (Ab) Ad (Int.natCast_nonneg _) (by omega) (by decide)) ?_
          refine Aa rfl (q_rem (Ab) Ad (by omega) (by decide)) ?_
          refine Aa rfl (Bq Ad (Ab) rfl (by omega) (by omega)) ?_
          refine Aa rfl (Ae (Ab)) ?_
          refine Ah <| Ac <| Af <| Af <| Ai fun ds => Aa rfl (Ag (A2 rfl <| Ax rfl <| Al rfl <| Aj rfl <| Al rfl <| Aj rfl <| Bc rfl <| Ax rfl <| Aq rfl <| Al rfl <| Aj rfl <| Ax rfl <| Aj rfl <| A5 rfl <| Ax rfl <| Al rfl <| Ab)) ?_
          refine Aa rfl (Ag (A2 rfl <| Ax rfl <| Aq rfl <| Aj rfl <| Al rfl <| Aj rfl <| Bc rfl <| Ax rfl <| Aq rfl <| Al rfl <| At rfl ht15)) ?_
          refine Aa rfl (A8 (k := j) Bh (Al rfl <| Ab) hl.plain (Ab) rfl hjl) ?_
          refine Aa rfl (Ap Bk (Ab) (hl.cell1 hjl rfl)) ?_
          refine Aa rfl (Bw (Ab) Ad) ?_
          refine Ah <| Ac <| WC_cut [13, 18, 19, 126, 127, 128, 129, 130, 131, 132, 133, 134, 135, 136, 137, 138, 139, 140, 141, 142, 143, 144, 145, 146, 147, 148, 149, 150, 151, 152, 153, 154, 155, 156, 157, 158] (fun st σ => ∃ r : Int, 1 ≤ r ∧ r ≤ 3 ∧ (∀ k : Nat, upN l j = (k : Int) → stepOk (freeP s p) (rdL R p k) r) ∧ st 18 = .int .i64 r ∧ st 13 = .int .i64 (c + sumN p (fun q => chgX l R j q (xs[q]?.getD 0)) + chgX l R j p r) ∧ σ = ⟨G2, (b13, bx 26 ((vL (updA W j w12) ps.length).flatMap valE)) :: (b12, bx 3 ((iL (updA Y j y) ps.length).flatMap intE)) :: (b3, bx 25 [.slice none 0 0, .slice none 0 0]) :: (b2, bx 55 [v0, v1, v2, v3]) :: (b1, bx 25 [vp, ve]) :: (R10 ++ R12)⟩) ?_ ?_
          ·
           by_cases hu : decide (upN l j = -1) = true
           ·
            have hu := of_decide_eq_true hu
            refine Ao (Ab) (by rw [C1 hjl]; exact decide_eq_false (fun h => h hu)) ?_
            refine Aw <| Ac ⟨_, Off.eq (C5), ?_⟩
            exact ⟨(1 + (((turnN xc (j * s.places.length + p)) : Nat) : Int) / 3 % 3), by omega, by omega, fun k hk => absurd (hu.symm.trans hk) (by omega), (Ax rfl <| Al rfl <| Ab), ((A2 rfl <| A5 rfl <| Aq rfl <| At rfl hu13)).trans (congrArg (Value.int .i64) (by unfold chgX; rw [if_pos hu]; omega)), rfl⟩
           ·
            replace hu : decide (upN l j = -1) = false := by simpa using hu
            have hu := of_decide_eq_false hu
            obtain ⟨k, hku, hkl⟩ := ht.in_.nat hjl hu
            have hkn : k < ps.length := by omega
            have hlk : l[j] = (k : Int) := by rw [C1 hjl, hku]
            have hDk := (hup k hku).1
            have hkR := hT.rd k hkn hDk
            have hlR := hI.len k hkl hDk
            have hpR : p < (R k).length := by omega
            have hkj : k ≠ j := (hup k hku).2.2
            have hfr : (R k)[p] = rdL R p k := by unfold rdL; rw [List.getElem?_eq_getElem hpR]; rfl
            have hv9 := hI.val k hkl hDk _ (List.getElem_mem hpR)
            have hkd := hv.kind p hlt
            have hck : ∀ r, chgX l R j p r = if (R k)[p] = r then 0 else 1 := fun r => by unfold chgX; rw [if_neg hu, hku, Int.toNat_natCast, ← hfr]
            refine Ar (Ab) (by rw [C1 hjl]; exact decide_eq_true hu) ?_
            by_cases h3 : decide (0 < (((turnN xc (j * s.places.length + p)) : Nat) : Int) % 3) = true
            ·
             refine Af <| Ai fun ds => Aa rfl (Ag (A2 rfl <| A5 rfl <| Aq rfl <| Aj rfl <| Al rfl <| Aj rfl <| Bc rfl <| Ax rfl <| Aq rfl <| Al rfl <| Aj rfl <| Ax rfl <| Aj rfl <| Aq rfl <| Ab)) ?_
             refine Aa rfl (Ag (A2 rfl <| A5 rfl <| Aq rfl <| Al rfl <| Aj rfl <| Al rfl <| Aj rfl <| Bc rfl <| Ax rfl <| Aq rfl <| Al rfl <| Aj rfl <| Ax rfl <| Aj rfl <| A5 rfl <| Ax rfl <| Al rfl <| Ab)) ?_
             refine Aa rfl (Ag (A2 rfl <| A5 rfl <| Ax rfl <| Aj rfl <| Al rfl <| Aj rfl <| Bc rfl <| Ax rfl <| Aq rfl <| Al rfl <| At rfl ht15)) ?_
             refine Aa rfl (A8 (k := j) Bh (Al rfl <| Ab) hl.plain (Ab) rfl hjl) ?_
             refine Aa rfl (Ap Bk (Ab) (hl.cell1 hjl rfl)) ?_
             refine Aa rfl (A8 (k := k) sl_114 (Ax rfl <| Ab) (Cu (Nat.le_refl _) (by omega)) (Ab) hlk hkn) ?_
             refine Aa rfl (Ap Cb (Ab) (Dn 0 rfl ((vL_get hkn).trans (congrArg some (Cl hkj))))) ?_
             refine Aa rfl (Ag (Bc rfl <| Al rfl <| At rfl hu16)) ?_
             refine Aa rfl (A8 (k := p) Bh (Al rfl <| Ab) hkR.plain (Ab) rfl hpR) ?_
             refine Aa rfl (Ap Bk (Ab) (hkR.cell1 hpR rfl)) ?_
             refine Aa rfl (Ae (Ab)) ?_
             refine Ah <| Ac <| Af <| Af <| Ai fun ds => Aa rfl (Ag (A2 rfl <| Ax rfl <| Al rfl <| Ab)) ?_
             refine Aa rfl (q_rem (Ab) Ad (Int.natCast_nonneg _) (by decide)) ?_
             refine Aa rfl (C8 (Ab) Ad) ?_
             refine Aa rfl (Ag (Ab)) ?_
             refine Au rfl rfl (Ab) (.inl (congrArg Value.bool h3)) rfl ?_
             refine Au rfl rfl (Al rfl <| Ab) (.inl (congrArg Value.bool h3)) rfl ?_
             refine Au rfl rfl (Aq rfl <| Ab) (.inl (congrArg Value.bool h3)) rfl ?_
             refine Au rfl rfl (Aq rfl <| Al rfl <| Ab) (.inl (congrArg Value.bool h3)) rfl ?_
             refine Au rfl rfl (Ax rfl <| Ab) (.inl (congrArg Value.bool h3)) rfl ?_
             refine Au rfl rfl (Ax rfl <| Al rfl <| Ab) (.inl (congrArg Value.bool h3)) rfl ?_
             refine Au rfl rfl (Ax rfl <| Aq rfl <| Ab) (.inl (congrArg Value.bool h3)) rfl ?_
             refine Au rfl rfl (Ax rfl <| Aq rfl <| Al rfl <| Ab) (.inl (congrArg Value.bool h3)) rfl ?_
             refine Au rfl rfl (Ab) (.inr rfl) rfl ?_
             refine Au rfl rfl (Al rfl <| Ab) (.inr rfl) rfl ?_
             refine Au rfl rfl (Aq rfl <| Ab) (.inr rfl) rfl ?_
             refine Au rfl rfl (A5 rfl <| Aq rfl <| Al rfl <| Ab) (.inl (congrArg Value.bool h3)) rfl ?_
             refine Aa rfl (A6 (A5 rfl <| Ax rfl <| Ab) h3 Ad) ?_
             refine Ah <| Ac <| Ar (Ab) rfl ?_
             refine Ai fun ds => Aa rfl (Ag (A2 rfl <| Al rfl <| Ab)) ?_
             refine Aa rfl (Ae (Ab)) ?_
             refine Ah <| Ac <| Af <| Ai fun ds => Aa rfl (Ag (Ab)) ?_
             refine Aa rfl (Ag (A2 rfl <| Ax rfl <| Ab)) ?_
             refine Aa rfl (Bw (Al rfl <| Ab) (Ab)) ?_
             refine Ah <| Ac <| Ao (Ab) (decide_eq_false (fun h => h rfl)) ?_
             refine Aw <| Ac ⟨_, Off.eq (Ex rfl <| Ds rfl <| C5), ?_⟩
             exact ⟨(R k)[p], by omega, by omega, fun k2 hk2 => by obtain rfl : k2 = k := (by omega); rw [← hfr]; exact .inl rfl, (Aq rfl <| Al rfl <| Ab), ((Bc rfl <| A2 rfl <| A5 rfl <| Aq rfl <| Al rfl <| At rfl hu13)).trans (congrArg (Value.int .i64) (by rw [hck, if_pos rfl]; omega)), rfl⟩
            ·
             replace h3 : decide (0 < (((turnN xc (j * s.places.length + p)) : Nat) : Int) % 3) = false := by simpa using h3
             refine Af <| Ai fun ds => Aa rfl (Ag (A2 rfl <| A5 rfl <| Aq rfl <| Aj rfl <| Al rfl <| Aj rfl <| Bc rfl <| Ax rfl <| Aq rfl <| Al rfl <| Aj rfl <| Ax rfl <| Aj rfl <| Aq rfl <| Ab)) ?_
             refine Aa rfl (Ag (A2 rfl <| A5 rfl <| Aq rfl <| Al rfl <| Aj rfl <| Al rfl <| Aj rfl <| Bc rfl <| Ax rfl <| Aq rfl <| Al rfl <| Aj rfl <| Ax rfl <| Aj rfl <| A5 rfl <| Ax rfl <| Al rfl <| Ab)) ?_
             refine Aa rfl (Ag (A2 rfl <| A5 rfl <| Ax rfl <| Aj rfl <| Al rfl <| Aj rfl <| Bc rfl <| Ax rfl <| Aq rfl <| Al rfl <| At rfl ht15)) ?_
             refine Aa rfl (A8 (k := j) Bh (Al rfl <| Ab) hl.plain (Ab) rfl hjl) ?_
             refine Aa rfl (Ap Bk (Ab) (hl.cell1 hjl rfl)) ?_
             refine Aa rfl (A8 (k := k) sl_114 (Ax rfl <| Ab) (Cu (Nat.le_refl _) (by omega)) (Ab) hlk hkn) ?_
             refine Aa rfl (Ap Cb (Ab) (Dn 0 rfl ((vL_get hkn).trans (congrArg some (Cl hkj))))) ?_
             refine Aa rfl (Ag (Bc rfl <| Al rfl <| At rfl hu16)) ?_
             refine Aa rfl (A8 (k := p) Bh (Al rfl <| Ab) hkR.plain (Ab) rfl hpR) ?_
             refine Aa rfl (Ap Bk (Ab) (hkR.cell1 hpR rfl)) ?_
             refine Aa rfl (Ae (Ab)) ?_
             refine Ah <| Ac <| Af <| Af <| Ai fun ds => Aa rfl (Ag (A2 rfl <| Ax rfl <| Al rfl <| Ab)) ?_
             refine Aa rfl (q_rem (Ab) Ad (Int.natCast_nonneg _) (by decide)) ?_
             refine Aa rfl (C8 (Ab) Ad) ?_
             refine Aa rfl (Ag (Ab)) ?_
             refine As rfl rfl (Ab) h3 ?_
             refine Aa rfl (Am Ci (Bc rfl <| A5 rfl <| Al rfl <| Aj rfl <| Al rfl <| Aj rfl <| Bc rfl <| Ax rfl <| Aq rfl <| Al rfl <| Aj rfl <| Ax rfl <| Aj rfl <| A2 rfl <| A5 rfl <| Aq rfl <| Al rfl <| Ab)) ?_
             refine As rfl rfl (Al rfl <| Ab) h3 ?_
             refine Aa rfl (Ap Cs (Ab) (Cell.own 4 rfl rfl)) ?_
             refine As rfl rfl (Aq rfl <| Ab) h3 ?_
             refine Aa rfl (Ag (Bc rfl <| A5 rfl <| Aq rfl <| Al rfl <| At rfl hu16)) ?_
             refine As rfl rfl (Aq rfl <| Al rfl <| Ab) h3 ?_
             refine Aa rfl (A8 (k := p) C2 (Al rfl <| Ab) hr.places.plain (Ab) rfl hlt) ?_
             refine As rfl rfl (Ax rfl <| Ab) h3 ?_
             refine Aa rfl (Bs fd_70_1 (Ab)) ?_
             refine As rfl rfl (Ax rfl <| Al rfl <| Ab) h3 ?_
             refine Aa rfl (Ap Bk (Ab) (hr.places.cell hlt rfl)) ?_
             refine As rfl rfl (Ax rfl <| Aq rfl <| Ab) h3 ?_
             refine Aa rfl (By (Ab) Ad) ?_
             refine As rfl rfl (Ax rfl <| Aq rfl <| Al rfl <| Ab) h3 ?_
             refine Aa rfl (Ag (Ab)) ?_
             by_cases hk1 : (s.pl p).kind = 1
             ·
              refine As rfl rfl (Ab) (by rw [pl_at hlt]; exact decide_eq_true hk1) ?_
              refine Aa rfl (Ag (A2 rfl <| A5 rfl <| Ax rfl <| Ab)) ?_
              refine As rfl rfl (Al rfl <| Ab) (by rw [pl_at hlt]; exact decide_eq_true hk1) ?_
              refine Aa rfl (Ag (A5 rfl <| Ax rfl <| Al rfl <| Ab)) ?_
              refine As rfl rfl (Aq rfl <| Ab) (by rw [pl_at hlt]; exact decide_eq_true hk1) ?_
              refine Aa rfl (Bu (Al rfl <| Ab) (Ab)) ?_
              refine As rfl rfl (A5 rfl <| Aq rfl <| Al rfl <| Ab) h3 ?_
              refine Aa rfl (A6 (Aq rfl <| Al rfl <| Ab) (by rw [pl_at hlt]; exact decide_eq_true hk1) (Ab)) ?_
              refine Aa rfl (A9 (A5 rfl <| Ax rfl <| Ab) h3 (Ab)) ?_
              refine Ah <| Ac ?_
              by_cases hlf : (1 + (((turnN xc (j * s.places.length + p)) : Nat) : Int) / 3 % 3) < (R k)[p]
              ·
               refine Ar (Ab) (decide_eq_true hlf) ?_
               refine Ai fun ds => Aa rfl (Ag (A2 rfl <| Al rfl <| Ab)) ?_
               refine Aa rfl (Ae (Ab)) ?_
               refine Ah <| Ac <| Af <| Ai fun ds => Aa rfl (Ag (Ab)) ?_
               refine Aa rfl (Ag (A2 rfl <| Ax rfl <| Ab)) ?_
               refine Aa rfl (Bw (Al rfl <| Ab) (Ab)) ?_
               refine Ah <| Ac <| Ao (Ab) (decide_eq_false (fun h => h rfl)) ?_
               refine Aw <| Ac ⟨_, Off.eq (Ex rfl <| Ds rfl <| C5), ?_⟩
               exact ⟨(R k)[p], by omega, by omega, fun k2 hk2 => by obtain rfl : k2 = k := (by omega); rw [← hfr]; exact .inl rfl, (Aq rfl <| Al rfl <| Ab), ((Bc rfl <| A2 rfl <| A5 rfl <| Aq rfl <| Al rfl <| At rfl hu13)).trans (congrArg (Value.int .i64) (by rw [hck, if_pos rfl]; omega)), rfl⟩
              ·
               refine Ao (Ab) (decide_eq_false hlf) ?_
               by_cases hne : (1 + (((turnN xc (j * s.places.length + p)) : Nat) : Int) / 3 % 3) = (R k)[p]
               ·
                refine Aw <| Ac <| Af <| Ai fun ds => Aa rfl (Ag (Bc rfl <| Al rfl <| Ab)) ?_
                refine Aa rfl (Ag (A2 rfl <| Aq rfl <| Ab)) ?_
                refine Aa rfl (Bw (Al rfl <| Ab) (Ab)) ?_
                refine Ah <| Ac <| Ao (Ab) (decide_eq_false (fun h => h hne)) ?_
                refine Aw <| Ac ⟨_, Off.eq (C6 rfl <| Dr rfl <| Ee rfl <| ou2 rfl <| Ds rfl <| C5), ?_⟩
                exact ⟨(1 + (((turnN xc (j * s.places.length + p)) : Nat) : Int) / 3 % 3), by omega, by omega, fun k2 hk2 => by obtain rfl : k2 = k := (by omega); rw [← hfr]; exact (show stepOk _ _ _ from by by_cases e : (R k2)[p] = (1 + (((turnN xc (j * s.places.length + p)) : Nat) : Int) / 3 % 3); exact .inl e; exact .inr (.inl (by omega))), (Bc rfl <| Ax rfl <| Ab), ((Bc rfl <| A2 rfl <| A5 rfl <| Al rfl <| At rfl hu13)).trans (congrArg (Value.int .i64) (by rw [hck, if_pos hne.symm]; omega)), rfl⟩
               ·
                refine Aw <| Ac <| Af <| Ai fun ds => Aa rfl (Ag (Bc rfl <| Al rfl <| Ab)) ?_
                refine Aa rfl (Ag (A2 rfl <| Aq rfl <| Ab)) ?_
                refine Aa rfl (Bw (Al rfl <| Ab) (Ab)) ?_
                refine Ah <| Ac <| Ar (Ab) (decide_eq_true hne) ?_
                refine Ai fun ds => Aa rfl (Ag (Bc rfl <| A2 rfl <| A5 rfl <| Al rfl <| At rfl hu13)) ?_
                refine Aa rfl (Bq (Ab) Ad rfl (by omega) (by omega)) ?_
                refine Aa rfl (Ae (Ab)) ?_
                refine Ah <| Ac ⟨_, Off.eq (Ex rfl <| ou2 rfl <| C5), ?_⟩
                exact ⟨(1 + (((turnN xc (j * s.places.length + p)) : Nat) : Int) / 3 % 3), by omega, by omega, fun k2 hk2 => by obtain rfl : k2 = k := (by omega); rw [← hfr]; exact (show stepOk _ _ _ from by by_cases e : (R k2)[p] = (1 + (((turnN xc (j * s.places.length + p)) : Nat) : Int) / 3 % 3); exact .inl e; exact .inr (.inl (by omega))), (Bc rfl <| Ax rfl <| Aq rfl <| Al rfl <| Ab), ((Ab)).trans (congrArg (Value.int .i64) (by rw [hck, if_neg (fun h => hne h.symm)])), rfl⟩
             ·
              refine Au rfl rfl (Ab) (.inl (congrArg Value.bool (by rw [pl_at hlt]; exact decide_eq_false hk1))) rfl ?_
              refine Au rfl rfl (Al rfl <| Ab) (.inl (congrArg Value.bool (by rw [pl_at hlt]; exact decide_eq_false hk1))) rfl ?_
              refine Au rfl rfl (Aq rfl <| Ab) (.inl (congrArg Value.bool (by rw [pl_at hlt]; exact decide_eq_false hk1))) rfl ?_
              refine As rfl rfl (A5 rfl <| Aq rfl <| Al rfl <| Ab) h3 ?_
              refine Aa rfl (A9 (Aq rfl <| Al rfl <| Ab) (by rw [pl_at hlt]; exact decide_eq_false hk1) Ad) ?_
              refine Aa rfl (A9 (A5 rfl <| Ax rfl <| Ab) h3 (Ab)) ?_
              refine Ah <| Ac <| Ao (Ab) rfl ?_
              by_cases hne : (1 + (((turnN xc (j * s.places.length + p)) : Nat) : Int) / 3 % 3) = (R k)[p]
              ·
               refine Aw <| Ac <| Af <| Ai fun ds => Aa rfl (Ag (Bc rfl <| Al rfl <| Ab)) ?_
               refine Aa rfl (Ag (A2 rfl <| Aq rfl <| Ab)) ?_
               refine Aa rfl (Bw (Al rfl <| Ab) (Ab)) ?_
               refine Ah <| Ac <| Ao (Ab) (decide_eq_false (fun h => h hne)) ?_
               refine Aw <| Ac ⟨_, Off.eq (C6 rfl <| Dr rfl <| Ee rfl <| ou2 rfl <| Ds rfl <| C5), ?_⟩
               exact ⟨(1 + (((turnN xc (j * s.places.length + p)) : Nat) : Int) / 3 % 3), by omega, by omega, fun k2 hk2 => by obtain rfl : k2 = k := (by omega); rw [← hfr]; exact .inr (.inr (decide_eq_true (by omega))), (Bc rfl <| Ax rfl <| Ab), ((Bc rfl <| A2 rfl <| A5 rfl <| Al rfl <| At rfl hu13)).trans (congrArg (Value.int .i64) (by rw [hck, if_pos hne.symm]; omega)), rfl⟩
              ·
               refine Aw <| Ac <| Af <| Ai fun ds => Aa rfl (Ag (Bc rfl <| Al rfl <| Ab)) ?_
               refine Aa rfl (Ag (A2 rfl <| Aq rfl <| Ab)) ?_
               refine Aa rfl (Bw (Al rfl <| Ab) (Ab)) ?_
               refine Ah <| Ac <| Ar (Ab) (decide_eq_true hne) ?_
               refine Ai fun ds => Aa rfl (Ag (Bc rfl <| A2 rfl <| A5 rfl <| Al rfl <| At rfl hu13)) ?_
               refine Aa rfl (Bq (Ab) Ad rfl (by omega) (by omega)) ?_
               refine Aa rfl (Ae (Ab)) ?_
               refine Ah <| Ac ⟨_, Off.eq (Ex rfl <| ou2 rfl <| C5), ?_⟩
               exact ⟨(1 + (((turnN xc (j * s.places.length + p)) : Nat) : Int) / 3 % 3), by omega, by omega, fun k2 hk2 => by obtain rfl : k2 = k := (by omega); rw [← hfr]; exact .inr (.inr (decide_eq_true (by omega))), (Bc rfl <| Ax rfl <| Aq rfl <| Al rfl <| Ab), ((Ab)).trans (congrArg (Value.int .i64) (by rw [hck, if_neg (fun h => hne h.symm)])), rfl⟩
          rintro e22 _ ⟨r, hr1, hr3, hrk, hc18, hc13, rfl⟩
          refine Ai fun ds => Aa rfl (Ag (Aj rfl <| A2 rfl <| A5 rfl <| Aq rfl <| Aj rfl <| Al rfl <| Aj rfl <| Bc rfl <| Ax rfl <| Aq rfl <| Al rfl <| Aj rfl <| Ax rfl <| Aj rfl <| Aq rfl <| Ab)) ?_
          refine Aa rfl (Ag (Al rfl <| Aj rfl <| A2 rfl <| A5 rfl <| Aq rfl <| Aj rfl <| Al rfl <| Aj rfl <| Bc rfl <| Ax rfl <| Aq rfl <| Al rfl <| At rfl ht15)) ?_
          refine Aa rfl (Ag (Aq rfl <| Aj rfl <| A2 rfl <| A5 rfl <| Aq rfl <| Aj rfl <| Al rfl <| Aj rfl <| Bc rfl <| Ax rfl <| Aq rfl <| Al rfl <| Aj rfl <| Ax rfl <| Aj rfl <| Aq rfl <| Ab)) ?_
          refine Aa rfl (Ag (Aq rfl <| Al rfl <| Aj rfl <| A2 rfl <| A5 rfl <| Aq rfl <| Aj rfl <| Al rfl <| Aj rfl <| Bc rfl <| Ax rfl <| Aq rfl <| Al rfl <| At rfl ht15)) ?_
          refine Aa rfl (A8 (k := j) sl_114 (Al rfl <| Ab) (Cu (Nat.le_refl _) (by omega)) (Ab) rfl hjn) ?_
          refine Aa rfl (Ap Cb (Ab) (Dn 0 rfl ((vL_get hjn).trans (congrArg some Dk)))) ?_
          refine Aa rfl (Ag (Ax rfl <| Aq rfl <| At rfl hc18)) ?_
          refine Bj rfl (B4 Bh Df rfl (.cons (Ab) .nil) rfl rfl (by decide) (by simp [Value.oneCell']) fun b25 hb25 nb25 => ?_)
          refine Bj rfl (Co Bh el_3 (Aq rfl <| Ab) ho12 (Ab) (Dl (s := 1) 0 rfl rfl (by simp [Value.oneCell'])) (by omega) (by omega) (.s <| .s <| .s <| .s <| .s <| .s <| .k <| .z) .last fun v26 R27 ho28 => ?_)
          have ho19 := ho28.snoc (x := r) rfl rfl
          refine Aa rfl (A8 (k := j) sl_114 (A5 rfl <| Ab) (Cu (Nat.le_refl _) (by omega)) (Ax rfl <| Aq rfl <| Al rfl <| Ab) rfl hjn) ?_
          refine Cf (D4 sz_26 (Ab) (row_addr9 (c := j)) (Al rfl <| Ab) (i := 1) rfl (by rw [vL_len1]; omega) ho19.one (.next <| .here) ?_)
          refine Ah <| Bd <| Ac ?_
          rw [vL_set hjn, updA_updA]
          refine Dj (fun _ _ h => h.drop (.cons _ <| .cons_cons _ <| .cons_cons _ <| .cons_cons _ <| .cons_cons _ <| .cons_cons _ <| .refl _)) ?_
          refine Ai fun ds => Aa rfl (Ag (A5 rfl <| Aq rfl <| Aj rfl <| A2 rfl <| A5 rfl <| Aq rfl <| At rfl hu16)) ?_
          refine Aa rfl (Bq (Ab) Ad rfl (by omega) (by omega)) ?_
          refine Aa rfl (Ae (Ab)) ?_
          refine Ah <| Ac ⟨_, m3 - 1, Off.eq (Dr rfl <| Ee rfl <| Ds rfl <| Du rfl <| C6 rfl <| Dr rfl <| ou2 rfl <| Bg), by omega, ?_⟩
          exact ⟨p + 1, by omega, (Ab), xs ++ [r], _, _, ((A5 rfl <| Ax rfl <| Al rfl <| At rfl hc13)).trans (congrArg (Value.int .i64) (tell_snoc hxl)), by simp [hxl], tell_val hxv ⟨hr1, hr3⟩, tell_step hxl hxk hrk, ho19, rfl⟩
         ·
          refine Af <| Af <| Ai fun ds => Aa rfl (Ag (At rfl hu16)) ?_
          refine Aa rfl (Am Ci (Al rfl <| Aj rfl <| Al rfl <| Aj rfl <| Bc rfl <| Ax rfl <| Aq rfl <| Al rfl <| Aj rfl <| Ax rfl <| Aj rfl <| A2 rfl <| A5 rfl <| Aq rfl <| Al rfl <| Ab)) ?_
          refine Aa rfl (Ap Cs (Ab) (Cell.own 4 rfl rfl)) ?_
          refine Aa rfl (Bm C2 (Ab) hr.places.plain) ?_
          refine Aa rfl (Bu (Aq rfl <| Al rfl <| Ab) (Ab)) ?_
          refine Ah <| Ac <| Ao (Ab) (by first | rfl | exact decide_eq_false (by omega)) ?_
          obtain rfl : p = s.places.length := by omega
          refine Ct (σ := ⟨_, _⟩) (by rfl) ho12 (.s <| .s <| .s <| .s <| .s <| .k <| .z) .last fun F29 hF30 hz31 => ?_
          replace hr := hr.mono hF30
          replace hl := hl.mono hF30
          replace h1s := h1s.mono hF30
          replace h2s := h2s.mono hF30
          replace h3s := h3s.mono hF30
          replace hT := hT.mono hF30
          replace hle0 := Heap.le_trans hle0 hF30
          refine E4 (.one (.here) <| .one (.here) <| .one (.here) <| .one (.here) <| .one (.here) <| .lastb (.here)) ?_
          have hw12 := ho12.sl (fun _ => rfl) hz31 (by omega)
          have hI2 := hI.step ht hjl hDj (y := y) hxl hxv hy0 (fun k hk => (hup k hk).2.1) (fun k hk => ⟨(hup k hk).1, (hyk k hk).1, (hyk k hk).2, hxk k hk⟩)
          have hT2 := hT.step (i := j) hw12
          refine Bp ?_
          refine Bf <| Bf <| Bi <| Bd <| Ac <| Ai fun ds => Aa rfl (Ag (Ax rfl <| Al rfl <| Aj rfl <| Al rfl <| Aj rfl <| Bc rfl <| Ax rfl <| Aq rfl <| Al rfl <| At rfl ht15)) ?_
          refine Aa rfl (Bq (Ab) Ad rfl (by omega) (by omega)) ?_
          refine Aa rfl (Ae (Ab)) ?_
          refine Ah <| Ac ⟨_, m2 - 1, Off.eq (Dr rfl <| Du rfl <| Ds rfl <| Du rfl <| Ex rfl <| Ee rfl <| ou2 rfl <| Ds rfl <| Bg), by omega, ?_⟩
          exact ⟨j + 1, by omega, (Ab), _, _, _, _, _, _, hle0, hr, hl, h1s, h2s, h3s, hT2, (A5 rfl <| At rfl hu13), hI2, fun i hi h => by by_cases e : i = j; subst e; exact Dk; rw [Cl e]; exact hcov i hi (by omega), rfl⟩
       ·
        replace hDk0 : D k0 = false := by simpa using hDk0
        have hyz0 := hI.no k0 hkl0 hDk0
        refine Ar (Ab) (decide_eq_true (by omega)) ?_
        refine Bp ?_
        refine Bf (Bi ?_)
        refine Ac <| Ai fun ds => Aa rfl (Ag (A2 rfl <| A5 rfl <| Al rfl <| At rfl ht15)) ?_
        refine Aa rfl (Bq (Ab) Ad rfl (by omega) (by omega)) ?_
        refine Aa rfl (Ae (Ab)) ?_
        refine Ah <| Ac ⟨_, m2 - 1, Off.eq (C6 rfl <| Dr rfl <| Ee rfl <| Bg), by omega, ?_⟩
        exact ⟨j + 1, by omega, (Ab), c, D, Y, R, W, _, hle0, hr, hl, h1s, h2s, h3s, hT, (A2 rfl <| A5 rfl <| Ax rfl <| At rfl ht13), hI, fun i hi h => by by_cases e : i = j; subst e; have := hcov k0 hkl0 (by omega); rw [hDk0] at this; cases this; exact hcov i hi (by omega), rfl⟩
    ·
     refine Af <| Af <| Ai fun ds => Aa rfl (Ag (At rfl ht15)) ?_
     refine Aa rfl (Ag (Al rfl <| Aj rfl <| Ax rfl <| Aj rfl <| A2 rfl <| Aq rfl <| Ab)) ?_
     refine Aa rfl (Bu (Al rfl <| Ab) (Ab)) ?_
     refine Ah <| Ac <| Ao (Ab) (by first | rfl | exact decide_eq_false (by omega)) ?_
     obtain rfl : j = ps.length := by omega
     refine Bp ?_
     refine Bf <| Bf <| Bi <| Bd <| Ac <| Ai fun ds => Aa rfl (Ag (Aq rfl <| Al rfl <| Aj rfl <| Ax rfl <| At rfl hs14)) ?_
     refine Aa rfl (Bq (Ab) Ad rfl (by omega) (by omega)) ?_
     refine Aa rfl (Ae (Ab)) ?_
     refine Ah <| Ac ⟨_, m - 1, Off.eq (Ee rfl <| ou2 rfl <| Du rfl <| Ee rfl <| Bg), by omega, ?_⟩
     exact ⟨rn + 1, by omega, (Ab), c, D, Y, R, W, _, hle0, hr, hl, h1s, h2s, h3s, hT, (Ax rfl <| Aq rfl <| At rfl ht13), hI, fun i hi h => hcov i hi (by omega), rfl⟩
  ·
   refine Af <| Af <| Ai fun ds => Aa rfl (Ag (At rfl hs14)) ?_
   refine Aa rfl (Ag (Al rfl <| Aj rfl <| A2 rfl <| Aq rfl <| Ab)) ?_
   refine Aa rfl (Bu (Al rfl <| Ab) (Ab)) ?_
   refine Ah <| Ac <| Ao (Ab) (by first | rfl | exact decide_eq_false (by omega)) ?_
   obtain rfl : rn = ps.length := by omega
   have hall : ∀ i, i < l.length → D i = true := fun i hi => hcov i hi (by have := hρn i hi; omega)
   have hA := hI.all hall (by omega) hρn
   refine B9 (i := 0) rfl hb13 (.here) fun F32 hF33 hz12 => ?_
   replace hr := hr.mono hF33
   replace hl := hl.mono hF33
   replace h3s := h3s.mono hF33
   replace hT := hT.mono hF33
   replace hle0 := Heap.le_trans hle0 hF33
   refine B9 (i := 0) rfl hb12 (.here) fun F34 hF35 hz11 => ?_
   replace hr := hr.mono hF35
   replace hl := hl.mono hF35
   replace h3s := h3s.mono hF35
   replace hT := hT.mono hF35
   replace hle0 := Heap.le_trans hle0 hF35
   replace hz12 := hF35 _ _ hz12
   have hyr : Ints F34 (.slice (some ⟨b12, 0, none⟩) ps.length ps.length) (iL Y ps.length) := sl_box hz11 rfl Ch (fun _ => rfl) (by omega)
   have hwl : Sl F34 (.slice (some ⟨b13, 0, none⟩) ps.length ps.length) 1 valE (vL W ps.length) := sl_box hz12 rfl vL_len (fun _ => rfl) (by omega)
   refine Bp ?_
   refine Bf <| Bf <| Bi <| Ac <| Af <| Af <| Ai fun ds => Aa rfl (Ae Ad) ?_
   refine Ah <| Ac <| A0 <| Bt [20, 21, 169, 170, 171, 172, 173, 174, 175, 176, 177, 178, 179, 180, 181, 182, 183, 184, 185, 186, 187, 188, 189, 190, 191, 192, 193, 194, 195, 196, 197, 198, 199, 200, 201, 202, 203, 204, 205, 206, 207, 208, 209, 210, 211, 212, 213, 214, 215, 216, 217, 218, 219, 220, 221, 222, 223, 224, 225, 226, 227, 228, 229, 230, 231, 232, 233, 234, 235, 236, 237] (fun m e σ => ∃ i : Nat, m + i = ps.length ∧ e 20 = .int .i64 (i : Int) ∧ ∃ G, F.le G ∧ StmR G vp ve ps s ∧ Ints G v9 l ∧ Sl G v3 1 u8E xd ∧ TellR G ps.length W D R ∧ Ints G (.slice (some ⟨b12, 0, none⟩) ps.length ps.length) (iL Y ps.length) ∧ Sl G (.slice (some ⟨b13, 0, none⟩) ps.length ps.length) 1 valE (vL W ps.length) ∧ ∃ qs R10, Own 64 4 v10 qs.length (qs.flatMap edE) R10 ∧ TellQ G ps qs s xd Y R i ∧ σ = ⟨G, (b3, bx 25 [.slice none 0 0, .slice none 0 0]) :: (b2, bx 55 [v0, v1, v2, v3]) :: (b1, bx 25 [vp, ve]) :: R10⟩) (ps.length) ?_ ?_
   · exact ⟨0, by omega, (Ab), _, hle0, hr, hl, h3s, hT, hyr, hwl, ps, _, ho10, TellQ.start, rfl⟩
   ·
    rintro m e _ ⟨i, hm, hs20, G3, hle0, hr, hl, h3s, hT, hyr, hwl, qs, R10, ho10, hQ, rfl⟩
    by_cases hlt : i < ps.length
    ·
     have hin := hlt
     have hql := hQ.len
     have hil : i < l.length := by omega
     have hqi : i < qs.length := by have := hQ.len; omega
     have hqe := hQ.left i hqi hlt (Nat.le_refl _)
     have hyi : (iL Y ps.length)[i]'(by rw [Ch]; exact hin) = Y i := iL_at _
     have hyb := hA.lo i hil
     have hta : turnN xd i < 256 := Ey h3b
     have htc : turnN xd (i + 1) < 256 := Ey h3b
     have hWi := hT.rd i hin (hall i hil)
     have hRl := hA.len i hil
     have hWe : (vL W ps.length)[i]'(by rw [vL_len]; exact hin) = W i := vL_at _
     have hWi2 := hWi
     rw [← hWe] at hWi2
     refine Af <| Af <| Ai fun ds => Aa rfl (Ag (At rfl hs20)) ?_
     refine Aa rfl (Ag (Al rfl <| Aj rfl <| Ax rfl <| Aj rfl <| A2 rfl <| Aq rfl <| Ab)) ?_
     refine Aa rfl (Bu (Al rfl <| Ab) (Ab)) ?_
     refine Ah <| Ac <| Ar (Ab) (by first | rfl | exact decide_eq_true (by omega)) ?_
     refine Aw <| Ac <| Af <| A0 <| Af ?_
     have hleS := hle0
     refine C0 (.inl rfl) (fun _ _ h => h) (.cons_cons _ <| .cons_cons _ <| .cons_cons _ <| .refl _) [28] (by kernel_rfl) fun ds => ?_
     refine A3 0 rfl (by kernel_rfl) (by kernel_rfl) (by kernel_rfl) (by kernel_rfl) rfl rfl (fun _ h => h.drop (.cons_cons _ <| .cons_cons _ <| .cons_cons _ <| .refl _)) (fun _ _ _ h => h) (Ag (Aq rfl <| Al rfl <| Aj rfl <| Ax rfl <| Aj rfl <| A5 rfl <| Ab)) ?_
     refine A3 1 rfl (by kernel_rfl) (by kernel_rfl) (by kernel_rfl) (by kernel_rfl) rfl rfl (fun _ h => h.drop (.cons_cons _ <| .cons_cons _ <| .cons_cons _ <| .refl _)) (fun _ _ _ h => h) (Ag (Ax rfl <| At rfl hs20)) ?_
     refine A3 2 rfl (by kernel_rfl) (by kernel_rfl) (by kernel_rfl) (by kernel_rfl) rfl rfl (fun _ h => h.drop (.cons_cons _ <| .cons_cons _ <| .cons_cons _ <| .refl _)) (fun _ _ _ h => h) (Ag (Ax rfl <| Al rfl <| Aj rfl <| Ax rfl <| Aj rfl <| Ax rfl <| Al rfl <| Ab)) ?_
     refine A3 3 rfl (by kernel_rfl) (by kernel_rfl) (by kernel_rfl) (by kernel_rfl) rfl rfl (fun _ h => h.drop (.cons_cons _ <| .cons_cons _ <| .cons_cons _ <| .refl _)) (fun _ _ _ h => h) (Ag (Ax rfl <| Aq rfl <| At rfl hs20)) ?_
     refine A3 4 rfl (by kernel_rfl) (by kernel_rfl) (by kernel_rfl) (by kernel_rfl) rfl rfl (fun _ h => h.drop (.cons_cons _ <| .cons_cons _ <| .cons_cons _ <| .refl _)) (fun _ _ _ h => h) (A8 (k := i) Bh (Al rfl <| Ab) hyr.plain (Ab) rfl (by rw [Ch]; exact hin)) ?_
     refine A3 5 rfl (by kernel_rfl) (by kernel_rfl) (by kernel_rfl) (by kernel_rfl) rfl rfl (fun _ h => h.drop (.cons_cons _ <| .cons_cons _ <| .cons_cons _ <| .refl _)) (fun _ _ _ h => h) (Ap Bk (Ab) (hyr.cell1 (by rw [Ch]; exact hin) rfl)) ?_
     refine A3 6 rfl (by kernel_rfl) (by kernel_rfl) (by kernel_rfl) (by kernel_rfl) rfl rfl (fun _ h => h.drop (.cons_cons _ <| .cons_cons _ <| .cons_cons _ <| .refl _)) (fun _ _ _ h => h) (Am fd_55_3 (A5 rfl <| Al rfl <| Aj rfl <| Ax rfl <| Aj rfl <| A2 rfl <| A5 rfl <| Aq rfl <| Ab)) ?_
     refine A3 7 rfl (by kernel_rfl) (by kernel_rfl) (by kernel_rfl) (by kernel_rfl) rfl rfl (fun _ h => h.drop (.cons_cons _ <| .cons_cons _ <| .cons_cons _ <| .refl _)) (fun _ _ _ h => h) (Ap one_50 (Ab) (Cell.own 1 rfl rfl)) ?_
     refine A3 8 rfl (by kernel_rfl) (by kernel_rfl) (by kernel_rfl) (by kernel_rfl) rfl rfl (fun _ h => h.drop (.cons_cons _ <| .cons_cons _ <| .cons_cons _ <| .refl _)) (fun _ _ _ h => h) (Ag (A5 rfl <| Aq rfl <| Al rfl <| At rfl hs20)) ?_
     refine A3 13 rfl (by kernel_rfl) (by kernel_rfl) (by kernel_rfl) (by kernel_rfl) rfl rfl (fun _ h => h.drop (.cons_cons _ <| .cons_cons _ <| .cons_cons _ <| .refl _)) (fun _ _ _ h => h) (Ag (A5 rfl <| Ax rfl <| Aj rfl <| Ax rfl <| Aj rfl <| Ax rfl <| Al rfl <| Ab)) ?_
     refine A3 14 rfl (by kernel_rfl) (by kernel_rfl) (by kernel_rfl) (by kernel_rfl) rfl rfl (fun _ h => h.drop (.cons_cons _ <| .cons_cons _ <| .cons_cons _ <| .refl _)) (fun _ _ _ h => h) (Ag (A5 rfl <| Ax rfl <| Al rfl <| At rfl hs20)) ?_
     refine A3 15 rfl (by kernel_rfl) (by kernel_rfl) (by kernel_rfl) (by kernel_rfl) rfl rfl (fun _ h => h.drop (.cons_cons _ <| .cons_cons _ <| .cons_cons _ <| .refl _)) (fun _ _ _ h => h) (A8 (k := i) Bh (Al rfl <| Ab) hyr.plain (Ab) rfl (by rw [Ch]; exact hin)) ?_
     refine A3 16 rfl (by kernel_rfl) (by kernel_rfl) (by kernel_rfl) (by kernel_rfl) rfl rfl (fun _ h => h.drop (.cons_cons _ <| .cons_cons _ <| .cons_cons _ <| .refl _)) (fun _ _ _ h => h) (Ap Bk (Ab) (hyr.cell1 (by rw [Ch]; exact hin) rfl)) ?_
     refine A3 17 rfl (by kernel_rfl) (by kernel_rfl) (by kernel_rfl) (by kernel_rfl) rfl rfl (fun _ h => h.drop (.cons_cons _ <| .cons_cons _ <| .cons_cons _ <| .refl _)) (fun _ _ _ h => h) (Am fd_55_3 (A2 rfl <| Aj rfl <| Ax rfl <| Aj rfl <| A2 rfl <| A5 rfl <| Aq rfl <| Ab)) ?_
     refine A3 18 rfl (by kernel_rfl) (by kernel_rfl) (by kernel_rfl) (by kernel_rfl) rfl rfl (fun _ h => h.drop (.cons_cons _ <| .cons_cons _ <| .cons_cons _ <| .refl _)) (fun _ _ _ h => h) (Ap one_50 (Ab) (Cell.own 1 rfl rfl)) ?_
     refine A3 19 rfl (by kernel_rfl) (by kernel_rfl) (by kernel_rfl) (by kernel_rfl) rfl rfl (fun _ h => h.drop (.cons_cons _ <| .cons_cons _ <| .cons_cons _ <| .refl _)) (fun _ _ _ h => h) (Ag (A2 rfl <| Aq rfl <| At rfl hs20)) ?_
     refine A3 20 rfl (by kernel_rfl) (by kernel_rfl) (by kernel_rfl) (by kernel_rfl) rfl rfl (fun _ h => h.drop (.cons_cons _ <| .cons_cons _ <| .cons_cons _ <| .refl _)) (fun _ _ _ h => h) (Bq (Ab) Ad rfl (by omega) (by omega)) ?_
     refine WX_x 9 rfl (by kernel_rfl) rfl (x_quiet (Be bd_96 A1 (.cons (A5 rfl <| Al rfl <| Ab) (.cons (A5 rfl <| Ab) .nil)) (Ej h3s h3b (n := i) rfl) (fun _ _ h => h)) ⟨fun _ _ => (fun _ h => h.drop (.cons_cons _ <| .cons_cons _ <| .cons_cons _ <| .refl _)), ?_⟩)
     refine A3 10 rfl (by kernel_rfl) (by kernel_rfl) (by kernel_rfl) (by kernel_rfl) rfl rfl (fun _ h => h.drop (.cons_cons _ <| .cons_cons _ <| .cons_cons _ <| .refl _)) (fun _ _ _ h => h) (q_rem (Ab) Ad (Int.natCast_nonneg _) (by decide)) ?_
     refine A3 11 rfl (by kernel_rfl) (by kernel_rfl) (by kernel_rfl) (by kernel_rfl) rfl rfl (fun _ h => h.drop (.cons_cons _ <| .cons_cons _ <| .cons_cons _ <| .refl _)) (fun _ _ _ h => h) (q_sub (A5 rfl <| Ax rfl <| Al rfl <| Ab) (Ab) rfl (by omega) (by omega)) ?_
     refine A3 12 rfl (by kernel_rfl) (by kernel_rfl) (by kernel_rfl) (by kernel_rfl) rfl rfl (fun _ h => h.drop (.cons_cons _ <| .cons_cons _ <| .cons_cons _ <| .refl _)) (fun _ _ _ h => h) (q_max2 Ad (Ab)) ?_
     refine WX_x 21 rfl (by kernel_rfl) rfl (x_quiet (Be bd_96 A1 (.cons (Ax rfl <| Aq rfl <| Ab) (.cons (Ax rfl <| Ab) .nil)) (Ej h3s h3b (n := i + 1) (by push_cast; rfl)) (fun _ _ h => h)) ⟨fun _ _ => (fun _ h => h.drop (.cons_cons _ <| .cons_cons _ <| .cons_cons _ <| .refl _)), ?_⟩)
     refine A3 22 rfl (by kernel_rfl) (by kernel_rfl) (by kernel_rfl) (by kernel_rfl) rfl rfl (fun _ h => h.drop (.cons_cons _ <| .cons_cons _ <| .cons_cons _ <| .refl _)) (fun _ _ _ h => h) (q_rem (Ab) Ad (Int.natCast_nonneg _) (by decide)) ?_
     refine A3 23 rfl (by kernel_rfl) (by kernel_rfl) (by kernel_rfl) (by kernel_rfl) rfl rfl (fun _ h => h.drop (.cons_cons _ <| .cons_cons _ <| .cons_cons _ <| .refl _)) (fun _ _ _ h => h) (Bq (A5 rfl <| Aq rfl <| Ab) (Ab) rfl (by omega) (by omega)) ?_
     refine A3 24 rfl (by kernel_rfl) (by kernel_rfl) (by kernel_rfl) (by kernel_rfl) rfl rfl (fun _ h => h.drop (.cons_cons _ <| .cons_cons _ <| .cons_cons _ <| .refl _)) (fun _ _ _ h => h) (q_min2 Ad (Ab)) ?_
     refine A3 25 rfl (by kernel_rfl) (by kernel_rfl) (by kernel_rfl) (by kernel_rfl) rfl rfl (fun _ h => h.drop (.cons_cons _ <| .cons_cons _ <| .cons_cons _ <| .refl _)) (fun _ _ _ h => h) (Ek bt_60 (.cons (Ax rfl <| Ab) rfl (.cons (Ab) rfl .nil)) (.cons rfl rfl (Nat.le_of_ble_eq_true rfl) (.cons (.here) .nil) (.cons rfl rfl (Nat.le_of_ble_eq_true rfl) (.cons (.next <| .here) .nil) .nil))) ?_
     refine A3 26 rfl (by kernel_rfl) (by kernel_rfl) (by kernel_rfl) (by kernel_rfl) rfl rfl (fun _ h => h.drop (.cons_cons _ <| .cons_cons _ <| .cons_cons _ <| .refl _)) (fun _ _ _ h => h) (A8 (k := i) B6 (A2 rfl <| A5 rfl <| Al rfl <| Ab) (ho10.plain (by omega)) (A2 rfl <| A5 rfl <| Ab) rfl hqi) ?_
     refine A3 27 rfl (by kernel_rfl) (by kernel_rfl) (by kernel_rfl) (by kernel_rfl) rfl rfl (fun _ h => h.drop (.cons_cons _ <| .cons_cons _ <| .cons_cons _ <| .refl _)) (fun _ _ _ h => h) (Bs D3 (Ab)) ?_
     refine WX_x0 28 rfl (by kernel_rfl) (x_storeR2 (j := i * 4 + 1) sz_60 (Ab) (Aq rfl <| Ab) rfl ho10 (by rw [Dz E2]; omega) (by simp [Value.oneCell']) (.s <| .s <| .s <| .z) .last fun R9 ho9 => ⟨(fun h => nomatch h), ?_⟩)
     refine C9 (by kernel_rfl) ?_ _
     refine Ac <| Af ?_
     rw [hyi] at ho9
     have ho9b := ed_own_year (a := (max 1450 (Y i - ((turnN xd i % 40 : Nat) : Int)))) (b := (min 1850 (Y i + ((turnN xd (i + 1) % 40 : Nat) : Int)))) ho9 hqi
     refine Ai fun ds => Aa rfl (Ag (A2 rfl <| A5 rfl <| Ax rfl <| Aq rfl <| Al rfl <| Aj rfl <| Ax rfl <| Aj rfl <| A5 rfl <| Ab)) ?_
     refine Aa rfl (Ag (Bc rfl <| At rfl hs20)) ?_
     refine Bj rfl (B4 Bh Df rfl .nil rfl rfl (by decide) (by simp [Value.oneCell']) fun b37 hb37 nb37 => ?_)
     refine Aa rfl (Ag (Bc rfl <| Aq rfl <| Aj rfl <| Ax rfl <| Aj rfl <| Aq rfl <| Ab)) ?_
     refine Aa rfl (Ag (Bc rfl <| Aq rfl <| Al rfl <| At rfl hs20)) ?_
     refine Aa rfl (A8 (k := i) sl_114 (Al rfl <| Ab) hwl.plain (Ab) rfl (by rw [vL_len]; exact hin)) ?_
     refine Aa rfl (Ap Cb (Ab) (hwl.cell1 (by rw [vL_len]; exact hin) rfl)) ?_
     refine Bj rfl (Co Bh el_3 (Ax rfl <| Ab) (own_box rfl) (Ab) (Sl.srcInt hWi2) (by omega) (by omega) (.z) .box fun v38 R39 ho40 => ?_)
     have ho21 : Own 3 1 v38 (R i).length ((R i).flatMap intE) R39 := by simpa using ho40
     obtain ⟨w21, hw21⟩ : ∃ y, y = v38 := ⟨_, rfl⟩
     subst hw21
     refine Aa rfl (A8 (k := i) B6 (Ax rfl <| Aq rfl <| Al rfl <| Ab) (ho9b.plain (by rw [List.length_set]; omega)) (Ax rfl <| Aq rfl <| Ab) rfl (by rw [List.length_set]; omega)) ?_
     refine Aa rfl (Bs Cg (Ab)) ?_
     refine Ew (.one (.skip <| .here) <| .one (.skip <| .here) <| .one (.skip <| .here) <| .blk (.lastS) <| .lastb (.last)) ?_
     refine Cf (x_storeR sz_26 (Ab) (Aq rfl <| Ab) ho9b (by rw [Dz E2, List.length_set]; omega) ho21.one (.s <| .s <| .s <| .z) .more fun R41 ho42 => ?_)
     have ho10b := ho42
     refine Ah <| Ac <| Af ?_
     have ho22 := ed_own_rd (x := toldE s xd Y R i) hqi ho10b (by rw [hqe, hr.at hlt]; rfl) rfl rfl
     refine Ai fun ds => Aa rfl (Ae Ad) ?_
     refine Ah <| Ac <| A0 <| Bt [21, 212, 213, 214, 215, 216, 217, 218, 219, 220, 221, 222, 223, 224, 225, 226, 227, 228, 229, 230, 231, 232, 233, 234, 235, 236, 237] (fun m e σ => ∃ p : Nat, m + p = s.places.length ∧ e 21 = .int .i64 (p : Int) ∧ ∃ RS, Own 3 1 w21 (lostL xd s.places.length i (R i) p).length ((lostL xd s.places.length i (R i) p).flatMap intE) RS ∧ σ = ⟨G3, (b3, bx 25 [.slice none 0 0, .slice none 0 0]) :: (b2, bx 55 [v0, v1, v2, v3]) :: (b1, bx 25 [vp, ve]) :: (R41 ++ RS)⟩) (s.places.length) ?_ ?_
     · exact ⟨0, by omega, (Ab), _, ho21, rfl⟩
     ·
      rintro m2 e2 _ ⟨p, hm2, ht21, RS, hoS, rfl⟩
      by_cases hltp : p < s.places.length
      ·
       have ht3 : (turnN xd (i * s.places.length + p)) < 256 := Ey h3b
       have hmul : (i : Int) * (s.places.length : Int) = ((i * s.places.length : Nat) : Int) := by push_cast; rfl
       have hmb : i * s.places.length ≤ 24 := Nat.le_trans (Nat.mul_le_mul (show i ≤ 4 by omega) (show s.places.length ≤ 6 by omega)) (by decide)
       have hll3 := lostL_len (xd := xd) (np := s.places.length) (i := i) (xs := R i) p
       refine Af <| Af <| Ai fun ds => Aa rfl (Ag (At rfl ht21)) ?_
       refine Aa rfl (Am Ci (Al rfl <| Aj rfl <| Bc rfl <| A5 rfl <| Aq rfl <| Aj rfl <| Ax rfl <| Aj rfl <| A2 rfl <| A5 rfl <| Aq rfl <| Al rfl <| Ab)) ?_
       refine Aa rfl (Ap Cs (Ab) (Cell.own 2 rfl rfl)) ?_
       refine Aa rfl (Bm C2 (Ab) hr.places.plain) ?_
       refine Aa rfl (Bu (Aq rfl <| Al rfl <| Ab) (Ab)) ?_
       refine Ah <| Ac <| Ar (Ab) (by first | rfl | exact decide_eq_true (by omega)) ?_
       by_cases h41 : (turnN xd (i * s.places.length + p)) % 4 = 1
       ·
        refine Aw <| Ac <| Af <| A0 <| Af <| Ai fun ds => Aa rfl (Am fd_55_3 (Ax rfl <| Al rfl <| Aj rfl <| Bc rfl <| A5 rfl <| Aq rfl <| Aj rfl <| Ax rfl <| Aj rfl <| A2 rfl <| A5 rfl <| Aq rfl <| Ab)) ?_
        refine Aa rfl (Ap one_50 (Ab) (Cell.own 1 rfl rfl)) ?_
        refine Aa rfl (Ag (Ax rfl <| Aq rfl <| Al rfl <| Aj rfl <| Bc rfl <| A5 rfl <| Aq rfl <| At rfl hs20)) ?_
        refine Aa rfl (Am Ci (A5 rfl <| Aj rfl <| Bc rfl <| A5 rfl <| Aq rfl <| Aj rfl <| Ax rfl <| Aj rfl <| A2 rfl <| A5 rfl <| Aq rfl <| Al rfl <| Ab)) ?_
        refine Aa rfl (Ap Cs (Ab) (Cell.own 2 rfl rfl)) ?_
        refine Aa rfl (Bm C2 (Ab) hr.places.plain) ?_
        refine Aa rfl (q_mul (Aq rfl <| Al rfl <| Ab) (Ab) rfl (by omega) (by omega)) ?_
        refine Aa rfl (Ag (A5 rfl <| Ax rfl <| At rfl ht21)) ?_
        refine Aa rfl (Bq (Al rfl <| Ab) (Ab) rfl (by omega) (by omega)) ?_
        refine Bx rfl (Be bd_96 A1 (.cons (Ax rfl <| Aq rfl <| Al rfl <| Ab) (.cons (Ab) .nil)) (Ej h3s h3b (n := i * s.places.length + p) (by push_cast; rfl)) (fun _ _ h => h)) ?_
        refine Aa rfl (q_rem (Ab) Ad (Int.natCast_nonneg _) (by decide)) ?_
        refine Aa rfl (By (Ab) Ad) ?_
        refine Ah <| Ac <| Ar (Ab) (decide_eq_true (by omega)) ?_
        refine Ai fun ds => Aa rfl (Ag (A2 rfl <| Al rfl <| Aj rfl <| Bc rfl <| A5 rfl <| Aq rfl <| Aj rfl <| Ax rfl <| Aj rfl <| A5 rfl <| Ab)) ?_
        refine Aa rfl (Ag (A2 rfl <| Aq rfl <| Aj rfl <| Bc rfl <| A5 rfl <| Aq rfl <| At rfl hs20)) ?_
        refine Aa rfl (A8 (k := i) B6 (Al rfl <| Ab) (ho22.plain (by rw [List.length_set]; omega)) (Ab) rfl (by rw [List.length_set]; omega)) ?_
        refine Aa rfl (Bs Cg (Ab)) ?_
        refine Aa rfl (Ap Cb (Ab) (own_cell ho22 (fun p hp => .tail _ (.tail _ (.tail _ (List.mem_append_left _ hp)))) (flat_at E2 _ _ (by rw [List.length_set]; omega) (by rw [List.getElem_set_self]; rfl)))) ?_
        refine Aa rfl (Ag (A2 rfl <| Ax rfl <| Aq rfl <| At rfl ht21)) ?_
        refine Aa rfl (A8 (k := p) Bh (Al rfl <| Ab) (hoS.plain (by omega)) (Ab) rfl (by omega)) ?_
        refine Cf (x_storeR sz_3 (Ab) Ad hoS (by rw [Dz (enc := intE) (s := 1) (fun _ => rfl)]; omega) rfl (.s <| .s <| .s <| .k <| .z) .last fun R44 ho45 => ?_)
        have hoL : Own 3 1 w21 (lostL xd s.places.length i (R i) (p + 1)).length ((lostL xd s.places.length i (R i) (p + 1)).flatMap intE) R44 := by have h9 := ho45; rw [show p * 1 = p * 1 + 0 from rfl, int_flat_set (by omega)] at h9; rw [lostL_yes h41]; exact h9.to (by rw [List.length_set])
        refine Ah <| Bd <| Ac <| Ai fun ds => Aa rfl (Ag (A2 rfl <| A5 rfl <| At rfl ht21)) ?_
        refine Aa rfl (Bq (Ab) Ad rfl (by omega) (by omega)) ?_
        refine Aa rfl (Ae (Ab)) ?_
        refine Ah <| Ac ⟨_, m2 - 1, Off.eq (C6 rfl <| Dr rfl <| ou2 rfl <| Ds rfl <| Bg), by omega, ?_⟩
        exact ⟨p + 1, by omega, (Ab), _, hoL, rfl⟩
       ·
        refine Aw <| Ac <| Af <| A0 <| Af <| Ai fun ds => Aa rfl (Am fd_55_3 (Ax rfl <| Al rfl <| Aj rfl <| Bc rfl <| A5 rfl <| Aq rfl <| Aj rfl <| Ax rfl <| Aj rfl <| A2 rfl <| A5 rfl <| Aq rfl <| Ab)) ?_
        refine Aa rfl (Ap one_50 (Ab) (Cell.own 1 rfl rfl)) ?_
        refine Aa rfl (Ag (Ax rfl <| Aq rfl <| Al rfl <| Aj rfl <| Bc rfl <| A5 rfl <| Aq rfl <| At rfl hs20)) ?_
        refine Aa rfl (Am Ci (A5 rfl <| Aj rfl <| Bc rfl <| A5 rfl <| Aq rfl <| Aj rfl <| Ax rfl <| Aj rfl <| A2 rfl <| A5 rfl <| Aq rfl <| Al rfl <| Ab)) ?_
        refine Aa rfl (Ap Cs (Ab) (Cell.own 2 rfl rfl)) ?_
        refine Aa rfl (Bm C2 (Ab) hr.places.plain) ?_
        refine Aa rfl (q_mul (Aq rfl <| Al rfl <| Ab) (Ab) rfl (by omega) (by omega)) ?_
        refine Aa rfl (Ag (A5 rfl <| Ax rfl <| At rfl ht21)) ?_
        refine Aa rfl (Bq (Al rfl <| Ab) (Ab) rfl (by omega) (by omega)) ?_
        refine Bx rfl (Be bd_96 A1 (.cons (Ax rfl <| Aq rfl <| Al rfl <| Ab) (.cons (Ab) .nil)) (Ej h3s h3b (n := i * s.places.length + p) (by push_cast; rfl)) (fun _ _ h => h)) ?_
        refine Aa rfl (q_rem (Ab) Ad (Int.natCast_nonneg _) (by decide)) ?_
        refine Aa rfl (By (Ab) Ad) ?_
        refine Ah <| Ac <| Ao (Ab) (decide_eq_false (by omega)) ?_
        refine Aw <| Bd <| Ac <| Ai fun ds => Aa rfl (Ag (A2 rfl <| Al rfl <| At rfl ht21)) ?_
        refine Aa rfl (Bq (Ab) Ad rfl (by omega) (by omega)) ?_
        refine Aa rfl (Ae (Ab)) ?_
        refine Ah <| Ac ⟨_, m2 - 1, Off.eq (C6 rfl <| Ee rfl <| Bg), by omega, ?_⟩
        exact ⟨p + 1, by omega, (Ab), _, by rw [lostL_no h41]; exact hoS, rfl⟩
      ·
       refine Af <| Af <| Ai fun ds => Aa rfl (Ag (At rfl ht21)) ?_
       refine Aa rfl (Am Ci (Al rfl <| Aj rfl <| Bc rfl <| A5 rfl <| Aq rfl <| Aj rfl <| Ax rfl <| Aj rfl <| A2 rfl <| A5 rfl <| Aq rfl <| Al rfl <| Ab)) ?_
       refine Aa rfl (Ap Cs (Ab) (Cell.own 2 rfl rfl)) ?_
       refine Aa rfl (Bm C2 (Ab) hr.places.plain) ?_
       refine Aa rfl (Bu (Aq rfl <| Al rfl <| Ab) (Ab)) ?_
       refine Ah <| Ac <| Ao (Ab) (by first | rfl | exact decide_eq_false (by omega)) ?_
       obtain rfl : p = s.places.length := by omega
       have hll3 := lostL_len (xd := xd) (np := s.places.length) (i := i) (xs := R i) s.places.length
       refine Ct (σ := ⟨_, _⟩) (by rfl) hoS (.s <| .s <| .s <| .k <| .z) .last fun F46 hF47 hz48 => ?_
       replace hr := hr.mono hF47
       replace hl := hl.mono hF47
       replace h3s := h3s.mono hF47
       replace hT := hT.mono hF47
       replace hyr := hyr.mono hF47
       replace hwl := hwl.mono hF47
       replace hQ := hQ.mono hF47
       replace hle0 := Heap.le_trans hle0 hF47
       refine E4 (.one (.here) <| .one (.here) <| .one (.here) <| .lastb (.here)) ?_
       have hws := hoS.sl (fun _ => rfl) hz48 (by omega)
       have hQ2 := hQ.step (by have := hQ.len; omega) (w := w21) hws
       refine Bp ?_
       refine Bf <| Bf <| Bi <| Bd <| Ac <| Ai fun ds => Aa rfl (Ag (Ax rfl <| Al rfl <| Aj rfl <| Bc rfl <| A5 rfl <| Aq rfl <| At rfl hs20)) ?_
       refine Aa rfl (Bq (Ab) Ad rfl (by omega) (by omega)) ?_
       refine Aa rfl (Ae (Ab)) ?_
       refine Ah <| Ac ⟨_, m - 1, Off.eq (Dr rfl <| Du rfl <| Ex rfl <| Dr rfl <| ou2 rfl <| Bg), by omega, ?_⟩
       exact ⟨i + 1, by omega, (Ab), _, hle0, hr, hl, h3s, hT, hyr, hwl, _, _, ho22, hQ2, rfl⟩
    ·
     refine Af <| Af <| Ai fun ds => Aa rfl (Ag (At rfl hs20)) ?_
     refine Aa rfl (Ag (Al rfl <| Aj rfl <| Ax rfl <| Aj rfl <| A2 rfl <| Aq rfl <| Ab)) ?_
     refine Aa rfl (Bu (Al rfl <| Ab) (Ab)) ?_
     refine Ah <| Ac <| Ao (Ab) (by first | rfl | exact decide_eq_false (by omega)) ?_
     obtain rfl : i = ps.length := by omega
     have hql := hQ.len
     refine Ct (σ := ⟨_, _⟩) (by rfl) ho10 (.s <| .s <| .s <| .z) .last fun F49 hF50 hz51 => ?_
     replace hr := hr.mono hF50
     replace hl := hl.mono hF50
     replace hyr := hyr.mono hF50
     replace hQ := hQ.mono hF50
     have hen := ho10.sl (fun _ => rfl) hz51 (by omega)
     refine Bp ?_
     refine Bf <| Bf <| Bi <| Ac <| Af <| Ai fun ds => Aa rfl (Ag (Aq rfl <| Al rfl <| Aj rfl <| Ax rfl <| Aj rfl <| A5 rfl <| Ab)) ?_
     refine Aa rfl (Am Bv (Ax rfl <| Aj rfl <| Ax rfl <| Aj rfl <| A2 rfl <| A5 rfl <| Aq rfl <| Al rfl <| Ab)) ?_
     refine Cf (Cm sz_23 (Ab) (Al rfl <| Ab) (i := 2) rfl (.next <| .here) hen.plain.one (.next <| .next <| .here) ?_)
     refine Ah <| Ac <| Af <| Ai fun ds => Aa rfl (Bb B7 (Ax rfl <| Al rfl <| Aj rfl <| Ax rfl <| Aj rfl <| A2 rfl <| A5 rfl <| Aq rfl <| Al rfl <| Ab) rfl rfl (A7 2 rfl)) ?_
     refine Aa rfl (Ag (Ax rfl <| Aq rfl <| Aj rfl <| Ax rfl <| Aj rfl <| A5 rfl <| Ax rfl <| Al rfl <| Ab)) ?_
     refine Aa rfl (Ag (Ax rfl <| Aq rfl <| Al rfl <| Aj rfl <| Ax rfl <| At rfl hs13)) ?_
     refine Aa rfl (Ag (A5 rfl <| Aj rfl <| Ax rfl <| Aj rfl <| Ax rfl <| Al rfl <| Ab)) ?_
     refine Cf (Ce sz_25 (A5 rfl <| Al rfl <| Aj rfl <| Ax rfl <| Aj rfl <| A2 rfl <| A5 rfl <| Al rfl <| Ab) (Aq rfl <| Al rfl <| Ab) (i := 0) rfl rfl rfl rfl (by intro u hu; simp only [List.mem_cons, List.not_mem_nil, or_false] at hu; rcases hu with rfl | rfl; exact hr.places.plain.one; exact hen.plain.one) (.here) ?_)
     refine Aa rfl (Ae (Aq rfl <| Ab)) ?_
     refine Aa rfl (Ae (Aq rfl <| Ab)) ?_
     refine Aa rfl (Ae (Aq rfl <| Ab)) ?_
     refine Ah <| Ac <| A4 <| Ay rfl (.agg B7 (A5 rfl <| Ax rfl <| Aj rfl <| Ax rfl <| Aj rfl <| A2 rfl <| A5 rfl <| Al rfl <| Ab) rfl rfl (A7 0 rfl) (.tmp (Aq rfl <| Ab) (.tmp (Al rfl <| Ab) (.tmp (Ab) .nil)))) ?_
     exact ⟨l, Y, R, c, v9, _, qs, _, rfl, hl, hll0, ht, hA, hQ.stm hr hen, hyr⟩
end Go.Proofs.Ytccogmkhijgelaa
namespace Go.Proofs.Ytccogmkhijgelaa
open Go.RowKit
theorem agg_55 : AggT Try.prog 55 4 := aggT_of (by kernel_rfl)
theorem bd_43 : Body Try.prog 43 := Bo (by kernel_rfl)
theorem bd_44 : Body Try.prog 44 := Bo (by kernel_rfl)
set_option maxRecDepth 100000 in
set_option maxHeartbeats 1000000 in
theorem trueLaw_ok {F : Heap} {vp ve : Value} {ps : List (Value × Edn)} {s : Stm} (hr : StmR F vp ve ps s) {v0 v1 v2 v3 : Value} {xa xb xc xd : List Nat} (h0s : Sl F v0 1 u8E xa) (h0b : ∀ x ∈ xa, x < 256) (h1s : Sl F v1 1 u8E xb) (h1b : ∀ x ∈ xb, x < 256) (h2s : Sl F v2 1 u8E xc) (h2b : ∀ x ∈ xc, x < 256) (h3s : Sl F v3 1 u8E xd) (h3b : ∀ x ∈ xd, x < 256) : Ok Try.prog 8 [.agg #[vp, ve], .agg #[v0, v1, v2, v3]].toArray F fun u _ => u = .bool true := by
 have hle0 : F.le F := Heap.le_refl _
 refine Ok.intro Try.func8 rfl Try.ntmps8 rfl fun w0 => ?_
 have hL1 := hr.eds.plain.lt
 have hL2 := hr.places.plain.lt
 have hlen := hr.len
 by_cases h0 : (checkT s).2.2 = 0
 ·
  have hv := Dd h0
  have hne := hv.ne
  have hnp := hv.np
  refine Af <| Ai fun ds => Bj rfl (B2 (Ak rfl) rfl fun b1 hb1 nb1 => ?_)
  refine Bj rfl (B2 (Al rfl <| Ak rfl) rfl fun b2 hb2 nb2 => ?_)
  refine Aa rfl (Ae Ad) ?_
  refine Ah <| Ac <| Af <| Af <| Ai fun ds => Aa rfl (Bb B7 (Aq rfl <| Ab) rfl rfl (A7 1 rfl)) ?_
  refine Bx rfl (Be bd_40 A1 (.cons (Ab) .nil) (valid_ok hr) (fun _ _ h => h)) ?_
  refine Aa rfl (Cq (Ab)) ?_
  refine Ah <| Ac <| Ao (Ab) (by simp [h0]) ?_
  refine Aw <| Ac <| Af <| Ai fun ds => Aa rfl (Bb B7 (Ax rfl <| Al rfl <| Ab) rfl rfl (A7 1 rfl)) ?_
  refine Aa rfl (Bb agg_55 (Ax rfl <| Al rfl <| Ab) rfl rfl (A7 0 rfl)) ?_
  refine Bj rfl (Cn bd_43 A1 (.cons (Al rfl <| Ab) (.cons (Ab) .nil)) (told_ok hr hv h0s h0b h1s h1b h2s h2b h3s h3b) fun v3 F4 hr5 hF6 => ?_)
  obtain ⟨l, Y, R, c, vl, ve2, ps2, vy, rfl, hl, hll0, ht, hI, hr2, hyr⟩ := hr5
  have hll : l.length = s.editions.length := by omega
  have hll2 : l.length = (toldS s xd Y R).editions.length := by rw [De]; exact hll
  have h02 := hI.check (xd := xd) h0 hll
  have hok2 := tree_err0 h02 hll2 ht
  obtain ⟨hc1, hc2⟩ := hI.cost (xd := xd) h0 hll ht
  have hce := changesE_ok hok2 (by omega)
  obtain ⟨hbm, hbne, -⟩ := best_least hll2 ht hc1
  have hask2 := askedT_some h02 hbne
  have hft := hI.fits (xd := xd) hll ht
  have hlen2 := hr2.len
  refine Aa rfl (Ag (Ab)) ?_
  refine Aa rfl (Az (Ab) rfl) ?_
  refine Aa rfl (Az (Al rfl <| Ab) rfl) ?_
  refine Aa rfl (Az (Aq rfl <| Ab) rfl) ?_
  refine Aa rfl (Az (Aq rfl <| Al rfl <| Ab) rfl) ?_
  refine Bj rfl (B8 zr_25 rfl fun b7 hb7 nb7 => ?_)
  refine Cf (Ce sz_25 (Ab) (Ax rfl <| Ab) (i := 0) rfl rfl rfl rfl hr2.ones (.here) ?_)
  refine Aa rfl (Ae (Aq rfl <| Al rfl <| Ab)) ?_
  refine Aa rfl (Ae (Aq rfl <| Al rfl <| Ab)) ?_
  refine Aa rfl (Ae (Aq rfl <| Al rfl <| Ab)) ?_
  refine Ah <| Ac <| Af <| Ai fun ds => Aa rfl (Bb B7 (Aq rfl <| Al rfl <| Ab) rfl rfl (A7 0 rfl)) ?_
  refine Aa rfl (Ag (Aq rfl <| Al rfl <| Ab)) ?_
  refine Bx rfl (Be bd_21 A1 (.cons (Al rfl <| Ab) (.cons (Ab) .nil)) (changes_top_ok hr2 hl) (fun _ _ h => h.trans (show changesEV (toldS s xd Y R) l = .tuple #[.int .i64 (costL (toldS s xd Y R) l), .int .i64 0] by unfold changesEV; rw [hce]))) ?_
  refine Aa rfl (Ag (Ab)) ?_
  refine Aa rfl (Az (Ab) rfl) ?_
  refine Aa rfl (Az (Al rfl <| Ab) rfl) ?_
  refine Aa rfl (Ae (Al rfl <| Ab)) ?_
  refine Aa rfl (Ae (Al rfl <| Ab)) ?_
  refine Ah <| Ac <| Af <| Ai fun ds => Aa rfl (Bb B7 (A5 rfl <| Aq rfl <| Al rfl <| Ab) rfl rfl (A7 0 rfl)) ?_
  refine Bj rfl (Cn bd_27 A1 (.cons (Ab) .nil) (best_top_ok hr2) fun v8 F9 hr10 hF11 => ?_)
  replace hl := hl.mono hF11
  replace hr2 := hr2.mono hF11
  replace hyr := hyr.mono hF11
  have hb0 := hr10
  rw [bestTE_ok hask2] at hb0
  obtain ⟨vb, rfl, hb⟩ := hb0
  refine Aa rfl (Ag (Ab)) ?_
  refine Aa rfl (Az (Ab) rfl) ?_
  refine Aa rfl (Az (Al rfl <| Ab) rfl) ?_
  refine Aa rfl (Az (Aq rfl <| Ab) rfl) ?_
  refine Aa rfl (Az (Aq rfl <| Al rfl <| Ab) rfl) ?_
  refine Aa rfl (Ae (Aq rfl <| Al rfl <| Ab)) ?_
  refine Aa rfl (Ae (Aq rfl <| Al rfl <| Ab)) ?_
  refine Aa rfl (Ae (Aq rfl <| Al rfl <| Ab)) ?_
  refine Aa rfl (Ae (Aq rfl <| Al rfl <| Ab)) ?_
  refine Ah <| Ac <| Af <| Ai fun ds => Aa rfl (Bb B7 (A2 rfl <| Ax rfl <| Aq rfl <| Ab) rfl rfl (A7 0 rfl)) ?_
  refine Aa rfl (Ag (A2 rfl <| Ax rfl <| Aq rfl <| Ab)) ?_
  refine Bj rfl (Cn bd_23 A1 (.cons (Al rfl <| Ab) (.cons (Ab) .nil)) (years_top_ok hr2 hl) fun v12 F13 hr14 hF15 => ?_)
  replace hyr := hyr.mono hF15
  have hys0 := hr14
  rw [yearsE_ok hok2 (by unfold fitsT at hft; exact hft)] at hys0
  obtain ⟨vs, rfl, hys⟩ := hys0
  replace hys : Sl _ vs 2 spanE (spL (firstY (toldS s xd Y R) (treeE l)) (lastY (toldS s xd Y R) (treeE l)) (toldS s xd Y R).editions.length) := hys
  refine Aa rfl (Ag (Ab)) ?_
  refine Aa rfl (Az (Ab) rfl) ?_
  refine Aa rfl (Az (Al rfl <| Ab) rfl) ?_
  refine Aa rfl (Ae (Al rfl <| Ab)) ?_
  refine Aa rfl (Ae (Al rfl <| Ab)) ?_
  refine Ah <| Ac <| Af <| Af <| Ai fun ds => Aa rfl (Ag (A2 rfl <| Aq rfl <| Al rfl <| Ab)) ?_
  refine Aa rfl (Bw (Ab) Ad) ?_
  refine Aa rfl (Ag (Ab)) ?_
  refine As rfl rfl (Ab) (decide_eq_false (fun h => h rfl)) ?_
  refine Aa rfl (Ag (A5 rfl <| Aq rfl <| Al rfl <| Ab)) ?_
  refine As rfl rfl (Al rfl <| Ab) (decide_eq_false (fun h => h rfl)) ?_
  refine Aa rfl (Bw (Ab) Ad) ?_
  refine Aa rfl (A9 (Aq rfl <| Ab) (decide_eq_false (fun h => h rfl)) (Ab)) ?_
  refine Aa rfl (Ag (Ab)) ?_
  refine As rfl rfl (Ab) (decide_eq_false (fun h => h rfl)) ?_
  refine Aa rfl (Ag (Ax rfl <| Aq rfl <| Al rfl <| Ab)) ?_
  refine As rfl rfl (Al rfl <| Ab) (decide_eq_false (fun h => h rfl)) ?_
  refine Aa rfl (Bw (Ab) Ad) ?_
  refine Aa rfl (A9 (Aq rfl <| Ab) (decide_eq_false (fun h => h rfl)) (Ab)) ?_
  refine Aa rfl (Ag (Ab)) ?_
  refine As rfl rfl (Ab) (decide_eq_false (fun h => h rfl)) ?_
  refine Aa rfl (Ag (A2 rfl <| A5 rfl <| Ax rfl <| Aq rfl <| Al rfl <| Ab)) ?_
  refine As rfl rfl (Al rfl <| Ab) (decide_eq_false (fun h => h rfl)) ?_
  refine Aa rfl (Ag (Bc rfl <| A5 rfl <| Ab)) ?_
  refine As rfl rfl (Aq rfl <| Ab) (decide_eq_false (fun h => h rfl)) ?_
  refine Aa rfl (C8 (Al rfl <| Ab) (Ab)) ?_
  refine Aa rfl (A9 (Aq rfl <| Al rfl <| Ab) (decide_eq_false (fun h => h rfl)) (Ab)) ?_
  refine Aa rfl (Ag (Ab)) ?_
  refine As rfl rfl (Ab) (decide_eq_false (by omega)) ?_
  refine Aa rfl (Ag (A2 rfl <| A5 rfl <| Aq rfl <| Ab)) ?_
  refine As rfl rfl (Al rfl <| Ab) (decide_eq_false (by omega)) ?_
  refine Aa rfl (Ag (Bc rfl <| Ax rfl <| Al rfl <| Ab)) ?_
  refine As rfl rfl (Aq rfl <| Ab) (decide_eq_false (by omega)) ?_
  refine Aa rfl (C8 (Al rfl <| Ab) (Ab)) ?_
  refine Aa rfl (A9 (Aq rfl <| Al rfl <| Ab) (decide_eq_false (by omega)) (Ab)) ?_
  refine Aa rfl (Ag (Ab)) ?_
  refine As rfl rfl (Ab) (decide_eq_false (by simp only; omega)) ?_
  refine Aa rfl (Ag (A2 rfl <| Ax rfl <| Aq rfl <| Ab)) ?_
  refine As rfl rfl (Al rfl <| Ab) (decide_eq_false (by simp only; omega)) ?_
  refine Aa rfl (Bm D5 (Ab) hys.plain) ?_
  refine As rfl rfl (Aq rfl <| Ab) (decide_eq_false (by simp only; omega)) ?_
  refine Aa rfl (Ag (Bc rfl <| A2 rfl <| Aq rfl <| Ab)) ?_
  refine As rfl rfl (Aq rfl <| Al rfl <| Ab) (decide_eq_false (by simp only; omega)) ?_
  refine Aa rfl (Bm Bh (Ab) hyr.plain) ?_
  refine As rfl rfl (Ax rfl <| Ab) (decide_eq_false (by simp only; omega)) ?_
  refine Aa rfl (Bw (Aq rfl <| Ab) (Ab)) ?_
  refine Aa rfl (A9 (Ax rfl <| Al rfl <| Ab) (decide_eq_false (by simp only; omega)) (Ab)) ?_
  refine Ah <| Ac <| Ao (Ab) (decide_eq_false (fun h => h (by rw [Cy, Ch, De]; omega))) ?_
  refine Aw <| Ac <| Af <| Af <| Ai fun ds => Aa rfl (Ae Ad) ?_
  refine Ah <| Ac <| A0 <| Bt [4, 21, 91, 92, 93, 94, 95, 96, 97, 98, 99, 100, 101, 102, 103, 104, 105, 106] (fun m e σ => ∃ i : Nat, m + i = s.editions.length ∧ e 21 = .int .i64 (i : Int) ∧ σ = ⟨F13, [(b7, bx 25 [vp, ve2]), (b2, bx 55 [v0, v1, v2, v3]), (b1, bx 25 [vp, ve])]⟩) (s.editions.length) ?_ ?_
  · exact ⟨0, by omega, (Ab), rfl⟩
  ·
   rintro m e _ ⟨i, hm, hs21, rfl⟩
   by_cases hlt : i < s.editions.length
   ·
    have hyi : (spL (firstY (toldS s xd Y R) (treeE l)) (lastY (toldS s xd Y R) (treeE l)) (toldS s xd Y R).editions.length)[i]'(by rw [Cy, De]; omega) = (firstY (toldS s xd Y R) (treeE l) i, lastY (toldS s xd Y R) (treeE l) i) := spL_at _
    have hyY : (iL Y ps.length)[i]'(by rw [Ch]; omega) = Y i := iL_at _
    obtain ⟨hy1, hy2⟩ := hI.years (xd := xd) hll ht hlt
    have hin : inB (firstY (toldS s xd Y R) (treeE l) i) (lastY (toldS s xd Y R) (treeE l) i) (Y i) = true := by unfold inB; rw [decide_eq_true hy1, decide_eq_true hy2]; rfl
    refine Af <| Af <| Ai fun ds => Aa rfl (Ag (At rfl hs21)) ?_
    refine Aa rfl (Ag (Al rfl <| Aj rfl <| A2 rfl <| A5 rfl <| Ax rfl <| Al rfl <| Ab)) ?_
    refine Aa rfl (Bm D5 (Ab) hys.plain) ?_
    refine Aa rfl (Bu (Aq rfl <| Ab) (Ab)) ?_
    refine Ah <| Ac <| Ar (Ab) (decide_eq_true (by rw [Cy, De]; omega)) ?_
    refine Aw <| Ac <| Af <| A0 <| Af <| Dm (.inl rfl) (fun _ _ h => h) (by kernel_rfl) (by kernel_rfl) fun ds => ?_
    refine Bn rfl (Ag (Ax rfl <| Aj rfl <| Bc rfl <| A2 rfl <| Ax rfl <| Aq rfl <| Al rfl <| Ab)) ?_
    refine Bn rfl (Ag (Ax rfl <| Al rfl <| At rfl hs21)) ?_
    refine Bn rfl (A8 (k := i) Bh (Al rfl <| Ab) hyr.plain (Ab) rfl (by rw [Ch]; omega)) ?_
    refine Bn rfl (Ap Bk (Ab) (hyr.cell1 (by rw [Ch]; omega) rfl)) ?_
    refine Bn rfl (Ag (A5 rfl <| Aj rfl <| A2 rfl <| A5 rfl <| Ax rfl <| Al rfl <| Ab)) ?_
    refine Bn rfl (Ag (A5 rfl <| Al rfl <| At rfl hs21)) ?_
    refine Bn rfl (A8 (k := i) D5 (Al rfl <| Ab) hys.plain (Ab) rfl (by rw [Cy, De]; omega)) ?_
    refine Bn rfl (Bb agg_60 (Ab) rfl rfl (hys.whole (by rw [Cy, De]; omega))) ?_
    refine WQ_c rfl (Be bd_44 A1 (.cons (Ax rfl <| Ab) (.cons (Ab) .nil)) (inside_ok _ _ _) (fun _ _ h => h)) ?_
    refine Bn rfl (Cq (Ab)) ?_
    refine Ef ?_
    refine Ac <| Ao (Ab) (by rw [hyi, hyY]; show (!(inB _ _ _)) = false; rw [hin]; rfl) ?_
    refine Aw <| Bd <| Ac <| Ai fun ds => Aa rfl (Ag (A5 rfl <| Ax rfl <| Aq rfl <| At rfl hs21)) ?_
    refine Aa rfl (Bq (Ab) Ad rfl (by omega) (by omega)) ?_
    refine Aa rfl (Ae (Ab)) ?_
    refine Ah <| Ac ⟨_, m - 1, Off.eq (C6 rfl <| Ds rfl <| Bg), by omega, ?_⟩
    exact ⟨i + 1, by omega, (Ab), rfl⟩
   ·
    refine Af <| Af <| Ai fun ds => Aa rfl (Ag (At rfl hs21)) ?_
    refine Aa rfl (Ag (Al rfl <| Aj rfl <| A2 rfl <| A5 rfl <| Ax rfl <| Al rfl <| Ab)) ?_
    refine Aa rfl (Bm D5 (Ab) hys.plain) ?_
    refine Aa rfl (Bu (Aq rfl <| Ab) (Ab)) ?_
    refine Ah <| Ac <| Ao (Ab) (decide_eq_false (by rw [Cy, De]; omega)) ?_
    refine Bp ?_
    refine Bf <| Bf <| Bi <| Ac <| Af <| Ai fun ds => Bx rfl (Be bd_26 A1 .nil awake_ok (fun _ _ h => h)) ?_
    refine Aa rfl (Ae (Ab)) ?_
    refine Ah <| Ac <| A4 <| Ay rfl (.tmp (Ab) .nil) ?_
    rfl
 ·
  have ha9 := askedT_bad h0
  have hask : askedT s ≠ 0 := by rw [ha9]; exact h0
  refine Af <| Ai fun ds => Bj rfl (B2 (Ak rfl) rfl fun b17 hb17 nb17 => ?_)
  refine Bj rfl (B2 (Al rfl <| Ak rfl) rfl fun b18 hb18 nb18 => ?_)
  refine Aa rfl (Ae Ad) ?_
  refine Ah <| Ac <| Af <| Af <| Ai fun ds => Aa rfl (Bb B7 (Aq rfl <| Ab) rfl rfl (A7 1 rfl)) ?_
  refine Bx rfl (Be bd_40 A1 (.cons (Ab) .nil) (valid_ok hr) (fun _ _ h => h)) ?_
  refine Aa rfl (Cq (Ab)) ?_
  refine Ah <| Ac <| Ar (Ab) (by simp [h0]) ?_
  refine Af <| Ai fun ds => Aa rfl (Bb B7 (Ax rfl <| Al rfl <| Ab) rfl rfl (A7 1 rfl)) ?_
  refine Bj rfl (Cn bd_27 A1 (.cons (Ab) .nil) (best_top_ok hr) fun v19 F20 hr21 hF22 => ?_)
  have hb0 := hr21
  rw [bestTE_bad hask] at hb0
  obtain ⟨vb, rfl, hb⟩ := hb0
  refine Aa rfl (Ag (Ab)) ?_
  refine Aa rfl (Az (Ab) rfl) ?_
  refine Aa rfl (Az (Al rfl <| Ab) rfl) ?_
  refine Aa rfl (Az (Aq rfl <| Ab) rfl) ?_
  refine Aa rfl (Az (Aq rfl <| Al rfl <| Ab) rfl) ?_
  refine Aa rfl (Ae (Aq rfl <| Al rfl <| Ab)) ?_
  refine Aa rfl (Ae (Aq rfl <| Al rfl <| Ab)) ?_
  refine Aa rfl (Ae (Aq rfl <| Al rfl <| Ab)) ?_
  refine Aa rfl (Ae (Aq rfl <| Al rfl <| Ab)) ?_
  refine Ah <| Ac <| Af <| Ai fun ds => Aa rfl (Ag (Ab)) ?_
  refine Aa rfl (Bw (Ab) Ad) ?_
  refine Aa rfl (Ag (Ab)) ?_
  refine As rfl rfl (Ab) (decide_eq_true hask) ?_
  refine Bx rfl (Be bd_26 A1 .nil awake_ok (fun _ _ h => h)) ?_
  refine Aa rfl (A6 (Al rfl <| Ab) (decide_eq_true hask) (Ab)) ?_
  refine Aa rfl (Ae (Ab)) ?_
  refine Ah <| Ac <| A4 <| Ba ?_
  refine Ay rfl (.tmp (Ab) .nil) ?_
  rfl
end Go.Proofs.Ytccogmkhijgelaa
namespace Go.Proofs.Ytccogmkhijgelaa
open Go.ChangeShapes Go.WideShapes Go.ChangeAt Go.RowKit
set_option maxRecDepth 100000 in
theorem stemTrueLifted (os : Os) (started : os.Started) (H : Type) (enc : TypeId × Value → H) :
   ReturnsInHanded {} Try.checked os 8 .any (Rows.stemTrueSpec.pre6 enc Try.prog Try.f8 Rows.stemTrueRow.domain false) (Rows.stemTrueSpec.post enc Try.prog Try.f8 false true false false) := by
 refine returnsInHanded_of_change_sized (C := Try.checked) ownKnob0 started (by kernel_rfl) Try.func8
   (ChangeSpec.witness6 (enc := enc) (C := Try.checked) false ⟨#[], #[.agg #[.slice none 0 0, .slice none 0 0], .agg #[.slice none 0 0, .slice none 0 0, .slice none 0 0, .slice none 0 0]], []⟩ 8 (by kernel_rfl) (by kernel_rfl) (by kernel_rfl) (by kernel_rfl)) ?_
 intro W base args ds gs before hval0 hW hcnd hsz _
 have hval : ∀ (j : Nat) t v, Try.f8.params[j]? = some t → args[j]? = some v → Value.okWide Try.prog W .any base t v := hval0
 have hW' := hW
 obtain ⟨p, q, hA0, hV, rfl, hfz, hnd⟩ := hW
 have hA : DataW.TrodAll enc Try.prog W 0 (fun _ => true) true Try.f8.params.toList args.toList ds p := hA0
 rw [Try.params8] at hA hval
 obtain ⟨v0, vs0, d0, ds0, p0, q0, hargs, rfl, rfl, h0, r0⟩ := trodAll_cons hA
 obtain ⟨v1, vs1, d1, ds1, p1, q1, rfl, rfl, rfl, h1, r1⟩ := trodAll_cons r0
 obtain ⟨rfl, rfl, rfl⟩ := trodAll_nil r1
 obtain rfl : args = #[v0, v1] := by cases args; simp_all
 obtain ⟨rfl, rfl⟩ := trodVars_none hV
 have hsz' : (DataW.weightsEach Try.prog (Try.f8.params.toList ++ []) ([d0, d1] ++ [])).all (· ≤ reachBytes) = true := hsz
 rw [Try.params8] at hsz'
 have k0 := h0
 have lt0 : ∀ x ∈ p0, x.block < W.heap.size := by obtain ⟨m, hm⟩ := k0; exact DataW.trod_lt m _ _ _ hm
 have k1 := h1
 have lt1 : ∀ x ∈ p1, x.block < W.heap.size := by obtain ⟨m, hm⟩ := k1; exact DataW.trod_lt m _ _ _ hm
 obtain ⟨vp, ve, ps, s, rfl, hr⟩ := arg_stem (hval 0 25 v0 rfl rfl) h0 (weights_at hsz' (j := 0) rfl rfl)
 obtain ⟨v0, v1, v2, v3, xa, xb, xc, xd, rfl, ⟨sa, wa⟩, ⟨sb, wb⟩, ⟨sc, wc⟩, ⟨sd, wd⟩⟩ := arg_past (hval 1 55 v1 rfl rfl) h1 (weights_at hsz' (j := 1) rfl rfl)
 clear hA0 hval0
 refine (Ok.law (trueLaw_ok hr sa wa sb wb sc wc sd wd)).mono fun e W' ⟨he, bel⟩ => ?_
 subst he
 exact ⟨_, rfl, _, _, _, [], _, [], hW', trodAll_mk1 (shut_bool Try.underlying4 _), (trodAll_cons_mk (Below.trod laidOut (by kernel_rfl) (of_decide_eq_true (by kernel_rfl)) k0 bel lt0) (trodAll_cons_mk (Below.trod laidOut (by kernel_rfl) (of_decide_eq_true (by kernel_rfl)) k1 bel lt1) trodAll_mk0)), rfl, bel.frame _, fun h => by cases h⟩
theorem stemTrue : Rows.StemTrueSaid :=
 OpenClaim.holds_of_wide 8 Try.f8 rfl rfl rfl rfl rfl rfl rfl ⟨rfl, rfl, rfl, rfl, rfl⟩ rfl rfl rfl rfl rfl (by kernel_rfl) Try.func8 (by kernel_rfl)
   (of_decide_eq_true (by kernel_rfl)) (by unfold Func.isWrapper; first | (rw [if_pos (by decide +kernel)]; kernel_rfl) | (rw [if_neg (by decide +kernel)]; exact ⟨rfl, rfl⟩))
   (fun os started H enc _ => stemTrueLifted os started H enc)
#print axioms stemTrue
end Go.Proofs.Ytccogmkhijgelaa
