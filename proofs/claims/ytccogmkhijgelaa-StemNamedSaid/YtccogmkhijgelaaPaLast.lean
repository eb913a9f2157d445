/-
  StemNamed returns true of any stem, place and numbers, and leaves what it is handed as it was. No conditions.
-/
import Derived.Test.YtccogmkhijgelaaPad
import Derived.KernelRfl
namespace Go.Proofs.Ytccogmkhijgelaa
open Go.RowKit
theorem agg_128 : AggT Try.prog 128 3 := aggT_of (by kernel_rfl)
theorem bd_87 : Body Try.prog 87 := Bo (by kernel_rfl)
theorem el_64 : ElemT Try.prog 64 4 56 (.agg #[.string ⟨#[]⟩, .int .i64 0, .int .i64 0, .slice none 0 0]) := elemT_of (by kernel_rfl) rfl (by decide)
theorem sz_128 : SizeT Try.prog 128 3 := Cv (by kernel_rfl)
theorem sz_23 : SizeT Try.prog 23 1 := Cv (by kernel_rfl)
theorem sz_26 : SizeT Try.prog 26 1 := Cv (by kernel_rfl)
theorem src_eds {F : Heap} {v : Value} {ps : List (Value × Edn)} (h : Sl F v 4 edE ps) (hone : ∀ p ∈ ps, p.1.oneCell' = true) {H : List (Nat × Obj)} : Src ⟨F, H⟩ v ps.length (ps.flatMap edE) 4 := h.srcM edE_len fun p hp => edE_one (hone p hp)
theorem StmX.ones {F : Heap} {b kb : Nat} {vp ve : Value} {ps : List (Value × Edn)} {s : Stm} (hX : StmX F b vp ve (.map (some kb)) ps s) : ∀ u ∈ [vp, ve, .map (some kb)], u.oneCell' = true := by
 intro u hu
 simp only [List.mem_cons, List.not_mem_nil, or_false] at hu
 rcases hu with rfl | rfl | rfl
 · exact hX.r.places.plain.one
 · exact hX.r.eds.plain.one
 · rfl
set_option maxRecDepth 100000 in
theorem cloneEd_own {F : Heap} {v : Value} {ps : List (Value × Edn)} (h : Sl F v 4 edE ps) (hone : ∀ p ∈ ps, p.1.oneCell' = true) (hn : ps.length ≤ 1000) : OkN Try.prog 87 [v].toArray F fun u _F' Hn => Own 64 4 u ps.length (ps.flatMap edE) Hn := by
 obtain ⟨a0, c0, rfl, g1, g2, g3, g4⟩ := h.plain
 refine OkN.intro Try.func87 rfl Try.ntmps87 rfl fun w0 => ?_
 cases a0
 ·
  refine Af <| Ai fun ds => Aa rfl (Ae Ab) ?_
  refine Ah <| Ac <| Af <| Af <| Ai fun ds => Aa rfl (Ag (Am rfl <| Aj rfl)) ?_
  refine Aa rfl (q_eqlNil Try.underlying23 (Ad) Ab) ?_
  refine Ah <| Ac <| Aq (Ad) rfl ?_
  refine Af <| Ai fun ds => Aa rfl (Ae Ab) ?_
  refine Ah <| Ac <| A2 <| A9 ?_
  refine Eg rfl (.tmp (Ad) .nil) (List.nil_sublist _) ?_
  obtain ⟨h0, -⟩ := g2 rfl
  have : ps = [] := List.eq_nil_of_length_eq_zero h0
  subst this
  exact own_nil
 ·
  refine Af <| Ai fun ds => Aa rfl (Ae Ab) ?_
  refine Ah <| Ac <| Af <| Af <| Ai fun ds => Aa rfl (Ag (Am rfl <| Aj rfl)) ?_
  refine Aa rfl (q_eqlNil Try.underlying23 (Ad) Ab) ?_
  refine Ah <| Ac <| Ao (Ad) rfl ?_
  refine Ay <| Ac <| Af <| Ai fun ds => Bg rfl (x_build0 B1 fun b1 hb1 nb1 => ?_)
  refine Aa rfl (Ag (A1 rfl <| Aj rfl)) ?_
  refine Bg rfl (Cu B1 el_64 (Am rfl <| Ad) (own_box rfl) (Ad) (src_eds h hone) (by omega) (by omega) (.z) .box fun v2 R3 ho4 => ?_)
  have ho1 : Own 64 4 v2 ps.length (ps.flatMap edE) R3 := by simpa using ho4
  refine Aa rfl (Ae (Ad)) ?_
  refine Ah <| Ac <| A2 <| Eg rfl (.tmp (Ad) .nil) (List.sublist_append_left _ _) ?_
  exact ho1
def IntsR7 (F : Heap) (u : Value) (p : List Int × Int) : Prop := ∃ v, u = .tuple #[v, .int .i64 p.2] ∧ Ints F v p.1
theorem IntsR7.mono {F F' : Heap} {u : Value} {p : List Int × Int} (h : IntsR7 F u p) (hF : F.le F') : IntsR7 F' u p := by obtain ⟨v, h1, h2⟩ := h; exact ⟨v, h1, h2.mono hF⟩
set_option maxRecDepth 100000 in
theorem reading_top_ok {F : Heap} {vp ve : Value} {ps : List (Value × Edn)} {s : Stm} (hr : StmR F vp ve ps s) {v : Value} {l : List Int} (hl : Ints F v l) (z q : Int) : Ok Try.prog 35 [.agg #[vp, ve], v, .int .i64 z, .int .i64 q].toArray F fun u F' => IntsR7 F' u (readE s l z q) := by
 have hle0 : F.le F := Heap.le_refl _
 refine Ok.intro Try.func35 rfl Try.ntmps35 rfl fun w0 => ?_
 have hL := hl.plain.lt
 have hlen := hr.len
 have hL1 := hr.eds.plain.lt
 have hL2 := hr.places.plain.lt
 by_cases hok : treeErr s l = 0
 ·
  obtain ⟨hv, hll, ht⟩ := tree_ok hok
  have hne := hv.ne
  have hnp := hv.np
  have hl5 : l.length ≤ 5 := by omega
  have hcv := changes_costV (s := s) ht hv hll
  have hcb := costL_bound (s := s) (l := l)
  refine Af <| Ai fun ds => Bg rfl (B2 (Aj rfl) rfl fun b1 hb1 nb1 => ?_)
  refine Aa rfl (Ae Ab) ?_
  refine Aa rfl (Ae Ab) ?_
  refine Ah <| Ac <| Af <| Ai fun ds => Aa rfl (A7 B4 (Ar rfl <| Ad) rfl rfl (A5 0 rfl)) ?_
  refine Aa rfl (Ag (A1 rfl <| Aj rfl)) ?_
  refine Bg rfl (Dl bd_68 Az (.cons (Am rfl <| Ad) (.cons (Ad) .nil)) (enter_ok hr hl hok) fun v2 F3 R6 hr4 hF5 => ?_)
  replace hr := hr.mono hF5
  replace hle0 := Heap.le_trans hle0 hF5
  obtain ⟨ba, kb, rfl, hX, rfl⟩ := hr4
  refine Aa rfl (Ag (Ad)) ?_
  refine Aa rfl (Aw (Ad) rfl) ?_
  refine Aa rfl (Aw (Am rfl <| Ad) rfl) ?_
  refine Aa rfl (Aw (Ar rfl <| Ad) rfl) ?_
  refine Bg rfl (B6 Dy rfl fun b7 hb7 nb7 => ?_)
  refine Aa rfl (Ae (Ar rfl <| Am rfl <| Ad)) ?_
  refine Ce (B8 D9 (Am rfl <| Ad) (Ar rfl <| Am rfl <| Ad) (i := 0) rfl rfl rfl rfl C7 (.here) ?_)
  refine Aa rfl (Ae (Ar rfl <| Ad)) ?_
  refine Ah <| Ac <| Af <| A0 <| Af <| Cd (i := 1) rfl hb1 (.next <| .here) fun F8 hF9 hz4 => ?_
  replace hr := hr.mono hF9
  replace hle0 := Heap.le_trans hle0 hF9
  replace hX := hX.mono hF9
  refine Cd (i := 0) rfl hb7 (.here) fun F10 hF11 hz11 => ?_
  replace hr := hr.mono hF11
  replace hle0 := Heap.le_trans hle0 hF11
  replace hX := hX.mono hF11
  replace hz4 := hF11 _ _ hz4
  refine Ai fun ds => Aa rfl (Ag (Ad)) ?_
  refine Aa rfl (B3 (Ad) Ab) ?_
  refine Aa rfl (Ae (Ad)) ?_
  refine Ah <| Ac <| Ao (Ad) (by decide) ?_
  by_cases h1 : inB 0 (s.editions.length - 1) z = true
  ·
   refine Af <| Ai fun ds => Aa rfl (Ak Bq (A6 rfl <| A1 rfl <| Ar rfl <| Am rfl <| Ad)) ?_
   refine Aa rfl (Ap Bw (Ad) (CellF.own hz4 rfl).cell) ?_
   refine Aa rfl (Bl B1 (Ad) hr.eds.plain) ?_
   refine Aa rfl (q_sub (Ad) Ab rfl (by omega) (by omega)) ?_
   refine Aa rfl (Ag (A3 rfl <| A1 rfl <| Aj rfl)) ?_
   refine Bg rfl (B9 Bn Db rfl (.cons (Ad) .nil) rfl rfl (by decide) (by simp [Value.oneCell']) fun b12 hb12 nb12 => ?_)
   refine B5 (i := 0) rfl hb12 .here fun F13 hF14 hz15 => ?_
   replace hr := hr.mono hF14
   replace hle0 := Heap.le_trans hle0 hF14
   replace hX := hX.mono hF14
   replace hz4 := hF14 _ _ hz4
   replace hz11 := hF14 _ _ hz11
   have hsl16 := Cy hz15
   refine By rfl (Bb D3 Az (.cons Ab (.cons (Ar rfl <| Ad) (.cons (Ad) .nil))) (Ch _ _ hsl16) (fun _ _ h => h)) ?_
   refine Aa rfl (Ag (Ad)) ?_
   refine As rfl rfl (Ad) (by simp [hlen, h1]) ?_
   refine Aa rfl (Ak Cr (A3 rfl <| A1 rfl <| Ar rfl <| Am rfl <| Ad)) ?_
   refine As rfl rfl (Am rfl <| Ad) (by simp [hlen, h1]) ?_
   refine Aa rfl (Ap C0 (Ad) (CellF.own hz4 rfl).cell) ?_
   refine As rfl rfl (Ar rfl <| Ad) (by simp [hlen, h1]) ?_
   refine Aa rfl (Bl C5 (Ad) hr.places.plain) ?_
   refine As rfl rfl (Ar rfl <| Am rfl <| Ad) (by simp [hlen, h1]) ?_
   refine Aa rfl (q_sub (Ad) Ab rfl (by omega) (by omega)) ?_
   refine As rfl rfl (A1 rfl <| Ad) (by simp [hlen, h1]) ?_
   refine Aa rfl (Ag (A3 rfl <| A6 rfl <| A1 rfl <| Aj rfl)) ?_
   refine As rfl rfl (A1 rfl <| Am rfl <| Ad) (by simp [hlen, h1]) ?_
   refine Bg rfl (B9 Bn Db rfl (.cons (Ad) .nil) rfl rfl (by decide) (by simp [Value.oneCell']) fun b17 hb17 nb17 => ?_)
   refine B5 (i := 0) rfl hb17 .here fun F18 hF19 hz20 => ?_
   replace hr := hr.mono hF19
   replace hle0 := Heap.le_trans hle0 hF19
   replace hX := hX.mono hF19
   replace hz4 := hF19 _ _ hz4
   replace hz11 := hF19 _ _ hz11
   have hsl21 := Cy hz20
   refine As rfl rfl (A1 rfl <| Ar rfl <| Ad) (by simp [hlen, h1]) ?_
   refine By rfl (Bb D3 Az (.cons Ab (.cons (Ar rfl <| Ad) (.cons (Ad) .nil))) (Ch _ _ hsl21) (fun _ _ h => h)) ?_
   refine Aa rfl (Bc (A1 rfl <| Ar rfl <| Am rfl <| Ad) (by simp [hlen, h1]) (Ad)) ?_
   refine Aa rfl (Ae (Ad)) ?_
   refine Ah <| Ac ?_
   by_cases h2 : inB 0 (s.places.length - 1) q = true
   ·
    have h12 : (inB 0 (s.editions.length - 1) z && inB 0 (s.places.length - 1) q) = true := by rw [h1, h2]; rfl
    obtain ⟨x, rfl, hx⟩ := inB_nat h1
    obtain ⟨p, rfl, hp⟩ := inB_nat h2
    have hxp : x < ps.length := by omega
    have hrx := hr.rd hxp
    have hpx : p < (s.ed x).rd.length := by rw [hv.rdl x hx]; exact hp
    have er := rdT_at hpx
    have hrdl := hv.rdl x hx
    have hrb9 := hv.rd x p hx hp
    have e1 := hr.at hxp
    refine Ao (Ad) (by simp [h2]) ?_
    by_cases hc : costL s l = 1000
    ·
     refine Af <| Ai fun ds => Aa rfl (Ag (A3 rfl <| A1 rfl <| Am rfl <| Ad)) ?_
     refine Aa rfl (A7 B0 (A3 rfl <| A1 rfl <| Ar rfl <| Am rfl <| Ad) rfl rfl (Ct hz11)) ?_
     refine WL_order (.cons (.here) <| .nil) ?_
     refine Bg rfl (x_callM bd_69 Az (.cons (Am rfl <| Ad) (.cons (Ad) .nil)) rfl (changes_ok hX ht hll hv KnownT.nil) fun v26 F27 H30 hr28 hF29 => ?_)
     obtain ⟨es2, rfl, rfl, hK2⟩ := hr28
     refine Aa rfl (Bz (Ad) Ab) ?_
     refine Aa rfl (Ae (Ad)) ?_
     refine Ah <| Ac <| Aq (Ad) (by rw [hcv]; unfold costV; rw [if_pos hc]; rfl) ?_
     refine Af <| Ai fun ds => Aa rfl (Ae Ab) ?_
     refine Aa rfl (Ae Ab) ?_
     refine Ah <| Ac <| A2 <| Bh (A9 ?_)
     refine Au rfl (.tmp (Am rfl <| Ad) (.tmp (Ad) .nil)) ?_
     rw [readE_bad (readErr_3 hok h12 hc) (by decide)]
     exact ⟨_, rfl, Sl.nil⟩
    ·
     have hre := readErr_0 hok h12 hc
     refine Af <| Ai fun ds => Aa rfl (Ag (A3 rfl <| A1 rfl <| Am rfl <| Ad)) ?_
     refine Aa rfl (A7 B0 (A3 rfl <| A1 rfl <| Ar rfl <| Am rfl <| Ad) rfl rfl (Ct hz11)) ?_
     refine WL_order (.cons (.here) <| .nil) ?_
     refine Bg rfl (x_callM bd_69 Az (.cons (Am rfl <| Ad) (.cons (Ad) .nil)) rfl (changes_ok hX ht hll hv KnownT.nil) fun v35 F36 H39 hr37 hF38 => ?_)
     replace hr := hr.mono hF38
     replace hle0 := Heap.le_trans hle0 hF38
     replace hX := hX.mono hF38
     replace hrx := hrx.mono hF38
     replace hz4 := hF38 _ _ hz4
     replace hz11 := hF38 _ _ hz11
     obtain ⟨es2, rfl, rfl, hK2⟩ := hr37
     refine Aa rfl (Bz (Ad) Ab) ?_
     refine Aa rfl (Ae (Ad)) ?_
     refine Ah <| Ac <| Ao (Ad) (by rw [hcv]; unfold costV; rw [if_neg hc]; exact decide_eq_false (by omega)) ?_
     refine Ay <| Ba <| Ac <| Af <| Ai fun ds => Aa rfl (Ag (A3 rfl <| A6 rfl <| Ar rfl <| Ad)) ?_
     refine Aa rfl (A7 B0 (A3 rfl <| A6 rfl <| A1 rfl <| Ad) rfl rfl (Ct hz11)) ?_
     refine Aa rfl (Ag (Bk rfl <| A6 rfl <| Aj rfl)) ?_
     refine By rfl (Bb bd_82 Az (.cons (Ar rfl <| Ad) (.cons (Am rfl <| Ad) (.cons (Ad) .nil))) (Dv hX ht hll hv hp) (fun _ _ h => h)) ?_
     refine Aa rfl (Ae (Ad)) ?_
     refine Ah <| Ac <| Af <| Ai fun ds => Aa rfl (Ak Bq (Bk rfl <| A6 rfl <| Ar rfl <| Ad)) ?_
     refine Aa rfl (Ap Bw (Ad) (CellF.own hz4 rfl).cell) ?_
     refine Aa rfl (Ag (Bk rfl <| A6 rfl <| A1 rfl <| Am rfl <| Aj rfl)) ?_
     refine Aa rfl (Be (k := x) B1 (Am rfl <| Ad) hr.eds.plain (Ad) rfl hxp) ?_
     refine Aa rfl (Br Ca (Ad)) ?_
     refine Aa rfl (Ap Cf (Ad) (hr.eds.cell hxp rfl)) ?_
     refine Aa rfl (Ag (Bk rfl <| A3 rfl <| Am rfl <| Aj rfl)) ?_
     refine Aa rfl (Be (k := p) Bn (Am rfl <| Ad) hrx.plain (Ad) rfl hpx) ?_
     refine Aa rfl (Ap Bj (Ad) (hrx.cell1 hpx rfl)) ?_
     refine Aa rfl (Ae (Ad)) ?_
     refine Ah <| Ac <| Af <| Af <| Ai fun ds => Aa rfl (Ag Ab) ?_
     refine Ah <| Ac <| A0 <| Bt [8, 14, 15, 62, 63, 64, 65, 66, 67, 68, 69, 70, 71, 72, 73, 74, 75, 76, 77, 78, 79, 80, 81, 82, 83, 84, 85, 86, 87, 88, 89, 90, 91, 92, 93, 94, 95, 96, 97, 98, 99, 100, 101, 102, 103, 104, 105, 106, 107, 108, 109, 110, 111, 112, 113, 114, 115, 116, 117, 118, 119, 120, 121] (fun m e σ => ∃ G, F36.le G ∧ ∃ k : Nat, m + k = 3 ∧ e 62 = .int .i64 (k : Int) ∧ ∃ v8 R8, e 8 = v8 ∧ Own 3 1 v8 (readTo s l x p k).length ((readTo s l x p k).flatMap intE) R8 ∧ σ = ⟨G, (kb, mapO es2) :: R8⟩) (3) ?_ ?_
     · exact ⟨_, Heap.le_refl _, 0, by omega, (Ad), _, _, (Bk rfl <| A3 rfl <| A1 rfl <| Ad), Own.nil, rfl⟩
     ·
      rintro m e _ ⟨G, hFG, k, hm, hs62, v8, R8, hs8, ho, rfl⟩; have hrl := readTo_len (s := s) (l := l) (x := x) (p := p) (k := k); replace hr := hr.mono hFG; replace hX := hX.mono hFG; replace hrx := hrx.mono hFG; replace hz4 := hFG _ _ hz4; replace hz11 := hFG _ _ hz11; have hle0 := Heap.le_trans hle0 hFG
      by_cases hlt : k < 3
      ·
       refine Af <| Ai fun ds => Aa rfl (Bv (At rfl hs62) Ab) ?_
       refine Ah <| Ac <| Af <| Aq (Ad) (by first | rfl | exact decide_eq_true (by omega)) ?_
       by_cases hk0 : 0 < s.r x p
       ·
        refine Ay <| Ac <| Af <| A0 <| Af <| Ai fun ds => Aa rfl (Ag (Am rfl <| At rfl hs62)) ?_
        refine Aa rfl (Ae (Ad)) ?_
        refine Ah <| Ac <| Af <| Af <| Ai fun ds => Aa rfl (Ag (Ar rfl <| Am rfl <| Al rfl <| Am rfl <| Ad)) ?_
        refine Aa rfl (De (Ad) Ab) ?_
        refine Aa rfl (Ag (Ad)) ?_
        refine As rfl rfl (Ad) (by rw [er]; exact decide_eq_true hk0) ?_
        refine Aa rfl (Ag (A1 rfl <| Ar rfl <| Al rfl <| Am rfl <| Ad)) ?_
        refine As rfl rfl (Am rfl <| Ad) (by rw [er]; exact decide_eq_true hk0) ?_
        refine Aa rfl (Ag (A1 rfl <| Ad)) ?_
        refine As rfl rfl (Ar rfl <| Ad) (by rw [er]; exact decide_eq_true hk0) ?_
        refine Aa rfl (Bu (Ad) Ab rfl (by omega) (by omega)) ?_
        refine As rfl rfl (Ar rfl <| Am rfl <| Ad) (by rw [er]; exact decide_eq_true hk0) ?_
        refine Aa rfl (B3 (Ar rfl <| Ad) (Ad)) ?_
        refine Aa rfl (A4 (A1 rfl <| Ad) (by rw [er]; exact decide_eq_true hk0) (Ad)) ?_
        refine Ah <| Ac ?_
        by_cases hke : s.r x p = (k : Int) + 1
        ·
         have hkn : (decide (s.r x p = 0) || decide (s.r x p = (k : Int) + 1)) = true := by rw [decide_eq_true hke]; simp
         refine Ao (Ad) (by rw [er]; exact decide_eq_false (fun h => h hke)) ?_
         have hvm := setS_valid (v := (k : Int) + 1) hv hx hp (by omega)
         refine Ay <| Ac <| Af <| Ai fun ds => Aa rfl (Ag (A6 rfl <| Ar rfl <| Am rfl <| Al rfl <| Bk rfl <| A6 rfl <| Ar rfl <| Ad)) ?_
         refine Aa rfl (Bx (Ad)) ?_
         refine Aa rfl (A7 agg_128 (Ad) rfl rfl (Ct hX.blk)) ?_
         refine Bg rfl (B6 zr_128 rfl fun b41 hb41 nb41 => ?_)
         refine Ce (B8 sz_128 (Ad) (Am rfl <| Ad) (i := 0) rfl rfl rfl rfl hX.ones (.here) ?_)
         refine Ah <| Ac <| Af <| Ai fun ds => Aa rfl (Ag (A6 rfl <| A1 rfl <| Ar rfl <| Am rfl <| Al rfl <| Bk rfl <| A6 rfl <| Ar rfl <| Ad)) ?_
         refine Aa rfl (Bx (Ad)) ?_
         refine Aa rfl (Ak Cb (Ad)) ?_
         refine Aa rfl (Ak Bq (Ad)) ?_
         refine Aa rfl (Ap Bw (Ad) (CellF.own hX.blk rfl).cell) ?_
         refine Bg rfl (x_callNf bd_87 Az (.cons (Ad) .nil) (cloneEd_own hX.r.eds hX.r.one (by omega)) fun v42 F43 R46 hr44 hF45 => ?_)
         replace hX := hX.mono hF45
         replace hrx := hrx.mono hF45
         replace hFG := Heap.le_trans hFG hF45
         replace hle0 := Heap.le_trans hle0 hF45
         replace hz11 := hF45 _ _ hz11
         have hoE := hr44
         refine Aa rfl (Ak Cb (A1 rfl <| Ar rfl <| Ad)) ?_
         refine Aa rfl (Ak Bq (Ad)) ?_
         refine WL_orderB (.one (.skip <| .here) <| .one (.skip <| .here) <| .blk (.lastS) <| .lastb (.last)) ?_
         refine Ce (Cg sz_23 (Ad) (Ar rfl <| Ad) (i := 0) rfl (.next <| .here) (Own.one hoE) (.here) ?_)
         refine Ah <| Ac <| Af ?_
         have hleS := hle0
         refine C1 (.inl rfl) (fun _ _ h => h) (.cons_cons _ <| .cons_cons _ <| .refl _) [16] (by kernel_rfl) fun ds => ?_
         refine A8 0 rfl (by kernel_rfl) (by kernel_rfl) (by kernel_rfl) (by kernel_rfl) rfl rfl (fun _ h => h.drop (.cons_cons _ <| .cons_cons _ <| .refl _)) (fun _ _ _ h => h) (Ak Cb (A6 rfl <| Ad)) ?_
         refine A8 1 rfl (by kernel_rfl) (by kernel_rfl) (by kernel_rfl) (by kernel_rfl) rfl rfl (fun _ h => h.drop (.cons_cons _ <| .cons_cons _ <| .refl _)) (fun _ _ _ h => h) (Ak Bq (Ad)) ?_
         refine A8 2 rfl (by kernel_rfl) (by kernel_rfl) (by kernel_rfl) (by kernel_rfl) rfl rfl (fun _ h => h.drop (.cons_cons _ <| .cons_cons _ <| .refl _)) (fun _ _ _ h => h) (Ap Bw (Ad) (Cell.own 0 rfl rfl)) ?_
         refine A8 3 rfl (by kernel_rfl) (by kernel_rfl) (by kernel_rfl) (by kernel_rfl) rfl rfl (fun _ h => h.drop (.cons_cons _ <| .cons_cons _ <| .refl _)) (fun _ _ _ h => h) (Ag (A3 rfl <| A6 rfl <| Ar rfl <| Al rfl <| Bk rfl <| A3 rfl <| A1 rfl <| Ar rfl <| Aj rfl)) ?_
         refine A8 4 rfl (by kernel_rfl) (by kernel_rfl) (by kernel_rfl) (by kernel_rfl) rfl rfl (fun _ h => h.drop (.cons_cons _ <| .cons_cons _ <| .refl _)) (fun _ _ _ h => h) (Ag (A3 rfl <| A6 rfl <| Ar rfl <| Am rfl <| Al rfl <| Bk rfl <| A6 rfl <| Ar rfl <| Ad)) ?_
         refine A8 5 rfl (by kernel_rfl) (by kernel_rfl) (by kernel_rfl) (by kernel_rfl) rfl rfl (fun _ h => h.drop (.cons_cons _ <| .cons_cons _ <| .refl _)) (fun _ _ _ h => h) (Bx (Ad)) ?_
         refine A8 6 rfl (by kernel_rfl) (by kernel_rfl) (by kernel_rfl) (by kernel_rfl) rfl rfl (fun _ h => h.drop (.cons_cons _ <| .cons_cons _ <| .refl _)) (fun _ _ _ h => h) (Ak Cb (Ad)) ?_
         refine A8 7 rfl (by kernel_rfl) (by kernel_rfl) (by kernel_rfl) (by kernel_rfl) rfl rfl (fun _ h => h.drop (.cons_cons _ <| .cons_cons _ <| .refl _)) (fun _ _ _ h => h) (Ak Bq (Ad)) ?_
         refine A8 8 rfl (by kernel_rfl) (by kernel_rfl) (by kernel_rfl) (by kernel_rfl) rfl rfl (fun _ h => h.drop (.cons_cons _ <| .cons_cons _ <| .refl _)) (fun _ _ _ h => h) (Ap Bw (Ad) (CellF.own hX.blk rfl).cell) ?_
         refine A8 9 rfl (by kernel_rfl) (by kernel_rfl) (by kernel_rfl) (by kernel_rfl) rfl rfl (fun _ h => h.drop (.cons_cons _ <| .cons_cons _ <| .refl _)) (fun _ _ _ h => h) (Ag (Bk rfl <| Al rfl <| Bk rfl <| A3 rfl <| A1 rfl <| Ar rfl <| Aj rfl)) ?_
         refine A8 10 rfl (by kernel_rfl) (by kernel_rfl) (by kernel_rfl) (by kernel_rfl) rfl rfl (fun _ h => h.drop (.cons_cons _ <| .cons_cons _ <| .refl _)) (fun _ _ _ h => h) (Be (k := x) B1 (Am rfl <| Ad) hX.r.eds.plain (Ad) rfl hxp) ?_
         refine A8 11 rfl (by kernel_rfl) (by kernel_rfl) (by kernel_rfl) (by kernel_rfl) rfl rfl (fun _ h => h.drop (.cons_cons _ <| .cons_cons _ <| .refl _)) (fun _ _ _ h => h) (Br Ca (Ad)) ?_
         refine A8 12 rfl (by kernel_rfl) (by kernel_rfl) (by kernel_rfl) (by kernel_rfl) rfl rfl (fun _ h => h.drop (.cons_cons _ <| .cons_cons _ <| .refl _)) (fun _ _ _ h => h) (Ap Cf (Ad) (hX.r.eds.cell hxp rfl)) ?_
         refine WX_x 13 rfl (by kernel_rfl) rfl (x_callNf bd_76 Az (.cons (Ad) .nil) (cloneInt_own hrx (by omega)) fun v47 F48 R51 hr49 hF50 => ⟨fun _ _ _ h => (h.drop (List.sublist_append_of_sublist_right <| .cons_cons _ <| .cons_cons _ <| .refl _)).weak hF50 hleS, ?_⟩)
         replace hX := hX.mono hF50
         replace hFG := Heap.le_trans hFG hF50
         replace hz11 := hF50 _ _ hz11
         have hoR := hr49
         refine A8 14 rfl (by kernel_rfl) (by kernel_rfl) (by kernel_rfl) (by kernel_rfl) rfl rfl (fun _ h => (h.drop (List.sublist_append_of_sublist_right <| .cons_cons _ <| .cons_cons _ <| .refl _)).weak hF50 hleS) (fun _ _ _ h => h) (Be (k := x) B1 (A6 rfl <| Ar rfl <| Am rfl <| Ad) (hoE.plain (by omega)) (A6 rfl <| Ar rfl <| Ad) rfl hxp) ?_
         refine A8 15 rfl (by kernel_rfl) (by kernel_rfl) (by kernel_rfl) (by kernel_rfl) rfl rfl (fun _ h => (h.drop (List.sublist_append_of_sublist_right <| .cons_cons _ <| .cons_cons _ <| .refl _)).weak hF50 hleS) (fun _ _ _ h => h) (Br Ca (Ad)) ?_
         refine WX_orderB (.one (.skip <| .here) <| .one (.skip <| .here) <| .blk (.skip <| .here) <| .blk (.lastS) <| .lastb (.last)) ?_
         refine WX_x0 16 rfl (by kernel_rfl) (x_storeR sz_26 (Ad) (Ar rfl <| Ad) hoE (by rw [D1 edE_len]; omega) (Own.one hoR) (.s <| .s <| .k <| .z) .more fun R52 ho53 => ⟨(fun h => nomatch h), ?_⟩)
         have hoE2 := ed_own_set (e := (s.ed x).setR p ((k : Int) + 1)) ho53 hxp (by rw [e1]; rfl) (by rw [e1]; rfl) (by rw [e1]; rfl)
         refine C6 (by kernel_rfl) ?_ _
         refine Ac <| Af <| Ai fun ds => Aa rfl (Ak Cb (A3 rfl <| A6 rfl <| Ad)) ?_
         refine Aa rfl (Ak Bq (Ad)) ?_
         refine Aa rfl (Ap Bw (Ad) (Cell.own 0 rfl rfl)) ?_
         refine Aa rfl (Ag (Bk rfl <| A6 rfl <| Ar rfl <| Al rfl <| Bk rfl <| A3 rfl <| A1 rfl <| Ar rfl <| Aj rfl)) ?_
         refine Aa rfl (Be (k := x) B1 (Am rfl <| Ad) (hoE2.plain (by rw [List.length_set]; omega)) (Ad) rfl (by simp; omega)) ?_
         refine Aa rfl (Br Ca (Ad)) ?_
         refine Aa rfl (Ap Cf (Ad) (own_cell hoE2 (fun p hp => .tail _ (.tail _ (List.mem_append_right _ (List.mem_append_left _ hp)))) (ed_set_get hxp))) ?_
         refine Aa rfl (Ag (Bk rfl <| A6 rfl <| A1 rfl <| Ar rfl <| Al rfl <| Bk rfl <| A3 rfl <| A1 rfl <| Ar rfl <| Aj rfl)) ?_
         refine Aa rfl (Ag (Bk rfl <| A6 rfl <| A1 rfl <| Ad)) ?_
         refine Aa rfl (Bu (Ad) Ab rfl (by omega) (by omega)) ?_
         refine Aa rfl (Be (k := p) Bn (Ar rfl <| Am rfl <| Ad) (hoR.plain (by omega)) (Ar rfl <| Ad) rfl hpx) ?_
         refine Ce (x_storeR sz_3 (Ad) (Am rfl <| Ad) hoR (by rw [D1 (enc := intE) (s := 1) (fun _ => rfl)]; omega) rfl (.s <| .s <| .k <| .k <| .z) .last fun R54 ho55 => ?_)
         have hoR2 := ho55
         rw [show p * 1 = p * 1 + 0 from rfl, int_flat_set hpx] at hoR2
         replace hoR2 := hoR2.to (k' := ((s.ed x).rd.set p ((k : Int) + 1)).length) (by simp)
         refine Ah <| Ac <| Af <| Cw (σ := ⟨_, _⟩) (by rfl) hoR2 (.s <| .s <| .k <| .k <| .z) .last fun F56 hF57 hz58 => ?_
         replace hX := hX.mono hF57
         replace hFG := Heap.le_trans hFG hF57
         replace hz11 := hF57 _ _ hz11
         refine WC_pickB (.one (.here) <| .one (.here) <| .blk (.here) <| .lastb (.here)) ?_
         have hrn := hoR2.sl (fun _ => rfl) hz58 (by simp; omega)
         refine Cw (σ := ⟨_, _⟩) (by rfl) hoE2 (.s <| .s <| .k <| .z) .last fun F59 hF60 hz61 => ?_
         replace hX := hX.mono hF60
         replace hFG := Heap.le_trans hFG hF60
         replace hrn := hrn.mono hF60
         replace hz11 := hF60 _ _ hz11
         refine WC_pickB (.one (.here) <| .one (.here) <| .lastb (.here)) ?_
         have hen := hoE2.sl (fun _ => rfl) hz61 (by simp; omega)
         refine Cd (i := 0) rfl hb41 (.here) fun F62 hF63 hz15 => ?_
         replace hX := hX.mono hF63
         replace hFG := Heap.le_trans hFG hF63
         replace hrn := hrn.mono hF63
         replace hen := hen.mono hF63
         replace hz11 := hF63 _ _ hz11
         have hXm : StmX _ _ _ _ _ _ (setS s x p ((k : Int) + 1)) := ⟨hX.r.set hen hrn, hz15⟩
         by_cases hpl : decide (placeN (setS s x p ((k : Int) + 1)) l p = placeN s l p) = true
         ·
          have hrb : readB s l x p k = true := by unfold readB; rw [hkn, hpl]; rfl
          refine Ai fun ds => Aa rfl (A7 B0 (Bk rfl <| A3 rfl <| Ar rfl <| Al rfl <| Bk rfl <| A6 rfl <| Ar rfl <| Am rfl <| Ad) rfl rfl (Ct hz11)) ?_
          refine Aa rfl (Ag (Bk rfl <| A3 rfl <| Ar rfl <| Am rfl <| Al rfl <| Bk rfl <| A3 rfl <| A1 rfl <| Ar rfl <| Aj rfl)) ?_
          refine By rfl (Bb bd_82 Az (.cons (Bk rfl <| A1 rfl <| Am rfl <| Ad) (.cons (Am rfl <| Ad) (.cons (Ad) .nil))) (Dv hXm ht (by rw [Dz]; exact hll) hvm hp) (fun _ _ h => h)) ?_
          refine Aa rfl (Ag (Bk rfl <| A3 rfl <| A1 rfl <| Am rfl <| Al rfl <| A6 rfl <| Ar rfl <| Am rfl <| Ad)) ?_
          refine Aa rfl (Bz (Am rfl <| Ad) (Ad)) ?_
          refine Ah <| Ac <| Aq (Ad) hpl ?_
          refine Ai fun ds => Aa rfl (Ag (Bk rfl <| A3 rfl <| A1 rfl <| Ar rfl <| Am rfl <| At rfl hs8)) ?_
          refine Aa rfl (Ag (Bk rfl <| A3 rfl <| A1 rfl <| Am rfl <| Ad)) ?_
          refine Aa rfl (Bu (Ad) Ab rfl (by omega) (by omega)) ?_
          refine Bg rfl (B9 Bn Db rfl (.cons (Ad) .nil) rfl rfl (by decide) (by simp [Value.oneCell']) fun b64 hb64 nb64 => ?_)
          refine B5 (i := 0) rfl hb64 .here fun F65 hF66 hz67 => ?_
          replace hFG := Heap.le_trans hFG hF66
          have hsl68 := Cy hz67
          refine Bg rfl (Cu Bn el_3 (Ar rfl <| Am rfl <| Ad) ho (Ad) hsl68.srcInt (by simp only [List.length_singleton]; omega) (by simp only [List.length_singleton]; omega) (.s <| .z) .last fun v69 R70 ho71 => ?_)
          have ho2 := ho71.snoc (x := (k : Int) + 1) rfl rfl
          refine Aa rfl (Ae (Ad)) ?_
          refine Ah <| Ba <| Ac <| Ai fun ds => Aa rfl (Bu (Bk rfl <| A3 rfl <| A6 rfl <| A1 rfl <| Am rfl <| At rfl hs62) Ab rfl (by omega) (by omega)) ?_
          refine Aa rfl (Ag (Ad)) ?_
          refine Ah <| Ac ⟨_, m - 1, Off.eq (ou32 rfl <| C9 rfl <| D0 rfl <| ou4 rfl <| ou2 rfl <| Ei rfl <| Bf), by omega, ?_⟩
          exact ⟨_, hFG, k + 1, by omega, (Ad), _, _, (Ar rfl <| Ad), by rw [readTo_succ, if_pos hrb]; exact ho2, rfl⟩
         ·
          replace hpl : decide (placeN (setS s x p ((k : Int) + 1)) l p = placeN s l p) = false := by simpa using hpl
          have hrb : readB s l x p k = false := by unfold readB; rw [hpl]; simp
          refine Ai fun ds => Aa rfl (A7 B0 (Bk rfl <| A3 rfl <| Ar rfl <| Al rfl <| Bk rfl <| A6 rfl <| Ar rfl <| Am rfl <| Ad) rfl rfl (Ct hz11)) ?_
          refine Aa rfl (Ag (Bk rfl <| A3 rfl <| Ar rfl <| Am rfl <| Al rfl <| Bk rfl <| A3 rfl <| A1 rfl <| Ar rfl <| Aj rfl)) ?_
          refine By rfl (Bb bd_82 Az (.cons (Bk rfl <| A1 rfl <| Am rfl <| Ad) (.cons (Am rfl <| Ad) (.cons (Ad) .nil))) (Dv hXm ht (by rw [Dz]; exact hll) hvm hp) (fun _ _ h => h)) ?_
          refine Aa rfl (Ag (Bk rfl <| A3 rfl <| A1 rfl <| Am rfl <| Al rfl <| A6 rfl <| Ar rfl <| Am rfl <| Ad)) ?_
          refine Aa rfl (Bz (Am rfl <| Ad) (Ad)) ?_
          refine Ah <| Ac <| Ao (Ad) hpl ?_
          refine Ay <| Ba <| Ac <| Ai fun ds => Aa rfl (Bu (Bk rfl <| A3 rfl <| A1 rfl <| Ar rfl <| Am rfl <| At rfl hs62) Ab rfl (by omega) (by omega)) ?_
          refine Aa rfl (Ag (Ad)) ?_
          refine Ah <| Ac ⟨_, m - 1, Off.eq (ou32 rfl <| C9 rfl <| D0 rfl <| Ei rfl <| Bf), by omega, ?_⟩
          exact ⟨_, hFG, k + 1, by omega, (Ad), _, _, (Bk rfl <| A3 rfl <| A6 rfl <| Am rfl <| At rfl hs8), by rw [readTo_succ, if_neg (by rw [hrb]; simp)]; exact ho, rfl⟩
        ·
         have hrb : readB s l x p k = false := by unfold readB; rw [decide_eq_false (show ¬ s.r x p = 0 by omega), decide_eq_false (show ¬ s.r x p = (k : Int) + 1 by omega)]; rfl
         refine Aq (Ad) (by rw [er]; exact decide_eq_true hke) ?_
         refine Bs ?_
         refine Bd (Bi ?_)
         refine Ac <| Ai fun ds => Aa rfl (Bu (A6 rfl <| Ar rfl <| Am rfl <| At rfl hs62) Ab rfl (by omega) (by omega)) ?_
         refine Aa rfl (Ag (Ad)) ?_
         refine Ah <| Ac ⟨_, m - 1, Off.eq (D0 rfl <| ou4 rfl <| Ei rfl <| Bf), by omega, ?_⟩
         exact ⟨_, hFG, k + 1, by omega, (Ad), _, _, (A6 rfl <| A1 rfl <| Am rfl <| At rfl hs8), by rw [readTo_succ, if_neg (by rw [hrb]; simp)]; exact ho, rfl⟩
       ·
        have hkn : (decide (s.r x p = 0) || decide (s.r x p = (k : Int) + 1)) = true := by rw [decide_eq_true (show s.r x p = 0 by omega)]; rfl
        refine Ay <| Ac <| Af <| A0 <| Af <| Ai fun ds => Aa rfl (Ag (Am rfl <| At rfl hs62)) ?_
        refine Aa rfl (Ae (Ad)) ?_
        refine Ah <| Ac <| Af <| Af <| Ai fun ds => Aa rfl (Ag (Ar rfl <| Am rfl <| Al rfl <| Am rfl <| Ad)) ?_
        refine Aa rfl (De (Ad) Ab) ?_
        refine Aa rfl (Ag (Ad)) ?_
        refine Ax rfl rfl (Ad) (.inl (congrArg Value.bool (by rw [er]; exact decide_eq_false hk0))) rfl ?_
        refine Ax rfl rfl (Am rfl <| Ad) (.inl (congrArg Value.bool (by rw [er]; exact decide_eq_false hk0))) rfl ?_
        refine Ax rfl rfl (Ar rfl <| Ad) (.inl (congrArg Value.bool (by rw [er]; exact decide_eq_false hk0))) rfl ?_
        refine Ax rfl rfl (Ar rfl <| Am rfl <| Ad) (.inl (congrArg Value.bool (by rw [er]; exact decide_eq_false hk0))) rfl ?_
        refine Aa rfl (Bc (A1 rfl <| Ad) (by rw [er]; exact decide_eq_false hk0) Ab) ?_
        refine Ah <| Ac <| Ao (Ad) rfl ?_
        have hvm := setS_valid (v := (k : Int) + 1) hv hx hp (by omega)
        refine Ay <| Ac <| Af <| Ai fun ds => Aa rfl (Ag (A6 rfl <| Ar rfl <| Am rfl <| Al rfl <| Bk rfl <| A6 rfl <| Ar rfl <| Ad)) ?_
        refine Aa rfl (Bx (Ad)) ?_
        refine Aa rfl (A7 agg_128 (Ad) rfl rfl (Ct hX.blk)) ?_
        refine Bg rfl (B6 zr_128 rfl fun b72 hb72 nb72 => ?_)
        refine Ce (B8 sz_128 (Ad) (Am rfl <| Ad) (i := 0) rfl rfl rfl rfl hX.ones (.here) ?_)
        refine Ah <| Ac <| Af <| Ai fun ds => Aa rfl (Ag (A6 rfl <| A1 rfl <| Ar rfl <| Am rfl <| Al rfl <| Bk rfl <| A6 rfl <| Ar rfl <| Ad)) ?_
        refine Aa rfl (Bx (Ad)) ?_
        refine Aa rfl (Ak Cb (Ad)) ?_
        refine Aa rfl (Ak Bq (Ad)) ?_
        refine Aa rfl (Ap Bw (Ad) (CellF.own hX.blk rfl).cell) ?_
        refine Bg rfl (x_callNf bd_87 Az (.cons (Ad) .nil) (cloneEd_own hX.r.eds hX.r.one (by omega)) fun v73 F74 R77 hr75 hF76 => ?_)
        replace hX := hX.mono hF76
        replace hrx := hrx.mono hF76
        replace hFG := Heap.le_trans hFG hF76
        replace hle0 := Heap.le_trans hle0 hF76
        replace hz11 := hF76 _ _ hz11
        have hoE := hr75
        refine Aa rfl (Ak Cb (A1 rfl <| Ar rfl <| Ad)) ?_
        refine Aa rfl (Ak Bq (Ad)) ?_
        refine WL_orderB (.one (.skip <| .here) <| .one (.skip <| .here) <| .blk (.lastS) <| .lastb (.last)) ?_
        refine Ce (Cg sz_23 (Ad) (Ar rfl <| Ad) (i := 0) rfl (.next <| .here) (Own.one hoE) (.here) ?_)
        refine Ah <| Ac <| Af ?_
        have hleS := hle0
        refine C1 (.inl rfl) (fun _ _ h => h) (.cons_cons _ <| .cons_cons _ <| .refl _) [16] (by kernel_rfl) fun ds => ?_
        refine A8 0 rfl (by kernel_rfl) (by kernel_rfl) (by kernel_rfl) (by kernel_rfl) rfl rfl (fun _ h => h.drop (.cons_cons _ <| .cons_cons _ <| .refl _)) (fun _ _ _ h => h) (Ak Cb (A6 rfl <| Ad)) ?_
        refine A8 1 rfl (by kernel_rfl) (by kernel_rfl) (by kernel_rfl) (by kernel_rfl) rfl rfl (fun _ h => h.drop (.cons_cons _ <| .cons_cons _ <| .refl _)) (fun _ _ _ h => h) (Ak Bq (Ad)) ?_
        refine A8 2 rfl (by kernel_rfl) (by kernel_rfl) (by kernel_rfl) (by kernel_rfl) rfl rfl (fun _ h => h.drop (.cons_cons _ <| .cons_cons _ <| .refl _)) (fun _ _ _ h => h) (Ap Bw (Ad) (Cell.own 0 rfl rfl)) ?_
        refine A8 3 rfl (by kernel_rfl) (by kernel_rfl) (by kernel_rfl) (by kernel_rfl) rfl rfl (fun _ h => h.drop (.cons_cons _ <| .cons_cons _ <| .refl _)) (fun _ _ _ h => h) (Ag (A3 rfl <| A6 rfl <| Ar rfl <| Al rfl <| Bk rfl <| A3 rfl <| A1 rfl <| Ar rfl <| Aj rfl)) ?_
        refine A8 4 rfl (by kernel_rfl) (by kernel_rfl) (by kernel_rfl) (by kernel_rfl) rfl rfl (fun _ h => h.drop (.cons_cons _ <| .cons_cons _ <| .refl _)) (fun _ _ _ h => h) (Ag (A3 rfl <| A6 rfl <| Ar rfl <| Am rfl <| Al rfl <| Bk rfl <| A6 rfl <| Ar rfl <| Ad)) ?_
        refine A8 5 rfl (by kernel_rfl) (by kernel_rfl) (by kernel_rfl) (by kernel_rfl) rfl rfl (fun _ h => h.drop (.cons_cons _ <| .cons_cons _ <| .refl _)) (fun _ _ _ h => h) (Bx (Ad)) ?_
        refine A8 6 rfl (by kernel_rfl) (by kernel_rfl) (by kernel_rfl) (by kernel_rfl) rfl rfl (fun _ h => h.drop (.cons_cons _ <| .cons_cons _ <| .refl _)) (fun _ _ _ h => h) (Ak Cb (Ad)) ?_
        refine A8 7 rfl (by kernel_rfl) (by kernel_rfl) (by kernel_rfl) (by kernel_rfl) rfl rfl (fun _ h => h.drop (.cons_cons _ <| .cons_cons _ <| .refl _)) (fun _ _ _ h => h) (Ak Bq (Ad)) ?_
        refine A8 8 rfl (by kernel_rfl) (by kernel_rfl) (by kernel_rfl) (by kernel_rfl) rfl rfl (fun _ h => h.drop (.cons_cons _ <| .cons_cons _ <| .refl _)) (fun _ _ _ h => h) (Ap Bw (Ad) (CellF.own hX.blk rfl).cell) ?_
        refine A8 9 rfl (by kernel_rfl) (by kernel_rfl) (by kernel_rfl) (by kernel_rfl) rfl rfl (fun _ h => h.drop (.cons_cons _ <| .cons_cons _ <| .refl _)) (fun _ _ _ h => h) (Ag (Bk rfl <| Al rfl <| Bk rfl <| A3 rfl <| A1 rfl <| Ar rfl <| Aj rfl)) ?_
        refine A8 10 rfl (by kernel_rfl) (by kernel_rfl) (by kernel_rfl) (by kernel_rfl) rfl rfl (fun _ h => h.drop (.cons_cons _ <| .cons_cons _ <| .refl _)) (fun _ _ _ h => h) (Be (k := x) B1 (Am rfl <| Ad) hX.r.eds.plain (Ad) rfl hxp) ?_
        refine A8 11 rfl (by kernel_rfl) (by kernel_rfl) (by kernel_rfl) (by kernel_rfl) rfl rfl (fun _ h => h.drop (.cons_cons _ <| .cons_cons _ <| .refl _)) (fun _ _ _ h => h) (Br Ca (Ad)) ?_
        refine A8 12 rfl (by kernel_rfl) (by kernel_rfl) (by kernel_rfl) (by kernel_rfl) rfl rfl (fun _ h => h.drop (.cons_cons _ <| .cons_cons _ <| .refl _)) (fun _ _ _ h => h) (Ap Cf (Ad) (hX.r.eds.cell hxp rfl)) ?_
        refine WX_x 13 rfl (by kernel_rfl) rfl (x_callNf bd_76 Az (.cons (Ad) .nil) (cloneInt_own hrx (by omega)) fun v78 F79 R82 hr80 hF81 => ⟨fun _ _ _ h => (h.drop (List.sublist_append_of_sublist_right <| .cons_cons _ <| .cons_cons _ <| .refl _)).weak hF81 hleS, ?_⟩)
        replace hX := hX.mono hF81
        replace hFG := Heap.le_trans hFG hF81
        replace hz11 := hF81 _ _ hz11
        have hoR := hr80
        refine A8 14 rfl (by kernel_rfl) (by kernel_rfl) (by kernel_rfl) (by kernel_rfl) rfl rfl (fun _ h => (h.drop (List.sublist_append_of_sublist_right <| .cons_cons _ <| .cons_cons _ <| .refl _)).weak hF81 hleS) (fun _ _ _ h => h) (Be (k := x) B1 (A6 rfl <| Ar rfl <| Am rfl <| Ad) (hoE.plain (by omega)) (A6 rfl <| Ar rfl <| Ad) rfl hxp) ?_
        refine A8 15 rfl (by kernel_rfl) (by kernel_rfl) (by kernel_rfl) (by kernel_rfl) rfl rfl (fun _ h => (h.drop (List.sublist_append_of_sublist_right <| .cons_cons _ <| .cons_cons _ <| .refl _)).weak hF81 hleS) (fun _ _ _ h => h) (Br Ca (Ad)) ?_
        refine WX_orderB (.one (.skip <| .here) <| .one (.skip <| .here) <| .blk (.skip <| .here) <| .blk (.lastS) <| .lastb (.last)) ?_
        refine WX_x0 16 rfl (by kernel_rfl) (x_storeR sz_26 (Ad) (Ar rfl <| Ad) hoE (by rw [D1 edE_len]; omega) (Own.one hoR) (.s <| .s <| .k <| .z) .more fun R83 ho84 => ⟨(fun h => nomatch h), ?_⟩)
        have hoE2 := ed_own_set (e := (s.ed x).setR p ((k : Int) + 1)) ho84 hxp (by rw [e1]; rfl) (by rw [e1]; rfl) (by rw [e1]; rfl)
        refine C6 (by kernel_rfl) ?_ _
        refine Ac <| Af <| Ai fun ds => Aa rfl (Ak Cb (A3 rfl <| A6 rfl <| Ad)) ?_
        refine Aa rfl (Ak Bq (Ad)) ?_
        refine Aa rfl (Ap Bw (Ad) (Cell.own 0 rfl rfl)) ?_
        refine Aa rfl (Ag (Bk rfl <| A6 rfl <| Ar rfl <| Al rfl <| Bk rfl <| A3 rfl <| A1 rfl <| Ar rfl <| Aj rfl)) ?_
        refine Aa rfl (Be (k := x) B1 (Am rfl <| Ad) (hoE2.plain (by rw [List.length_set]; omega)) (Ad) rfl (by simp; omega)) ?_
        refine Aa rfl (Br Ca (Ad)) ?_
        refine Aa rfl (Ap Cf (Ad) (own_cell hoE2 (fun p hp => .tail _ (.tail _ (List.mem_append_right _ (List.mem_append_left _ hp)))) (ed_set_get hxp))) ?_
        refine Aa rfl (Ag (Bk rfl <| A6 rfl <| A1 rfl <| Ar rfl <| Al rfl <| Bk rfl <| A3 rfl <| A1 rfl <| Ar rfl <| Aj rfl)) ?_
        refine Aa rfl (Ag (Bk rfl <| A6 rfl <| A1 rfl <| Ad)) ?_
        refine Aa rfl (Bu (Ad) Ab rfl (by omega) (by omega)) ?_
        refine Aa rfl (Be (k := p) Bn (Ar rfl <| Am rfl <| Ad) (hoR.plain (by omega)) (Ar rfl <| Ad) rfl hpx) ?_
        refine Ce (x_storeR sz_3 (Ad) (Am rfl <| Ad) hoR (by rw [D1 (enc := intE) (s := 1) (fun _ => rfl)]; omega) rfl (.s <| .s <| .k <| .k <| .z) .last fun R85 ho86 => ?_)
        have hoR2 := ho86
        rw [show p * 1 = p * 1 + 0 from rfl, int_flat_set hpx] at hoR2
        replace hoR2 := hoR2.to (k' := ((s.ed x).rd.set p ((k : Int) + 1)).length) (by simp)
        refine Ah <| Ac <| Af <| Cw (σ := ⟨_, _⟩) (by rfl) hoR2 (.s <| .s <| .k <| .k <| .z) .last fun F87 hF88 hz89 => ?_
        replace hX := hX.mono hF88
        replace hFG := Heap.le_trans hFG hF88
        replace hz11 := hF88 _ _ hz11
        refine WC_pickB (.one (.here) <| .one (.here) <| .blk (.here) <| .lastb (.here)) ?_
        have hrn := hoR2.sl (fun _ => rfl) hz89 (by simp; omega)
        refine Cw (σ := ⟨_, _⟩) (by rfl) hoE2 (.s <| .s <| .k <| .z) .last fun F90 hF91 hz92 => ?_
        replace hX := hX.mono hF91
        replace hFG := Heap.le_trans hFG hF91
        replace hrn := hrn.mono hF91
        replace hz11 := hF91 _ _ hz11
        refine WC_pickB (.one (.here) <| .one (.here) <| .lastb (.here)) ?_
        have hen := hoE2.sl (fun _ => rfl) hz92 (by simp; omega)
        refine Cd (i := 0) rfl hb72 (.here) fun F93 hF94 hz15 => ?_
        replace hX := hX.mono hF94
        replace hFG := Heap.le_trans hFG hF94
        replace hrn := hrn.mono hF94
        replace hen := hen.mono hF94
        replace hz11 := hF94 _ _ hz11
        have hXm : StmX _ _ _ _ _ _ (setS s x p ((k : Int) + 1)) := ⟨hX.r.set hen hrn, hz15⟩
        by_cases hpl : decide (placeN (setS s x p ((k : Int) + 1)) l p = placeN s l p) = true
        ·
         have hrb : readB s l x p k = true := by unfold readB; rw [hkn, hpl]; rfl
         refine Ai fun ds => Aa rfl (A7 B0 (Bk rfl <| A3 rfl <| Ar rfl <| Al rfl <| Bk rfl <| A6 rfl <| Ar rfl <| Am rfl <| Ad) rfl rfl (Ct hz11)) ?_
         refine Aa rfl (Ag (Bk rfl <| A3 rfl <| Ar rfl <| Am rfl <| Al rfl <| Bk rfl <| A3 rfl <| A1 rfl <| Ar rfl <| Aj rfl)) ?_
         refine By rfl (Bb bd_82 Az (.cons (Bk rfl <| A1 rfl <| Am rfl <| Ad) (.cons (Am rfl <| Ad) (.cons (Ad) .nil))) (Dv hXm ht (by rw [Dz]; exact hll) hvm hp) (fun _ _ h => h)) ?_
         refine Aa rfl (Ag (Bk rfl <| A3 rfl <| A1 rfl <| Am rfl <| Al rfl <| A6 rfl <| Ar rfl <| Am rfl <| Ad)) ?_
         refine Aa rfl (Bz (Am rfl <| Ad) (Ad)) ?_
         refine Ah <| Ac <| Aq (Ad) hpl ?_
         refine Ai fun ds => Aa rfl (Ag (Bk rfl <| A3 rfl <| A1 rfl <| Ar rfl <| Am rfl <| At rfl hs8)) ?_
         refine Aa rfl (Ag (Bk rfl <| A3 rfl <| A1 rfl <| Am rfl <| Ad)) ?_
         refine Aa rfl (Bu (Ad) Ab rfl (by omega) (by omega)) ?_
         refine Bg rfl (B9 Bn Db rfl (.cons (Ad) .nil) rfl rfl (by decide) (by simp [Value.oneCell']) fun b95 hb95 nb95 => ?_)
         refine B5 (i := 0) rfl hb95 .here fun F96 hF97 hz98 => ?_
         replace hFG := Heap.le_trans hFG hF97
         have hsl99 := Cy hz98
         refine Bg rfl (Cu Bn el_3 (Ar rfl <| Am rfl <| Ad) ho (Ad) hsl99.srcInt (by simp only [List.length_singleton]; omega) (by simp only [List.length_singleton]; omega) (.s <| .z) .last fun v100 R101 ho102 => ?_)
         have ho2 := ho102.snoc (x := (k : Int) + 1) rfl rfl
         refine Aa rfl (Ae (Ad)) ?_
         refine Ah <| Ba <| Ac <| Ai fun ds => Aa rfl (Bu (Bk rfl <| A3 rfl <| A6 rfl <| A1 rfl <| Am rfl <| At rfl hs62) Ab rfl (by omega) (by omega)) ?_
         refine Aa rfl (Ag (Ad)) ?_
         refine Ah <| Ac ⟨_, m - 1, Off.eq (ou32 rfl <| C9 rfl <| D0 rfl <| ou4 rfl <| ou2 rfl <| Ei rfl <| Bf), by omega, ?_⟩
         exact ⟨_, hFG, k + 1, by omega, (Ad), _, _, (Ar rfl <| Ad), by rw [readTo_succ, if_pos hrb]; exact ho2, rfl⟩
        ·
         replace hpl : decide (placeN (setS s x p ((k : Int) + 1)) l p = placeN s l p) = false := by simpa using hpl
         have hrb : readB s l x p k = false := by unfold readB; rw [hpl]; simp
         refine Ai fun ds => Aa rfl (A7 B0 (Bk rfl <| A3 rfl <| Ar rfl <| Al rfl <| Bk rfl <| A6 rfl <| Ar rfl <| Am rfl <| Ad) rfl rfl (Ct hz11)) ?_
         refine Aa rfl (Ag (Bk rfl <| A3 rfl <| Ar rfl <| Am rfl <| Al rfl <| Bk rfl <| A3 rfl <| A1 rfl <| Ar rfl <| Aj rfl)) ?_
         refine By rfl (Bb bd_82 Az (.cons (Bk rfl <| A1 rfl <| Am rfl <| Ad) (.cons (Am rfl <| Ad) (.cons (Ad) .nil))) (Dv hXm ht (by rw [Dz]; exact hll) hvm hp) (fun _ _ h => h)) ?_
         refine Aa rfl (Ag (Bk rfl <| A3 rfl <| A1 rfl <| Am rfl <| Al rfl <| A6 rfl <| Ar rfl <| Am rfl <| Ad)) ?_
         refine Aa rfl (Bz (Am rfl <| Ad) (Ad)) ?_
         refine Ah <| Ac <| Ao (Ad) hpl ?_
         refine Ay <| Ba <| Ac <| Ai fun ds => Aa rfl (Bu (Bk rfl <| A3 rfl <| A1 rfl <| Ar rfl <| Am rfl <| At rfl hs62) Ab rfl (by omega) (by omega)) ?_
         refine Aa rfl (Ag (Ad)) ?_
         refine Ah <| Ac ⟨_, m - 1, Off.eq (ou32 rfl <| C9 rfl <| D0 rfl <| Ei rfl <| Bf), by omega, ?_⟩
         exact ⟨_, hFG, k + 1, by omega, (Ad), _, _, (Bk rfl <| A3 rfl <| A6 rfl <| Am rfl <| At rfl hs8), by rw [readTo_succ, if_neg (by rw [hrb]; simp)]; exact ho, rfl⟩
      ·
       refine Af <| Ai fun ds => Aa rfl (Bv (At rfl hs62) Ab) ?_
       refine Ah <| Ac <| Af <| Ao (Ad) (by first | rfl | exact decide_eq_false (by omega)) ?_
       obtain rfl : k = 3 := by omega
       refine Cw (σ := ⟨_, _⟩) (by rfl) ho (.s <| .z) .last fun F103 hF104 hz105 => ?_
       have hn8 := ho.sl (fun _ => rfl) hz105 (by have := readTo_len (s := s) (l := l) (x := x) (p := p) (k := 3); omega)
       refine Bs ?_
       refine Bd <| Bd <| Bi <| Ac <| Af <| Ai fun ds => Aa rfl (Ag (Am rfl <| At rfl hs8)) ?_
       refine Aa rfl (Ae (Ad)) ?_
       refine Aa rfl (Ae Ab) ?_
       refine Ah <| Ac <| A2 <| Au rfl (.tmp (Am rfl <| Ad) (.tmp (Ad) .nil)) ?_
       rw [readE_ok hre, Int.toNat_natCast, Int.toNat_natCast]
       exact ⟨_, rfl, hn8⟩
   ·
    replace h2 : inB 0 (s.places.length - 1) q = false := by simpa using h2
    refine Aq (Ad) (by simp [h2]) ?_
    refine Af <| Ai fun ds => Aa rfl (Ae Ab) ?_
    refine Aa rfl (Ae Ab) ?_
    refine Ah <| Ac <| A2 <| Bh (A9 ?_)
    refine Au rfl (.tmp (Am rfl <| Ad) (.tmp (Ad) .nil)) ?_
    rw [readE_bad (readErr_2 hok (by rw [h1, h2]; rfl)) (by decide)]
    exact ⟨_, rfl, Sl.nil⟩
  ·
   replace h1 : inB 0 (s.editions.length - 1) z = false := by simpa using h1
   refine Af <| Ai fun ds => Aa rfl (Ak Bq (A6 rfl <| A1 rfl <| Ar rfl <| Am rfl <| Ad)) ?_
   refine Aa rfl (Ap Bw (Ad) (CellF.own hz4 rfl).cell) ?_
   refine Aa rfl (Bl B1 (Ad) hr.eds.plain) ?_
   refine Aa rfl (q_sub (Ad) Ab rfl (by omega) (by omega)) ?_
   refine Aa rfl (Ag (A3 rfl <| A1 rfl <| Aj rfl)) ?_
   refine Bg rfl (B9 Bn Db rfl (.cons (Ad) .nil) rfl rfl (by decide) (by simp [Value.oneCell']) fun b106 hb106 nb106 => ?_)
   refine B5 (i := 0) rfl hb106 .here fun F107 hF108 hz109 => ?_
   have hsl110 := Cy hz109
   refine By rfl (Bb D3 Az (.cons Ab (.cons (Ar rfl <| Ad) (.cons (Ad) .nil))) (Ch _ _ hsl110) (fun _ _ h => h)) ?_
   refine Aa rfl (Ag (Ad)) ?_
   refine Ax rfl rfl (Ad) (.inl (congrArg Value.bool (by simp [hlen, h1]))) rfl ?_
   refine Ax rfl rfl (Am rfl <| Ad) (.inl (congrArg Value.bool (by simp [hlen, h1]))) rfl ?_
   refine Ax rfl rfl (Ar rfl <| Ad) (.inl (congrArg Value.bool (by simp [hlen, h1]))) rfl ?_
   refine Ax rfl rfl (Ar rfl <| Am rfl <| Ad) (.inl (congrArg Value.bool (by simp [hlen, h1]))) rfl ?_
   refine Ax rfl rfl (A1 rfl <| Ad) (.inl (congrArg Value.bool (by simp [hlen, h1]))) rfl ?_
   refine Ax rfl rfl (A1 rfl <| Am rfl <| Ad) (.inl (congrArg Value.bool (by simp [hlen, h1]))) rfl ?_
   refine Ax rfl rfl (A1 rfl <| Ar rfl <| Ad) (.inl (congrArg Value.bool (by simp [hlen, h1]))) rfl ?_
   refine Aa rfl (A4 (A1 rfl <| Ar rfl <| Am rfl <| Ad) (by simp [hlen, h1]) Ab) ?_
   refine Aa rfl (Ae (Ad)) ?_
   refine Ah <| Ac <| Aq (Ad) rfl ?_
   refine Af <| Ai fun ds => Aa rfl (Ae Ab) ?_
   refine Aa rfl (Ae Ab) ?_
   refine Ah <| Ac <| A2 <| Bh (A9 ?_)
   refine Au rfl (.tmp (Am rfl <| Ad) (.tmp (Ad) .nil)) ?_
   rw [readE_bad (readErr_2 hok (by rw [h1]; rfl)) (by decide)]
   exact ⟨_, rfl, Sl.nil⟩
 ·
  refine Af <| Ai fun ds => Bg rfl (B2 (Aj rfl) rfl fun b111 hb111 nb111 => ?_)
  refine Aa rfl (Ae Ab) ?_
  refine Aa rfl (Ae Ab) ?_
  refine Ah <| Ac <| Af <| Ai fun ds => Aa rfl (A7 B4 (Ar rfl <| Ad) rfl rfl (A5 0 rfl)) ?_
  refine Aa rfl (Ag (A1 rfl <| Aj rfl)) ?_
  refine Bg rfl (Ck bd_68 Az (.cons (Am rfl <| Ad) (.cons (Ad) .nil)) (enter_bad hr hl hok) fun v112 F113 hr114 hF115 => ?_)
  obtain ⟨l2, rfl⟩ := hr114
  refine Aa rfl (Ag (Ad)) ?_
  refine Aa rfl (Aw (Ad) rfl) ?_
  refine Aa rfl (Aw (Am rfl <| Ad) rfl) ?_
  refine Aa rfl (Aw (Ar rfl <| Ad) rfl) ?_
  refine Bg rfl (B6 Dy rfl fun b116 hb116 nb116 => ?_)
  refine Aa rfl (Ae (Ar rfl <| Am rfl <| Ad)) ?_
  refine Ce (B8 D9 (Am rfl <| Ad) (Ar rfl <| Am rfl <| Ad) (i := 0) rfl rfl rfl rfl C7 (.here) ?_)
  refine Aa rfl (Ae (Ar rfl <| Ad)) ?_
  refine Ah <| Ac <| Af <| A0 <| Af <| Ai fun ds => Aa rfl (Ag (Ad)) ?_
  refine Aa rfl (B3 (Ad) Ab) ?_
  refine Aa rfl (Ae (Ad)) ?_
  refine Ah <| Ac <| Aq (Ad) (decide_eq_true hok) ?_
  refine Af <| Ai fun ds => Aa rfl (Ag (Ar rfl <| Am rfl <| Ad)) ?_
  refine Aa rfl (Ae Ab) ?_
  refine Aa rfl (Ae (Am rfl <| Ad)) ?_
  refine Ah <| Ac <| A2 <| Bh (A9 ?_)
  refine Au rfl (.tmp (Am rfl <| Ad) (.tmp (Ad) .nil)) ?_
  rw [readE_bad (readErr_1 hok) hok]
  exact ⟨_, rfl, Sl.nil⟩
end Go.Proofs.Ytccogmkhijgelaa
namespace Go.Proofs.Ytccogmkhijgelaa
open Go.RowKit
theorem zr_119 : ZeroT Try.prog 119 (.nilFunc) := C3 (by kernel_rfl)
theorem zr_26 : ZeroT Try.prog 26 (.slice none 0 0) := C3 (by kernel_rfl)
theorem zr_4 : ZeroT Try.prog 4 (.bool false) := C3 (by kernel_rfl)
theorem bd_84 : Body Try.prog 84 := Bo (by kernel_rfl)
theorem one_119 : OneT Try.prog 119 := Dn (by kernel_rfl)
theorem one_4 : OneT Try.prog 4 := Dn (by kernel_rfl)
theorem sz_119 : SizeT Try.prog 119 1 := Cv (by kernel_rfl)
theorem sz_4 : SizeT Try.prog 4 1 := Cv (by kernel_rfl)
theorem setTo_succ {s : Stm} {p k : Nat} : setTo s p (k + 1) = setTo s p k ||| 2 ^ (s.r k p).toNat := rfl
theorem kindTo_succ {s : Stm} {p k : Nat} : kindTo s p (k + 1) = kindTo s p k + if metB s p (k + 1) = true then 1 else 0 := rfl
theorem cleanS_none {s : Stm} {xs : List (List Int)} {t : List Int} (h : cleanR s xs = none) : cleanR s (xs ++ [t]) = some (uncleanL s t) := by rw [cleanR_snoc, h]; rfl
theorem cleanS_yes {s : Stm} {xs : List (List Int)} {t : List Int} {b : List Nat} (h : cleanR s xs = some b) (h2 : (uncleanL s t).length < b.length ∨ ((uncleanL s t).length = b.length ∧ cmpL (uncleanL s t) b < 0)) : cleanR s (xs ++ [t]) = some (uncleanL s t) := by rw [cleanR_snoc, h]; exact if_pos h2
theorem cleanS_no {s : Stm} {xs : List (List Int)} {t : List Int} {b : List Nat} (h : cleanR s xs = some b) (h2 : ¬ ((uncleanL s t).length < b.length ∨ ((uncleanL s t).length = b.length ∧ cmpL (uncleanL s t) b < 0))) : cleanR s (xs ++ [t]) = some b := by rw [cleanR_snoc, h]; exact if_neg h2
theorem bit_met {s : Stm} {p j : Nat} (hv : ValidT s) (hp : p < s.places.length) : (setTo s p s.editions.length / 2 ^ (j + 1) &&& 1 : Nat) = if metB s p (j + 1) = true then 1 else 0 := by
 have h := setTo_bit (v := j + 1) (fun i hi => (hv.rd i p hi hp).1) (Nat.le_refl s.editions.length)
 rw [Nat.testBit_eq_decide_div_mod_eq] at h
 rw [Nat.and_one_is_mod]
 unfold metB
 rw [← h]
 by_cases h2 : setTo s p s.editions.length / 2 ^ (j + 1) % 2 = 1
 · rw [if_pos (decide_eq_true h2)]; exact h2
 · rw [if_neg (by simpa using h2)]; omega
theorem opt_or {α : Type} (o : Option α) : o = none ∨ ∃ b, o = some b := by cases o with | none => exact .inl rfl | some b => exact .inr ⟨b, rfl⟩
theorem pow_le8T {n : Nat} (h : n ≤ 3) : 2 ^ n ≤ 8 := by
 have : n = 0 ∨ n = 1 ∨ n = 2 ∨ n = 3 := by omega
 rcases this with rfl | rfl | rfl | rfl <;> decide
set_option maxRecDepth 100000 in
theorem clean_top_ok {F : Heap} {vp ve : Value} {ps : List (Value × Edn)} {s : Stm} (hr : StmR F vp ve ps s) : Ok Try.prog 33 [.agg #[vp, ve]].toArray F fun u F' => NatsR F' u (cleanE s) := by
 have hle0 : F.le F := Heap.le_refl _
 refine Ok.intro Try.func33 rfl Try.ntmps33 rfl fun w0 => ?_
 have hL1 := hr.eds.plain.lt
 have hL2 := hr.places.plain.lt
 have hlen := hr.len
 by_cases h0 : (checkT s).2.2 = 0
 ·
  have hv := Cx h0
  have hne := hv.ne
  have hnp := hv.np
  refine Af <| Ai fun ds => Bg rfl (B2 (Aj rfl) rfl fun b1 hb1 nb1 => ?_)
  refine Bg rfl (B6 zr_26 rfl fun b2 hb2 nb2 => ?_)
  refine Aa rfl (Ae Ab) ?_
  refine Ah <| Ac <| Af <| Ai fun ds => Aa rfl (A7 B4 (Ar rfl <| Ad) rfl rfl (A5 1 rfl)) ?_
  refine Bg rfl (Dl bd_65 Az (.cons (Ad) .nil) (open_ok hr h0) fun v3 F4 R7 hr5 hF6 => ?_)
  replace hr := hr.mono hF6
  obtain ⟨ba, kb, rfl, hX, rfl⟩ := hr5
  refine Aa rfl (Ag (Ad)) ?_
  refine Aa rfl (Aw (Ad) rfl) ?_
  refine Aa rfl (Aw (Am rfl <| Ad) rfl) ?_
  refine Aa rfl (Ae (Am rfl <| Ad)) ?_
  refine Aa rfl (Ae (Am rfl <| Ad)) ?_
  refine Ah <| Ac <| Af <| Af <| Ai fun ds => Aa rfl (Ag (Ad)) ?_
  refine Aa rfl (B3 (Ad) Ab) ?_
  refine Ah <| Ac <| Ao (Ad) (by decide) ?_
  refine Ay <| Ac <| Af <| Ai fun ds => Bg rfl (B6 zr_26 rfl fun b8 hb8 nb8 => ?_)
  refine Ah <| Ac <| Af <| Af <| Ai fun ds => Aa rfl (Ak Cr (A6 rfl <| A1 rfl <| Ad)) ?_
  refine Aa rfl (Ap C0 (Ad) (Cell.own 2 rfl rfl)) ?_
  refine Aa rfl (Bl C5 (Ad) hr.places.plain) ?_
  refine Aa rfl (Ag Ab) ?_
  refine Ah <| Ac <| A0 <| Bt [6, 7, 9, 10, 11, 29, 30, 31, 32, 33, 34, 35, 36, 37, 38, 39, 40, 41, 42, 43, 44, 45, 46, 47, 48, 49, 50, 51, 52, 53, 54, 55, 56, 57, 58, 59, 60, 61, 62, 63, 64] (fun m e σ => ∃ p : Nat, m + p = s.places.length ∧ e 29 = .int .i64 (p : Int) ∧ ∃ v5 R5, Own 3 1 v5 (iL (needN s) p).length ((iL (needN s) p).flatMap intE) R5 ∧ σ = ⟨F4, (b8, bx 26 [v5]) :: (b2, bx 26 [.slice none 0 0]) :: (b1, bx 25 [vp, ve]) :: (kb, mapO []) :: R5⟩) (s.places.length) ?_ ?_
  · exact ⟨0, by omega, (Ad), _, [], own_nil, rfl⟩
  ·
   rintro m e _ ⟨p, hm, hs29, v5, R5, ho, rfl⟩; have hil9 := Ej (f := needN s) (n := p)
   by_cases hp : p < s.places.length
   ·
    refine Af <| Ai fun ds => Aa rfl (Bv (At rfl hs29) (Al rfl <| Am rfl <| Ad)) ?_
    refine Ah <| Ac <| Af <| Aq (Ad) (by first | rfl | exact decide_eq_true (by omega)) ?_
    refine Ay <| Ac <| Af <| A0 <| Af <| Ai fun ds => Aa rfl (Ag (Am rfl <| At rfl hs29)) ?_
    refine Aa rfl (Ae (Ad)) ?_
    refine Ah <| Ac <| Af <| Ai fun ds => Aa rfl (Ae Ab) ?_
    refine Ah <| Ac <| Af <| Af <| Ai fun ds => Aa rfl (Ak Bq (A1 rfl <| Al rfl <| A3 rfl <| Ad)) ?_
    refine Aa rfl (Ap Bw (Ad) (Cell.own 2 rfl rfl)) ?_
    refine Aa rfl (Bl B1 (Ad) hr.eds.plain) ?_
    refine Aa rfl (Ag Ab) ?_
    refine Ah <| Ac <| A0 <| Bt [7, 9, 35, 36, 37, 38, 39, 40, 41, 42, 43, 44, 45, 46, 47] (fun m e σ => ∃ i : Nat, m + i = ps.length ∧ e 35 = .int .i64 (i : Int) ∧ e 7 = .int .i64 ((setTo s p i : Nat) : Int) ∧ σ = ⟨F4, (b8, bx 26 [v5]) :: (b2, bx 26 [.slice none 0 0]) :: (b1, bx 25 [vp, ve]) :: (kb, mapO []) :: R5⟩) (ps.length) ?_ ?_
    · exact ⟨0, by omega, (Ad), (A1 rfl <| Ad), rfl⟩
    ·
     rintro m1 e1 _ ⟨i, hm1, ht35, ht7, rfl⟩
     by_cases hli : i < ps.length
     ·
      have hil : i < s.editions.length := by omega
      have hri := hr.rd hli
      have hpi : p < (s.ed i).rd.length := by rw [hv.rdl i hil]; exact hp
      have er := rdT_at hpi
      have hrb := hv.rd i p hil hp
      have hst := setTo_lt (s := s) (p := p) (fun i hi => hv.rd i p hi hp) (k := i) (by omega)
      have hp8 := pow_le8T (n := (s.r i p).toNat) (by omega)
      refine Af <| Ai fun ds => Aa rfl (Bv (At rfl ht35) (Al rfl <| Am rfl <| Ad)) ?_
      refine Ah <| Ac <| Af <| Aq (Ad) (by first | rfl | exact decide_eq_true (by omega)) ?_
      refine Ay <| Ac <| Af <| A0 <| Af <| Ai fun ds => Aa rfl (Be (k := i) B1 (Am rfl <| Al rfl <| Ar rfl <| Ad) hr.eds.plain (Am rfl <| At rfl ht35) rfl hli) ?_
      refine Aa rfl (A7 Eb (Ad) rfl rfl (hr.eds.whole hli)) ?_
      refine Bg rfl (B6 zr_64 rfl fun b11 hb11 nb11 => ?_)
      refine Ce (B8 sz_64 (Ad) (Am rfl <| Ad) (i := 0) rfl rfl rfl rfl (edE_one (hr.one _ (List.getElem_mem hli))) (.here) ?_)
      refine Ah <| Ac <| Ai fun ds => Aa rfl (Ag (A1 rfl <| At rfl ht7)) ?_
      refine Aa rfl (Ak Ca (Am rfl <| Ad)) ?_
      refine Aa rfl (Ap Cf (Ad) (Cell.own 0 rfl rfl)) ?_
      refine Aa rfl (Ag (A1 rfl <| Ar rfl <| Am rfl <| Al rfl <| A1 rfl <| Am rfl <| Ad)) ?_
      refine Aa rfl (Be (k := p) Bn (Am rfl <| Ad) hri.plain (Ad) rfl hpi) ?_
      refine Aa rfl (Ap Bj (Ad) (hri.cell1 hpi rfl)) ?_
      refine Aa rfl (q_shl Ab (Ad) (k := (s.r i p).toNat) (by rw [er]; omega) (by omega) (show (1 : Int) * 2 ^ (s.r i p).toNat = ((2 ^ (s.r i p).toNat : Nat) : Int) by simp) (Int.le_trans (by decide) (Int.natCast_nonneg _)) (by omega)) ?_
      refine Aa rfl (q_or (A1 rfl <| Ar rfl <| Ad) (Ad) (m := setTo s p i) (k := 2 ^ (s.r i p).toNat) rfl rfl (by omega) (by omega) rfl) ?_
      refine Aa rfl (Ae (Ad)) ?_
      refine Ah <| Ba <| Ac <| Di (fun _ _ h => h.drop (.cons _ <| .cons_cons _ <| .cons_cons _ <| .cons_cons _ <| .cons_cons _ <| .refl _)) ?_
      refine Ai fun ds => Aa rfl (Bu (A6 rfl <| A1 rfl <| Am rfl <| At rfl ht35) Ab rfl (by omega) (by omega)) ?_
      refine Aa rfl (Ag (Ad)) ?_
      refine Ah <| Ac ⟨_, m1 - 1, Off.eq (D0 rfl <| ou4 rfl <| ou2 rfl <| Ei rfl <| Bf), by omega, ?_⟩
      exact ⟨i + 1, by omega, (Ad), ((Ar rfl <| Ad)).trans (by rw [setTo_succ]), rfl⟩
     ·
      refine Af <| Ai fun ds => Aa rfl (Bv (At rfl ht35) (Al rfl <| Am rfl <| Ad)) ?_
      refine Ah <| Ac <| Af <| Ao (Ad) (by first | rfl | exact decide_eq_false (by omega)) ?_
      obtain rfl : i = ps.length := by omega
      have hst := setTo_lt (s := s) (p := p) (fun i hi => hv.rd i p hi hp) (k := ps.length) (by omega)
      refine Bs ?_
      refine Bd <| Bd <| Bi <| Ac <| Af <| Ai fun ds => Aa rfl (Ae Ab) ?_
      refine Ah <| Ac <| Af <| Af <| Ai fun ds => Aa rfl (Ag Ab) ?_
      refine Ah <| Ac <| A0 <| Bt [10, 11, 48, 49, 50, 51, 52, 53, 54, 55, 56, 57, 58] (fun m e σ => ∃ j : Nat, m + j = 3 ∧ e 48 = .int .i64 (j : Int) ∧ e 10 = .int .i64 (-1 + kindTo s p j) ∧ σ = ⟨F4, (b8, bx 26 [v5]) :: (b2, bx 26 [.slice none 0 0]) :: (b1, bx 25 [vp, ve]) :: (kb, mapO []) :: R5⟩) (3) ?_ ?_
      · exact ⟨0, rfl, (Ad), (Am rfl <| Ad), rfl⟩
      ·
       rintro m2 e2 _ ⟨j, hm2, hu48, hu10, rfl⟩
       by_cases hl3 : j < 3
       ·
        have hkb := kindTo_bound (s := s) (p := p) j
        have hbt : (setTo s p ps.length / 2 ^ (j + 1) &&& 1 : Nat) = (if metB s p (j + 1) = true then 1 else 0 : Nat) := by have h9 := bit_met (j := j) hv hp; rw [← hlen] at h9; exact h9
        refine Af <| Ai fun ds => Aa rfl (Bv (At rfl hu48) Ab) ?_
        refine Ah <| Ac <| Af <| Aq (Ad) (by first | rfl | exact decide_eq_true (by omega)) ?_
        refine Ay <| Ac <| Af <| A0 <| Af <| Ai fun ds => Aa rfl (Ag (Am rfl <| At rfl hu48)) ?_
        refine Aa rfl (Ae (Ad)) ?_
        refine Ah <| Ac <| Ai fun ds => Aa rfl (Ag (Ar rfl <| Am rfl <| At rfl hu10)) ?_
        refine Aa rfl (Ag (A1 rfl <| Al rfl <| Ar rfl <| Am rfl <| At rfl ht7)) ?_
        refine Aa rfl (Ag (Ar rfl <| Ad)) ?_
        refine Aa rfl (Bu (Ad) Ab rfl (by omega) (by omega)) ?_
        refine Aa rfl (q_shr (Ar rfl <| Ad) (Ad) (k := j + 1) (by omega) (by show j + 1 < 64; omega) (shr_nat (m := setTo s p ps.length))) ?_
        refine Aa rfl (q_and (Ad) Ab (m := setTo s p ps.length / 2 ^ (j + 1)) (k := 1) rfl rfl (by have := Nat.div_le_self (setTo s p ps.length) (2 ^ (j + 1)); omega) (by omega) rfl) ?_
        refine Aa rfl (Bu (A1 rfl <| Am rfl <| Ad) (Ad) rfl (by rw [hbt]; split <;> omega) (by rw [hbt]; split <;> omega)) ?_
        refine Aa rfl (Ae (Ad)) ?_
        refine Ah <| Ba <| Ac <| Ai fun ds => Aa rfl (Bu (A6 rfl <| Ar rfl <| Am rfl <| At rfl hu48) Ab rfl (by omega) (by omega)) ?_
        refine Aa rfl (Ag (Ad)) ?_
        refine Ah <| Ac ⟨_, m2 - 1, Off.eq (D0 rfl <| ou4 rfl <| Ei rfl <| Bf), by omega, ?_⟩
        refine ⟨j + 1, by omega, (Ad), ((Ar rfl <| Ad)).trans ?_, rfl⟩
        rw [kindTo_succ, hbt]; congr 1; split <;> omega
       ·
        refine Af <| Ai fun ds => Aa rfl (Bv (At rfl hu48) Ab) ?_
        refine Ah <| Ac <| Af <| Ao (Ad) (by first | rfl | exact decide_eq_false (by omega)) ?_
        obtain rfl : j = 3 := by omega
        have hkb := kindTo_bound (s := s) (p := p) 3
        refine Bs ?_
        refine Bd <| Bd <| Bi <| Ac <| Ai fun ds => Aa rfl (Ap Cf (Am rfl <| Al rfl <| Ar rfl <| Am rfl <| Al rfl <| A6 rfl <| Al rfl <| A1 rfl <| Ad) (Cell.own 0 rfl rfl)) ?_
        refine Aa rfl (Ag (Ar rfl <| At rfl hu10)) ?_
        refine Aa rfl (q_max2 Ab (Ad)) ?_
        refine Bg rfl (B9 Bn Db rfl (.cons (Ad) .nil) rfl rfl (by decide) (by simp [Value.oneCell']) fun b13 hb13 nb13 => ?_)
        refine Bg rfl (Cu Bn el_3 (Ar rfl <| Am rfl <| Ad) ho (Ad) (D6 (s := 1) 0 rfl rfl (by simp [Value.oneCell'])) (by omega) (by omega) (.s <| .s <| .s <| .s <| .s <| .z) .last fun v14 R15 ho16 => ?_)
        have ho2 : Own 3 1 v14 (iL (needN s) (p + 1)).length ((iL (needN s) (p + 1)).flatMap intE) R15 := by have h9 := ho16; rw [iL_succ]; exact h9.snoc (x := needN s p) rfl (by unfold needN kindsN intE; congr 2; omega)
        refine Ce (Cg sz_26 (A1 rfl <| Ar rfl <| Al rfl <| Ar rfl <| Am rfl <| Al rfl <| A6 rfl <| Al rfl <| A1 rfl <| Ad) (Ad) (i := 1) rfl (.here) (Own.one ho2) (.next <| .here) ?_)
        refine Ah <| Ba <| Ac <| Di (fun _ _ h => h.drop (.cons _ <| .cons_cons _ <| .cons_cons _ <| .cons_cons _ <| .cons_cons _ <| .refl _)) ?_
        refine Ai fun ds => Aa rfl (Bu (A1 rfl <| Ar rfl <| Al rfl <| Ar rfl <| Am rfl <| Al rfl <| A6 rfl <| At rfl hs29) Ab rfl (by omega) (by omega)) ?_
        refine Aa rfl (Ag (Ad)) ?_
        refine Ah <| Ac ⟨_, m - 1, Off.eq (D0 rfl <| off_in rfl <| ou2 rfl <| Ei rfl <| off_in rfl <| D0 rfl <| Bf), by omega, ?_⟩
        refine ⟨p + 1, by omega, (Ad), _, _, ho2, rfl⟩
   ·
    refine Af <| Ai fun ds => Aa rfl (Bv (At rfl hs29) (Al rfl <| Am rfl <| Ad)) ?_
    refine Ah <| Ac <| Af <| Ao (Ad) (by first | rfl | exact decide_eq_false (by omega)) ?_
    obtain rfl : p = s.places.length := by omega
    refine Cw (σ := ⟨_, _⟩) (by rfl) ho (.s <| .s <| .s <| .s <| .z) .last fun F17 hF18 hz19 => ?_
    replace hX := hX.mono hF18
    have hnd := ho.sl (fun _ => rfl) hz19 (by rw [Ej]; omega)
    refine Cd (i := 0) rfl hb8 (.here) fun F20 hF21 hz5 => ?_
    replace hX := hX.mono hF21
    replace hnd := hnd.mono hF21
    refine Bs ?_
    refine Bd <| Bd <| Bi <| Ac <| Af <| Ai fun ds => Bg rfl (B6 zr_4 rfl fun b22 hb22 nb22 => ?_)
    refine Ce (Cg sz_4 (Ad) Ab (i := 0) rfl (.here) rfl (.here) ?_)
    refine Ah <| Ac <| Af <| Ai fun ds => Aa rfl (Ag (Ar rfl <| Al rfl <| A6 rfl <| Ad)) ?_
    refine Aa rfl (q_makeFunc2 (.cons (Ad) .nil) .nil) ?_
    refine Bg rfl (B6 zr_119 rfl fun b23 hb23 nb23 => ?_)
    refine Ce (Cg sz_119 (Ad) (Am rfl <| Ad) (i := 0) rfl (.here) rfl (.here) ?_)
    refine Ah <| Ac <| Af <| Af <| Cd (i := 0) rfl hb23 (.here) fun F24 hF25 hz13 => ?_
    replace hX := hX.mono hF25
    replace hnd := hnd.mono hF25
    replace hz5 := hF25 _ _ hz5
    refine Ai fun ds => Aa rfl (Ag (A1 rfl <| Am rfl <| Al rfl <| A6 rfl <| Ad)) ?_
    refine Bg rfl (Ck bd_83 Az (.cons (Ad) .nil) (trees_ok hX) fun v26 F27 hr28 hF29 => ?_)
    replace hX := hX.mono hF29
    replace hnd := hnd.mono hF29
    replace hz5 := hF29 _ _ hz5
    replace hz13 := hF29 _ _ hz13
    obtain ⟨dz, rfl, hzd⟩ := hr28
    refine Ah <| Ac <| A0 <| WC_rangeG rfl (Ad) (bd_116) (trees1_iter hX hv hzd) (Heap.le_refl _) (fun pre G H => ∃ v2, Nats G v2 ((cleanR s pre).getD []) ∧ H = [(b22, bx 4 [.bool (cleanR s pre).isSome]), (b2, bx 26 [v2]), (b1, bx 25 [vp, ve]), (kb, mapO [])]) (fun _ _ _ => False) (fun _ _ _ _ hF h => by obtain ⟨v, h1, h2⟩ := h; exact ⟨v, h1.mono hF, h2⟩) (fun _ _ _ _ _ h => h) ⟨_, Sl.nil, rfl⟩ (fun L D fn tm pre x rest G H1 vs hxs hle hJ hA => ?_) (fun _ _ _ _ h => h.elim) (fun F2 H1 hF2 hJ => ?_)
    ·
     replace hX := hX.mono hle
     replace hnd := hnd.mono hle
     replace hz5 := hle _ _ hz5
     replace hz13 := hle _ _ hz13
     obtain ⟨v2, hv2, rfl⟩ := hJ
     obtain rfl : vs = [treeV x] := hA
     have hxm : x ∈ allTrees s := by rw [hxs]; simp
     obtain ⟨hll, ht, -⟩ := Cs.1 hxm
     refine ⟨rfl, rfl, fun w1 => ?_⟩
     refine WC_eq (e' := (upd _ 69 (treeV x))) rfl rfl ?_
     refine Cc (.inr (by kernel_rfl)) (fun _ _ h => h) fun ds => ?_
     refine Bg rfl (B6 Dy rfl fun b30 hb30 nb30 => ?_)
     refine WL_order (.cons (.next <| .here) <| .cons (.next <| .here) <| .cons (.here) <| .cons (.here) <| .cons (.here) <| .cons (.here) <| .cons (.here) <| .nil) ?_
     refine Ce (B8 D9 (Ad) (Am rfl <| Ad) (i := 2) rfl rfl rfl rfl C7 (.next <| .next <| .here) ?_)
     refine Ah <| Ac ⟨_, rfl, ?_⟩
     refine A0 <| Af <| WC_name (i := 0) rfl (fun _ => .here) fun oL hoL => ?_
     refine Cc (.inr (by kernel_rfl)) (fun _ _ h => h) fun ds => ?_
     refine Aa rfl (Ae Ab) ?_
     refine Ah <| Ac <| Af <| Af <| Cc (.inr (by kernel_rfl)) (fun _ _ h => h) fun ds => ?_
     refine Aa rfl (Ap Cf (A6 rfl <| Ar rfl <| Al rfl <| A1 rfl <| Ad) (CellF.own hz5 rfl).cell) ?_
     refine Aa rfl (Bl Bn (Ad) hnd.plain) ?_
     refine Aa rfl (Ag Ab) ?_
     refine Ah <| Ac <| A0 <| Bt [15, 16, 17, 72, 73, 74, 75, 76, 77, 78, 79, 80, 81, 82, 83, 84, 85, 86, 87] (fun m e σ => ∃ q : Nat, m + q = s.places.length ∧ e 72 = .int .i64 (q : Int) ∧ ∃ v15 R15, e 15 = v15 ∧ Own 3 1 v15 (selN (uncleanB s x) q).length ((selN (uncleanB s x) q).flatMap natE) R15 ∧ σ = ⟨G, (L, oL) :: (D, openO) :: (b30, bx 100 (treeC x)) :: (b22, bx 4 [.bool (cleanR s pre).isSome]) :: (b2, bx 26 [v2]) :: (b1, bx 25 [vp, ve]) :: (kb, mapO []) :: R15⟩) (s.places.length) ?_ ?_
     · exact ⟨0, by omega, (Ad), _, _, (Ar rfl <| Am rfl <| Ad), Own.nil, rfl⟩
     ·
      rintro m e _ ⟨q, hm, hs72, v15, R15, hs15, ho, rfl⟩; have hsl := Ee (p := (uncleanB s x)) (k := q)
      by_cases hlq : q < s.places.length
      ·
       refine Af <| Cc (.inr (by kernel_rfl)) (fun _ _ h => h) fun ds => ?_
       refine Aa rfl (Bv (At rfl hs72) (Al rfl <| Am rfl <| Ad)) ?_
       refine Ah <| Ac <| Af <| Aq (Ad) (by first | rfl | exact decide_eq_true (by omega)) ?_
       have hnq : (iL (needN s) s.places.length)[q]'(by rw [Ej]; exact hlq) = needN s q := iL_at _
       have hup := unclean_place ht hv hll (p := q)
       by_cases hub : uncleanB s x q = true
       ·
        refine Ay <| Ac <| Af <| A0 <| Af <| Cc (.inr (by kernel_rfl)) (fun _ _ h => h) fun ds => ?_
        refine Aa rfl (Ag (Am rfl <| At rfl hs72)) ?_
        refine Aa rfl (Be (k := q) Bn (Ar rfl <| Al rfl <| Ar rfl <| Ad) hnd.plain (Ar rfl <| At rfl hs72) rfl (by rw [Ej]; exact hlq)) ?_
        refine Aa rfl (Ap Bj (Ad) (hnd.cell1 (by rw [Ej]; exact hlq) rfl)) ?_
        refine Aa rfl (Ae (Ar rfl <| Ad)) ?_
        refine Aa rfl (Ae (Am rfl <| Ad)) ?_
        refine Ah <| Ac <| Af <| Cc (.inr (by kernel_rfl)) (fun _ _ h => h) fun ds => ?_
        refine Aa rfl (Ap one_119 (A1 rfl <| Ar rfl <| Al rfl <| A6 rfl <| Ad) (CellF.own hz13 rfl).cell) ?_
        refine Aa rfl (A7 B0 (A1 rfl <| Ar rfl <| Am rfl <| Al rfl <| A1 rfl <| Ad) rfl rfl (A5 2 rfl)) ?_
        refine Aa rfl (Ag (Ar rfl <| Am rfl <| Ad)) ?_
        refine By rfl (q_callF bd_82 (Ar rfl <| Ad) (.cons (Am rfl <| Ad) (.cons (Ad) .nil)) (Dv hX ht hll hv hlq) (fun _ _ h => h)) ?_
        refine Aa rfl (Ag (A1 rfl <| Ad)) ?_
        refine Aa rfl (B3 (Am rfl <| Ad) (Ad)) ?_
        refine Ah <| Ac <| Aq (Ad) (decide_eq_true (by rw [hnq]; exact hup.2 hub)) ?_
        refine Cc (.inr (by kernel_rfl)) (fun _ _ h => h) fun ds => ?_
        refine Aa rfl (Ag (A6 rfl <| A1 rfl <| At rfl hs15)) ?_
        refine Aa rfl (Ag (A6 rfl <| Ad)) ?_
        refine Bg rfl (B9 Bn Db rfl (.cons (Ad) .nil) rfl rfl (by decide) (by simp [Value.oneCell']) fun b32 hb32 nb32 => ?_)
        refine Bg rfl (Cu Bn el_3 (Ar rfl <| Ad) ho (Ad) (D6 (s := 1) 0 rfl rfl (by simp [Value.oneCell'])) (by omega) (by omega) (.s <| .s <| .s <| .s <| .s <| .s <| .s <| .s <| .z) .last fun v33 R34 ho35 => ?_)
        have ho2 := ho35.snoc (x := q) rfl rfl
        refine Aa rfl (Ae (Ad)) ?_
        refine Ah <| Ba <| Ac <| Di (fun _ _ h => h.drop (.cons _ <| .cons_cons _ <| .cons_cons _ <| .cons_cons _ <| .cons_cons _ <| .cons_cons _ <| .cons_cons _ <| .cons_cons _ <| .refl _)) ?_
        refine Cc (.inr (by kernel_rfl)) (fun _ _ h => h) fun ds => ?_
        refine Aa rfl (Bu (A3 rfl <| Am rfl <| At rfl hs72) Ab rfl (by omega) (by omega)) ?_
        refine Aa rfl (Ag (Ad)) ?_
        refine Ah <| Ac ⟨_, m - 1, Off.eq (C9 rfl <| ou2 rfl <| Ei rfl <| Bf), by omega, ?_⟩
        exact ⟨q + 1, by omega, (Ad), _, _, (Ar rfl <| Ad), by rw [Ed, if_pos hub]; exact ho2, rfl⟩
       ·
        replace hub : uncleanB s x q = false := by simpa using hub
        refine Ay <| Ac <| Af <| A0 <| Af <| Cc (.inr (by kernel_rfl)) (fun _ _ h => h) fun ds => ?_
        refine Aa rfl (Ag (Am rfl <| At rfl hs72)) ?_
        refine Aa rfl (Be (k := q) Bn (Ar rfl <| Al rfl <| Ar rfl <| Ad) hnd.plain (Ar rfl <| At rfl hs72) rfl (by rw [Ej]; exact hlq)) ?_
        refine Aa rfl (Ap Bj (Ad) (hnd.cell1 (by rw [Ej]; exact hlq) rfl)) ?_
        refine Aa rfl (Ae (Ar rfl <| Ad)) ?_
        refine Aa rfl (Ae (Am rfl <| Ad)) ?_
        refine Ah <| Ac <| Af <| Cc (.inr (by kernel_rfl)) (fun _ _ h => h) fun ds => ?_
        refine Aa rfl (Ap one_119 (A1 rfl <| Ar rfl <| Al rfl <| A6 rfl <| Ad) (CellF.own hz13 rfl).cell) ?_
        refine Aa rfl (A7 B0 (A1 rfl <| Ar rfl <| Am rfl <| Al rfl <| A1 rfl <| Ad) rfl rfl (A5 2 rfl)) ?_
        refine Aa rfl (Ag (Ar rfl <| Am rfl <| Ad)) ?_
        refine By rfl (q_callF bd_82 (Ar rfl <| Ad) (.cons (Am rfl <| Ad) (.cons (Ad) .nil)) (Dv hX ht hll hv hlq) (fun _ _ h => h)) ?_
        refine Aa rfl (Ag (A1 rfl <| Ad)) ?_
        refine Aa rfl (B3 (Am rfl <| Ad) (Ad)) ?_
        refine Ah <| Ac <| Ao (Ad) (decide_eq_false (by rw [hnq]; exact fun h => by rw [hup.1 h] at hub; cases hub)) ?_
        refine Ay <| Ba <| Ac <| Cc (.inr (by kernel_rfl)) (fun _ _ h => h) fun ds => ?_
        refine Aa rfl (Bu (A6 rfl <| A1 rfl <| At rfl hs72) Ab rfl (by omega) (by omega)) ?_
        refine Aa rfl (Ag (Ad)) ?_
        refine Ah <| Ac ⟨_, m - 1, Off.eq (D0 rfl <| ou4 rfl <| ou2 rfl <| Bf), by omega, ?_⟩
        exact ⟨q + 1, by omega, (Ad), _, _, (A6 rfl <| A1 rfl <| Ar rfl <| At rfl hs15), by rw [Ed, if_neg (by rw [hub]; simp)]; exact ho, rfl⟩
      ·
       refine Af <| Cc (.inr (by kernel_rfl)) (fun _ _ h => h) fun ds => ?_
       refine Aa rfl (Bv (At rfl hs72) (Al rfl <| Am rfl <| Ad)) ?_
       refine Ah <| Ac <| Af <| Ao (Ad) (by first | rfl | exact decide_eq_false (by omega)) ?_
       obtain rfl : q = s.places.length := by omega
       refine WC_freezeRM (σ := ⟨_, _⟩) (by intro m hm; simp [keys] at hm ⊢; rcases hm with h | h | h | h | h | h <;> simp [h]) ho (.s <| .s <| .s <| .s <| .s <| .s <| .s <| .z) .last fun F36 hF37 hz38 => ?_
       replace hle := hle.mono hF37
       replace hv2 := hv2.mono hF37
       have hl15 := ho.sl (fun _ => rfl) hz38 (by omega)
       change Nats _ _ (uncleanL s x) at hl15
       rcases opt_or (cleanR s pre) with hcs | ⟨bb, hcs⟩
       ·
        refine Bs ?_
        refine Bd <| Bd <| Bi <| Ac <| Af <| Cc (.inr (by kernel_rfl)) (fun _ _ h => h) fun ds => ?_
        refine Aa rfl (Ap one_4 (Am rfl <| Al rfl <| A6 rfl <| Ar rfl <| Am rfl <| Ad) (Cell.own 3 rfl rfl)) ?_
        refine Aa rfl (Cn (Ad)) ?_
        refine Aa rfl (Ag (Ad)) ?_
        refine Ax rfl rfl (Ad) (.inl (congrArg Value.bool (by rw [hcs]; rfl))) rfl ?_
        refine Ax rfl rfl (Am rfl <| Ad) (.inl (congrArg Value.bool (by rw [hcs]; rfl))) rfl ?_
        refine Ax rfl rfl (Ar rfl <| Ad) (.inl (congrArg Value.bool (by rw [hcs]; rfl))) rfl ?_
        refine Ax rfl rfl (Ar rfl <| Am rfl <| Ad) (.inl (congrArg Value.bool (by rw [hcs]; rfl))) rfl ?_
        refine Ax rfl rfl (A1 rfl <| Ad) (.inl (congrArg Value.bool (by rw [hcs]; rfl))) rfl ?_
        refine Aa rfl (A4 (A1 rfl <| Am rfl <| Ad) (by rw [hcs]; rfl) Ab) ?_
        refine Aa rfl (Ag (Ad)) ?_
        refine Ax rfl rfl (Ad) (.inl (congrArg Value.bool rfl)) rfl ?_
        refine Ax rfl rfl (Am rfl <| Ad) (.inl (congrArg Value.bool rfl)) rfl ?_
        refine Ax rfl rfl (Ar rfl <| Ad) (.inl (congrArg Value.bool rfl)) rfl ?_
        refine Ax rfl rfl (Ar rfl <| Am rfl <| Ad) (.inl (congrArg Value.bool rfl)) rfl ?_
        refine Ax rfl rfl (A1 rfl <| Ad) (.inl (congrArg Value.bool rfl)) rfl ?_
        refine Ax rfl rfl (A1 rfl <| Am rfl <| Ad) (.inl (congrArg Value.bool rfl)) rfl ?_
        refine Ax rfl rfl (Ad) (.inr rfl) rfl ?_
        refine Ax rfl rfl (Am rfl <| Ad) (.inr rfl) rfl ?_
        refine Ax rfl rfl (Ar rfl <| Ad) (.inr rfl) rfl ?_
        refine Ax rfl rfl (Ar rfl <| Am rfl <| Ad) (.inr rfl) rfl ?_
        refine Ax rfl rfl (A6 rfl <| Ar rfl <| Ad) (.inl (congrArg Value.bool rfl)) rfl ?_
        refine Aa rfl (A4 (A6 rfl <| Ar rfl <| Am rfl <| Ad) rfl Ab) ?_
        refine Ah <| Ac <| Aq (Ad) rfl ?_
        subst hoL
        refine Cc (.inr (by kernel_rfl)) (fun _ _ h => h) fun ds => ?_
        refine Aa rfl (Ag (A3 rfl <| A1 rfl <| Ar rfl <| Am rfl <| At rfl hs15)) ?_
        refine Ce (Cg sz_26 (A3 rfl <| A6 rfl <| Al rfl <| A6 rfl <| A1 rfl <| Am rfl <| Al rfl <| A6 rfl <| A1 rfl <| Ar rfl <| Am rfl <| Ad) (Ad) (i := 4) rfl (.here) (by first | rfl | exact hl15.plain.one) (.next <| .next <| .next <| .next <| .here) ?_)
        refine Ce (Cg sz_4 (A3 rfl <| A6 rfl <| Al rfl <| A6 rfl <| Ar rfl <| Am rfl <| Ad) Ab (i := 3) rfl (.here) (by first | rfl | exact hl15.plain.one) (.next <| .next <| .next <| .here) ?_)
        refine Ah <| Ba ?_
        refine En (.one (.here) <| .one (.here) <| .one (.next <| .here) <| .one (.next <| .here) <| .one (.next <| .here) <| .one (.next <| .here) <| .nil) ?_
        refine .inl ⟨rfl, _, rfl, hle, ?_⟩
        exact ⟨_, by rw [cleanS_none hcs]; exact hl15, by rw [cleanS_none hcs]; first | done | rfl⟩
       ·
        have hv2b := hv2
        rw [hcs] at hv2b
        replace hv2b : Nats _ v2 bb := hv2b
        have hbl := hv2b.plain.lt
        refine Bs ?_
        refine Bd <| Bd <| Bi <| Ac <| Af <| Cc (.inr (by kernel_rfl)) (fun _ _ h => h) fun ds => ?_
        refine Aa rfl (Ap one_4 (Am rfl <| Al rfl <| A6 rfl <| Ar rfl <| Am rfl <| Ad) (Cell.own 3 rfl rfl)) ?_
        refine Aa rfl (Cn (Ad)) ?_
        refine Aa rfl (Ag (Ad)) ?_
        refine As rfl rfl (Ad) (by rw [hcs]; rfl) ?_
        refine Aa rfl (Ag (A1 rfl <| At rfl hs15)) ?_
        refine As rfl rfl (Am rfl <| Ad) (by rw [hcs]; rfl) ?_
        refine Aa rfl (Bl Bn (Ad) hl15.plain) ?_
        refine As rfl rfl (Ar rfl <| Ad) (by rw [hcs]; rfl) ?_
        refine Aa rfl (Ap Cf (A1 rfl <| Ar rfl <| Al rfl <| A6 rfl <| A1 rfl <| Am rfl <| Al rfl <| A6 rfl <| A1 rfl <| Ar rfl <| Am rfl <| Ad) (Cell.own 4 rfl rfl)) ?_
        refine As rfl rfl (Ar rfl <| Am rfl <| Ad) (by rw [hcs]; rfl) ?_
        refine Aa rfl (Bl Bn (Ad) hv2.plain) ?_
        refine As rfl rfl (A1 rfl <| Ad) (by rw [hcs]; rfl) ?_
        refine Aa rfl (Bv (Ar rfl <| Ad) (Ad)) ?_
        refine Aa rfl (Bc (A1 rfl <| Am rfl <| Ad) (by rw [hcs]; rfl) (Ad)) ?_
        refine Aa rfl (Ag (Ad)) ?_
        by_cases h1 : (uncleanL s x).length < bb.length
        ·
         refine Ax rfl rfl (Ad) (.inl (congrArg Value.bool (decide_eq_true (by rw [hcs]; show (_ : Int) < (bb.length : Int); omega)))) rfl ?_
         refine Ax rfl rfl (Am rfl <| Ad) (.inl (congrArg Value.bool (decide_eq_true (by rw [hcs]; show (_ : Int) < (bb.length : Int); omega)))) rfl ?_
         refine Ax rfl rfl (Ar rfl <| Ad) (.inl (congrArg Value.bool (decide_eq_true (by rw [hcs]; show (_ : Int) < (bb.length : Int); omega)))) rfl ?_
         refine Ax rfl rfl (Ar rfl <| Am rfl <| Ad) (.inl (congrArg Value.bool (decide_eq_true (by rw [hcs]; show (_ : Int) < (bb.length : Int); omega)))) rfl ?_
         refine Ax rfl rfl (A1 rfl <| Ad) (.inl (congrArg Value.bool (decide_eq_true (by rw [hcs]; show (_ : Int) < (bb.length : Int); omega)))) rfl ?_
         refine Ax rfl rfl (A1 rfl <| Am rfl <| Ad) (.inl (congrArg Value.bool (decide_eq_true (by rw [hcs]; show (_ : Int) < (bb.length : Int); omega)))) rfl ?_
         refine Ax rfl rfl (Ad) (.inr rfl) rfl ?_
         refine Ax rfl rfl (Am rfl <| Ad) (.inr rfl) rfl ?_
         refine Ax rfl rfl (Ar rfl <| Ad) (.inr rfl) rfl ?_
         refine Ax rfl rfl (Ar rfl <| Am rfl <| Ad) (.inr rfl) rfl ?_
         refine Ax rfl rfl (A6 rfl <| Ar rfl <| Ad) (.inl (congrArg Value.bool (decide_eq_true (by rw [hcs]; show (_ : Int) < (bb.length : Int); omega)))) rfl ?_
         refine Aa rfl (A4 (A6 rfl <| Ar rfl <| Am rfl <| Ad) (decide_eq_true (by rw [hcs]; show (_ : Int) < (bb.length : Int); omega)) Ab) ?_
         refine Ah <| Ac <| Aq (Ad) rfl ?_
         subst hoL
         refine Cc (.inr (by kernel_rfl)) (fun _ _ h => h) fun ds => ?_
         refine Aa rfl (Ag (A3 rfl <| A1 rfl <| Ar rfl <| Am rfl <| At rfl hs15)) ?_
         refine Ce (Cg sz_26 (A3 rfl <| A6 rfl <| Al rfl <| A6 rfl <| A1 rfl <| Am rfl <| Al rfl <| A6 rfl <| A1 rfl <| Ar rfl <| Am rfl <| Ad) (Ad) (i := 4) rfl (.here) (by first | rfl | exact hl15.plain.one) (.next <| .next <| .next <| .next <| .here) ?_)
         refine Ce (Cg sz_4 (A3 rfl <| A6 rfl <| Al rfl <| A6 rfl <| Ar rfl <| Am rfl <| Ad) Ab (i := 3) rfl (.here) (by first | rfl | exact hl15.plain.one) (.next <| .next <| .next <| .here) ?_)
         refine Ah <| Ba ?_
         refine En (.one (.here) <| .one (.here) <| .one (.next <| .here) <| .one (.next <| .here) <| .one (.next <| .here) <| .one (.next <| .here) <| .nil) ?_
         refine .inl ⟨rfl, _, rfl, hle, ?_⟩
         exact ⟨_, by rw [cleanS_yes hcs (.inl h1)]; exact hl15, by rw [cleanS_yes hcs (.inl h1)]; first | done | rfl⟩
        ·
         refine As rfl rfl (Ad) (decide_eq_false (by rw [hcs]; show ¬ (_ : Int) < (bb.length : Int); omega)) ?_
         refine Aa rfl (Ag (A6 rfl <| Ar rfl <| Am rfl <| At rfl hs15)) ?_
         refine As rfl rfl (Am rfl <| Ad) (decide_eq_false (by rw [hcs]; show ¬ (_ : Int) < (bb.length : Int); omega)) ?_
         refine Aa rfl (Bl Bn (Ad) hl15.plain) ?_
         refine As rfl rfl (Ar rfl <| Ad) (decide_eq_false (by rw [hcs]; show ¬ (_ : Int) < (bb.length : Int); omega)) ?_
         refine Aa rfl (Ap Cf (A6 rfl <| A1 rfl <| Am rfl <| Al rfl <| A6 rfl <| A1 rfl <| Am rfl <| Al rfl <| A6 rfl <| A1 rfl <| Ar rfl <| Am rfl <| Ad) (Cell.own 4 rfl rfl)) ?_
         refine As rfl rfl (Ar rfl <| Am rfl <| Ad) (decide_eq_false (by rw [hcs]; show ¬ (_ : Int) < (bb.length : Int); omega)) ?_
         refine Aa rfl (Bl Bn (Ad) hv2.plain) ?_
         refine As rfl rfl (A1 rfl <| Ad) (decide_eq_false (by rw [hcs]; show ¬ (_ : Int) < (bb.length : Int); omega)) ?_
         refine Aa rfl (Bz (Ar rfl <| Ad) (Ad)) ?_
         refine As rfl rfl (A1 rfl <| Am rfl <| Ad) (decide_eq_false (by rw [hcs]; show ¬ (_ : Int) < (bb.length : Int); omega)) ?_
         refine Aa rfl (Ag (Ad)) ?_
         by_cases h2 : (uncleanL s x).length = bb.length
         ·
          refine As rfl rfl (Ad) (decide_eq_true (by rw [hcs]; show (_ : Int) = (bb.length : Int); omega)) ?_
          refine Aa rfl (Ag (A3 rfl <| Am rfl <| At rfl hs15)) ?_
          refine As rfl rfl (Am rfl <| Ad) (decide_eq_true (by rw [hcs]; show (_ : Int) = (bb.length : Int); omega)) ?_
          refine Aa rfl (Ap Cf (A3 rfl <| Ar rfl <| Al rfl <| A6 rfl <| A1 rfl <| Am rfl <| Al rfl <| A6 rfl <| A1 rfl <| Ar rfl <| Am rfl <| Ad) (Cell.own 4 rfl rfl)) ?_
          refine As rfl rfl (Ar rfl <| Ad) (decide_eq_true (by rw [hcs]; show (_ : Int) = (bb.length : Int); omega)) ?_
          refine By rfl (Bb bd_84 Az (.cons (Am rfl <| Ad) (.cons (Ad) .nil)) (compare_ok hl15 hv2) (fun _ _ h => h)) ?_
          refine As rfl rfl (Ar rfl <| Am rfl <| Ad) (decide_eq_true (by rw [hcs]; show (_ : Int) = (bb.length : Int); omega)) ?_
          refine Aa rfl (Bv (Ad) Ab) ?_
          refine As rfl rfl (A6 rfl <| Ar rfl <| Ad) (decide_eq_false (by rw [hcs]; show ¬ (_ : Int) < (bb.length : Int); omega)) ?_
          refine Aa rfl (A4 (A1 rfl <| Ad) (decide_eq_true (by rw [hcs]; show (_ : Int) = (bb.length : Int); omega)) (Ad)) ?_
          refine Aa rfl (Bc (A6 rfl <| Ar rfl <| Am rfl <| Ad) (decide_eq_false (by rw [hcs]; show ¬ (_ : Int) < (bb.length : Int); omega)) (Ad)) ?_
          refine Ah <| Ac ?_
          by_cases h3 : cmpL (uncleanL s x) bb < 0
          ·
           refine Aq (Ad) (by rw [hcs]; exact decide_eq_true h3) ?_
           subst hoL
           refine Cc (.inr (by kernel_rfl)) (fun _ _ h => h) fun ds => ?_
           refine Aa rfl (Ag (A3 rfl <| A1 rfl <| Ar rfl <| Am rfl <| At rfl hs15)) ?_
           refine Ce (Cg sz_26 (A3 rfl <| A6 rfl <| Al rfl <| A6 rfl <| A1 rfl <| Am rfl <| Al rfl <| A6 rfl <| A1 rfl <| Ar rfl <| Am rfl <| Ad) (Ad) (i := 4) rfl (.here) (by first | rfl | exact hl15.plain.one) (.next <| .next <| .next <| .next <| .here) ?_)
           refine Ce (Cg sz_4 (A3 rfl <| A6 rfl <| Al rfl <| A6 rfl <| Ar rfl <| Am rfl <| Ad) Ab (i := 3) rfl (.here) (by first | rfl | exact hl15.plain.one) (.next <| .next <| .next <| .here) ?_)
           refine Ah <| Ba ?_
           refine En (.one (.here) <| .one (.here) <| .one (.next <| .here) <| .one (.next <| .here) <| .one (.next <| .here) <| .one (.next <| .here) <| .nil) ?_
           refine .inl ⟨rfl, _, rfl, hle, ?_⟩
           exact ⟨_, by rw [cleanS_yes hcs (.inr ⟨h2, h3⟩)]; exact hl15, by rw [cleanS_yes hcs (.inr ⟨h2, h3⟩)]; first | done | rfl⟩
          ·
           refine Ao (Ad) (by rw [hcs]; exact decide_eq_false h3) ?_
           subst hoL
           refine Ay <| Ba ?_
           refine En (.one (.here) <| .one (.here) <| .one (.next <| .here) <| .one (.next <| .here) <| .one (.next <| .here) <| .one (.next <| .here) <| .nil) ?_
           refine .inl ⟨rfl, _, rfl, hle, ?_⟩
           exact ⟨_, by rw [cleanS_no hcs (fun h => h.elim h1 (fun h => h3 h.2))]; exact hv2b, by rw [cleanS_no hcs (fun h => h.elim h1 (fun h => h3 h.2)), hcs]; first | done | rfl⟩
         ·
          refine Ax rfl rfl (Ad) (.inl (congrArg Value.bool (decide_eq_false (by rw [hcs]; show ¬ (_ : Int) = (bb.length : Int); omega)))) rfl ?_
          refine Ax rfl rfl (Am rfl <| Ad) (.inl (congrArg Value.bool (decide_eq_false (by rw [hcs]; show ¬ (_ : Int) = (bb.length : Int); omega)))) rfl ?_
          refine Ax rfl rfl (Ar rfl <| Ad) (.inl (congrArg Value.bool (decide_eq_false (by rw [hcs]; show ¬ (_ : Int) = (bb.length : Int); omega)))) rfl ?_
          refine Ax rfl rfl (Ar rfl <| Am rfl <| Ad) (.inl (congrArg Value.bool (decide_eq_false (by rw [hcs]; show ¬ (_ : Int) = (bb.length : Int); omega)))) rfl ?_
          refine As rfl rfl (A6 rfl <| Ar rfl <| Ad) (decide_eq_false (by rw [hcs]; show ¬ (_ : Int) < (bb.length : Int); omega)) ?_
          refine Aa rfl (Bc (A1 rfl <| Ad) (decide_eq_false (by rw [hcs]; show ¬ (_ : Int) = (bb.length : Int); omega)) Ab) ?_
          refine Aa rfl (Bc (A6 rfl <| Ar rfl <| Am rfl <| Ad) (decide_eq_false (by rw [hcs]; show ¬ (_ : Int) < (bb.length : Int); omega)) (Ad)) ?_
          refine Ah <| Ac <| Ao (Ad) rfl ?_
          subst hoL
          refine Ay <| Ba ?_
          refine En (.one (.here) <| .one (.here) <| .one (.next <| .here) <| .one (.next <| .here) <| .one (.next <| .here) <| .one (.next <| .here) <| .nil) ?_
          refine .inl ⟨rfl, _, rfl, hle, ?_⟩
          exact ⟨_, by rw [cleanS_no hcs (fun h => h.elim h1 (fun h => h2 h.1))]; exact hv2b, by rw [cleanS_no hcs (fun h => h.elim h1 (fun h => h2 h.1)), hcs]; first | done | rfl⟩
    obtain ⟨v2, hv2, rfl⟩ := hJ
    refine Ba <| Ac ?_
    rcases opt_or (cleanR s (allTrees s)) with hcs | ⟨bb, hcs⟩
    ·
     refine Af <| Af <| Ai fun ds => Aa rfl (Ap one_4 (A1 rfl <| Am rfl <| Ad) (Cell.own 0 rfl rfl)) ?_
     refine Aa rfl (Cn (Ad)) ?_
     refine Ah <| Ac <| Aq (Ad) (by rw [hcs]; rfl) ?_
     refine Af <| Ai fun ds => Ce (Cg sz_26 (A6 rfl <| Am rfl <| Al rfl <| A6 rfl <| A1 rfl <| Ar rfl <| Am rfl <| Ad) Ab (i := 1) rfl (.here) rfl (.next <| .here) ?_)
     refine Aa rfl (Ae Ab) ?_
     refine Ah <| Ac <| A2 <| A9 ?_
     refine Au rfl (.one Cf (A6 rfl <| Ar rfl <| Al rfl <| A6 rfl <| A1 rfl <| Ar rfl <| Am rfl <| Ad) (Cell.own 1 rfl rfl) (.tmp (Ad) .nil)) ?_
     rw [cleanE_none h0 hcs]
     exact ⟨_, rfl, Sl.nil⟩
    ·
     refine Af <| Af <| Ai fun ds => Aa rfl (Ap one_4 (A1 rfl <| Am rfl <| Ad) (Cell.own 0 rfl rfl)) ?_
     refine Aa rfl (Cn (Ad)) ?_
     refine Ah <| Ac <| Ao (Ad) (by rw [hcs]; rfl) ?_
     refine Ay <| Ac <| Af <| Ai fun ds => Aa rfl (Ap Cf (A6 rfl <| Am rfl <| Al rfl <| A6 rfl <| A1 rfl <| Ar rfl <| Am rfl <| Ad) (Cell.own 1 rfl rfl)) ?_
     refine Ce (Cg sz_26 (A6 rfl <| Ar rfl <| Al rfl <| A6 rfl <| A1 rfl <| Ar rfl <| Am rfl <| Ad) (Ad) (i := 1) rfl (.here) hv2.plain.one (.next <| .here) ?_)
     refine Aa rfl (Ae Ab) ?_
     refine Ah <| Ac <| A2 <| Au rfl (.one Cf (A6 rfl <| Ar rfl <| Am rfl <| Al rfl <| A6 rfl <| A1 rfl <| Ar rfl <| Am rfl <| Ad) (Cell.own 1 rfl rfl) (.tmp (Ad) .nil)) ?_
     rw [cleanE_some h0 hcs]
     rw [hcs] at hv2
     exact ⟨_, rfl, hv2⟩
 ·
  refine Af <| Ai fun ds => Bg rfl (B2 (Aj rfl) rfl fun b39 hb39 nb39 => ?_)
  refine Bg rfl (B6 zr_26 rfl fun b40 hb40 nb40 => ?_)
  refine Aa rfl (Ae Ab) ?_
  refine Ah <| Ac <| Af <| Ai fun ds => Aa rfl (A7 B4 (Ar rfl <| Ad) rfl rfl (A5 1 rfl)) ?_
  refine By rfl (Bb bd_65 Az (.cons (Ad) .nil) (open_bad hr h0) (fun _ _ h => h)) ?_
  refine Aa rfl (Ag (Ad)) ?_
  refine Aa rfl (Aw (Ad) rfl) ?_
  refine Aa rfl (Aw (Am rfl <| Ad) rfl) ?_
  refine Aa rfl (Ae (Am rfl <| Ad)) ?_
  refine Aa rfl (Ae (Am rfl <| Ad)) ?_
  refine Ah <| Ac <| Af <| Af <| Ai fun ds => Aa rfl (Ag (Ad)) ?_
  refine Aa rfl (B3 (Ad) Ab) ?_
  refine Ah <| Ac <| Aq (Ad) (decide_eq_true h0) ?_
  refine Af <| Ai fun ds => Aa rfl (Ag (Ar rfl <| Ad)) ?_
  refine Ce (Cg sz_26 (A6 rfl <| Ar rfl <| Am rfl <| Ad) Ab (i := 0) rfl (.here) rfl (.here) ?_)
  refine Aa rfl (Ae (Ad)) ?_
  refine Ah <| Ac <| A2 <| A9 ?_
  refine Au rfl (.one Cf (A6 rfl <| A1 rfl <| Ad) (Cell.own 0 rfl rfl) (.tmp (Ad) .nil)) ?_
  rw [cleanE_bad h0]
  exact ⟨_, rfl, Sl.nil⟩
end Go.Proofs.Ytccogmkhijgelaa
namespace Go.Proofs.Ytccogmkhijgelaa
open Go.RowKit
def plA : Plc := ⟨⟨#[97]⟩, 0⟩
def plB : Plc := ⟨⟨#[98]⟩, 1⟩
def plC : Plc := ⟨⟨#[99]⟩, 0⟩
def edQ1 : Edn := ⟨⟨#[113, 49]⟩, 1600, 1600, [1, 1, 1]⟩
def edQ2 : Edn := ⟨⟨#[113, 50]⟩, 1605, 1610, [2, 1, 1]⟩
def edF1 : Edn := ⟨⟨#[102, 49]⟩, 1623, 1623, [2, 2, 1]⟩
def edQ3 : Edn := ⟨⟨#[113, 51]⟩, 1608, 1630, [0, 1, 2]⟩
def stemX : Stm := ⟨[plA, plB, plC], [edQ1, edQ2, edF1, edQ3]⟩
def bestX : List Int := [-1, 0, 1, 0]
def starX : List Int := [-1, 0, 0, 0]
def lineX : List Int := [-1, 0, 1, 2]
def twoX : List Int := [-1, 0, 1, 1]
theorem ev_p1 : apartE stemX 0 2 = ([0, 1], 0) := by kernel_rfl
theorem ev_c1 : changesE stemX starX = (4, 0) := by kernel_rfl
theorem ev_c2 : changesE stemX lineX = (0, 9) := by kernel_rfl
theorem ev_y1 : yearsE stemX twoX = ([(1600, 1600), (1605, 1610), (1623, 1623), (1608, 1630)], 0) := by kernel_rfl
theorem ev_b1 : bestTE stemX = (bestX, 3, 2, 0) := by kernel_rfl
theorem ev_f1 : firstTE stemX = ([0], 0) := by kernel_rfl
theorem ev_m1 : fromE stemX 1 2 = (1, 0) := by kernel_rfl
theorem ev_r1 : readE stemX bestX 3 0 = ([1], 0) := by kernel_rfl
theorem ev_l1 : cleanE stemX = ([], 0) := by kernel_rfl
theorem ev_s1 : secE stemX starX 2 = (1, 1, 0) := by kernel_rfl
theorem ev_s2 : secE stemX bestX 2 = (0, 0, 8) := by kernel_rfl
end Go.Proofs.Ytccogmkhijgelaa
namespace Go.Proofs.Ytccogmkhijgelaa
open Go.RowKit
theorem zr_25 : ZeroT Try.prog 25 (.agg #[.slice none 0 0, .slice none 0 0]) := C3 (by kernel_rfl)
theorem bd_20 : Body Try.prog 20 := Bo (by kernel_rfl)
theorem bd_21 : Body Try.prog 21 := Bo (by kernel_rfl)
theorem bd_23 : Body Try.prog 23 := Bo (by kernel_rfl)
theorem bd_25 : Body Try.prog 25 := Bo (by kernel_rfl)
theorem bd_26 : Body Try.prog 26 := Bo (by kernel_rfl)
theorem bd_27 : Body Try.prog 27 := Bo (by kernel_rfl)
theorem bd_29 : Body Try.prog 29 := Bo (by kernel_rfl)
theorem bd_31 : Body Try.prog 31 := Bo (by kernel_rfl)
theorem bd_33 : Body Try.prog 33 := Bo (by kernel_rfl)
theorem bd_35 : Body Try.prog 35 := Bo (by kernel_rfl)
theorem bd_37 : Body Try.prog 37 := Bo (by kernel_rfl)
theorem bd_39 : Body Try.prog 39 := Bo (by kernel_rfl)
theorem bd_95 : Body Try.prog 95 := Bo (by kernel_rfl)
theorem bt_25 : BuildT Try.prog 25 [.slice none 0 0, .slice none 0 0] [(0, 1), (1, 1)] := buildT_of zr_25 (by kernel_rfl) (by decide)
theorem bt_60 : BuildT Try.prog 60 [.int .i64 0, .int .i64 0] [(0, 1), (1, 1)] := buildT_of zr_60 (by kernel_rfl) (by decide)
theorem bt_64 : BuildT Try.prog 64 [.string ⟨#[]⟩, .int .i64 0, .int .i64 0, .slice none 0 0] [(0, 1), (1, 2), (3, 1)] := buildT_of zr_64 (by kernel_rfl) (by decide)
theorem bt_70 : BuildT Try.prog 70 [.string ⟨#[]⟩, .int .i64 0] [(0, 1), (1, 1)] := buildT_of zr_70 (by kernel_rfl) (by decide)
theorem sz_25 : SizeT Try.prog 25 2 := Cv (by kernel_rfl)
theorem ints_box3 {F : Heap} {b T : Nat} {x y z : Int} (h : F b = some (bx T [.int .i64 x, .int .i64 y, .int .i64 z])) : Ints F (.slice (some ⟨b, 0, none⟩) 3 3) [x, y, z] :=
 sl_box (xs := [x, y, z]) h rfl rfl (fun _ => rfl) (by decide)
theorem ints_box4 {F : Heap} {b T : Nat} {x y z w : Int} (h : F b = some (bx T [.int .i64 x, .int .i64 y, .int .i64 z, .int .i64 w])) : Ints F (.slice (some ⟨b, 0, none⟩) 4 4) [x, y, z, w] :=
 sl_box (xs := [x, y, z, w]) h rfl rfl (fun _ => rfl) (by decide)
theorem plcX_box3 {F : Heap} {b T : Nat} (h : F b = some (bx T [.string ⟨#[97]⟩, .int .i64 0, .string ⟨#[98]⟩, .int .i64 1, .string ⟨#[99]⟩, .int .i64 0])) : Sl F (.slice (some ⟨b, 0, none⟩) 3 3) 2 Plc.enc [plA, plB, plC] :=
 sl_box (xs := [plA, plB, plC]) h rfl rfl (fun _ => rfl) (by decide)
theorem ednX_box4 {F : Heap} {b T : Nat} {v1 v2 v3 v4 : Value} (h : F b = some (bx T [.string ⟨#[113, 49]⟩, .int .i64 1600, .int .i64 1600, v1, .string ⟨#[113, 50]⟩, .int .i64 1605, .int .i64 1610, v2, .string ⟨#[102, 49]⟩, .int .i64 1623, .int .i64 1623, v3, .string ⟨#[113, 51]⟩, .int .i64 1608, .int .i64 1630, v4])) : Sl F (.slice (some ⟨b, 0, none⟩) 4 4) 4 edE [(v1, edQ1), (v2, edQ2), (v3, edF1), (v4, edQ3)] :=
 sl_box (xs := [(v1, edQ1), (v2, edQ2), (v3, edF1), (v4, edQ3)]) h rfl rfl (fun _ => rfl) (by decide)
theorem spansX_box4 {F : Heap} {b T : Nat} (h : F b = some (bx T [.int .i64 1600, .int .i64 1600, .int .i64 1605, .int .i64 1610, .int .i64 1623, .int .i64 1623, .int .i64 1608, .int .i64 1630])) : Sl F (.slice (some ⟨b, 0, none⟩) 4 4) 2 spanE [(1600, 1600), (1605, 1610), (1623, 1623), (1608, 1630)] :=
 sl_box (xs := ([(1600, 1600), (1605, 1610), (1623, 1623), (1608, 1630)] : List (Int × Int))) h rfl rfl (fun _ => rfl) (by decide)
set_option maxRecDepth 100000 in
theorem printed_ok {F : Heap} (nm : ByteArray) (lo hi a b c : Int) : Ok Try.prog 95 [.string nm, .int .i64 lo, .int .i64 hi, .int .i64 a, .int .i64 b, .int .i64 c].toArray F fun u F' => ∃ v, u = .agg #[.string nm, .int .i64 lo, .int .i64 hi, v] ∧ Ints F' v [a, b, c] := by
 refine Ok.intro Try.func95 rfl Try.ntmps95 rfl fun w0 => ?_
 refine Af <| Ai fun ds => Bg rfl (B6 zr_64 rfl fun b1 hb1 nb1 => ?_)
 refine Ah <| Ac <| Af <| Ai fun ds => Aa rfl (Ag (Am rfl <| Aj rfl)) ?_
 refine Aa rfl (Ag (Ar rfl <| Aj rfl)) ?_
 refine Aa rfl (Ag (Ar rfl <| Am rfl <| Aj rfl)) ?_
 refine Aa rfl (Eo bt_60 (.cons (Am rfl <| Ad) rfl (.cons (Ad) rfl .nil)) (.cons rfl rfl (Nat.le_of_ble_eq_true rfl) (.cons (.here) .nil) (.cons rfl rfl (Nat.le_of_ble_eq_true rfl) (.cons (.next <| .here) .nil) .nil))) ?_
 refine Aa rfl (Ag (A1 rfl <| Am rfl <| Aj rfl)) ?_
 refine Aa rfl (Ag (A1 rfl <| Ar rfl <| Aj rfl)) ?_
 refine Aa rfl (Ag (A1 rfl <| Ar rfl <| Am rfl <| Aj rfl)) ?_
 refine Bg rfl (B9 Bn Db rfl (.cons (Ar rfl <| Ad) (.cons (Am rfl <| Ad) (.cons (Ad) .nil))) rfl rfl (by decide) (by simp [Value.oneCell']) fun b2 hb2 nb2 => ?_)
 refine B5 (i := 0) rfl hb2 .here fun F3 hF4 hz5 => ?_
 have hsl6 := ints_box3 hz5
 refine Aa rfl (Eo bt_64 (.cons (A1 rfl <| Ar rfl <| Am rfl <| Ad) rfl (.cons (A1 rfl <| Ad) rfl (.cons (Ad) rfl .nil))) (.cons rfl rfl (Nat.le_of_ble_eq_true rfl) (.cons (.here) .nil) (.cons rfl rfl (Nat.le_of_ble_eq_true rfl) (.cons (.next <| .here) (.cons (.next <| .next <| .here) .nil)) (.cons rfl rfl (Nat.le_of_ble_eq_true rfl) (.cons (.next <| .next <| .next <| .here) .nil) .nil)))) ?_
 refine Ce (B8 sz_64 (A6 rfl <| Am rfl <| Ad) (Ad) (i := 0) rfl rfl rfl rfl (by simp [Value.oneCell']) (.here) ?_)
 refine Ah <| Ac <| A2 <| Au rfl (.agg Eb (A6 rfl <| Am rfl <| Ad) rfl rfl (A5 0 rfl) .nil) ?_
 exact ⟨_, rfl, hsl6⟩
set_option maxRecDepth 100000 in
theorem stemX_ok {F : Heap} : Ok Try.prog 39 [].toArray F fun u F' => ∃ vp ve ps, u = .agg #[vp, ve] ∧ StmR F' vp ve ps stemX := by
 refine Ok.intro Try.func39 rfl Try.ntmps39 rfl fun w0 => ?_
 refine Af <| Ai fun ds => Bg rfl (B6 zr_25 rfl fun b1 hb1 nb1 => ?_)
 refine Ah <| Ac <| Af <| Ai fun ds => Aa rfl (Eo bt_70 (.cons Ab rfl .nil) (.cons rfl rfl (Nat.le_of_ble_eq_true rfl) (.cons (.here) .nil) .nil)) ?_
 refine Aa rfl (Eo bt_70 (.cons Ab rfl (.cons Ab rfl .nil)) (.cons rfl rfl (Nat.le_of_ble_eq_true rfl) (.cons (.here) .nil) (.cons rfl rfl (Nat.le_of_ble_eq_true rfl) (.cons (.next <| .here) .nil) .nil))) ?_
 refine Aa rfl (Eo bt_70 (.cons Ab rfl .nil) (.cons rfl rfl (Nat.le_of_ble_eq_true rfl) (.cons (.here) .nil) .nil)) ?_
 refine Bg rfl (x_buildN (offs := [(0, 2), (2, 2), (4, 2)]) (zl := [.string ⟨#[]⟩, .int .i64 0, .string ⟨#[]⟩, .int .i64 0, .string ⟨#[]⟩, .int .i64 0]) C5 zr_70 rfl (.cons (Ar rfl <| Ad) rfl (.cons (Am rfl <| Ad) rfl (.cons (Ad) rfl .nil))) (by intro i p h; rcases i with _ | _ | _ | i <;> simp at h <;> subst h <;> rfl) (.cons rfl rfl (Nat.le_of_ble_eq_true rfl) (.cons (.here) (.cons (.next <| .here) .nil)) (.cons rfl rfl (Nat.le_of_ble_eq_true rfl) (.cons (.next <| .next <| .here) (.cons (.next <| .next <| .next <| .here) .nil)) (.cons rfl rfl (Nat.le_of_ble_eq_true rfl) (.cons (.next <| .next <| .next <| .next <| .here) (.cons (.next <| .next <| .next <| .next <| .next <| .here) .nil)) .nil))) (by decide) (by decide) fun b2 hb2 nb2 => ?_)
 refine B5 (i := 0) rfl hb2 .here fun F3 hF4 hz5 => ?_
 have hsl6 := plcX_box3 hz5
 refine Bg rfl (Ck bd_95 Az (.cons Ab (.cons Ab (.cons Ab (.cons Ab (.cons Ab (.cons Ab .nil)))))) (printed_ok _ _ _ _ _ _) fun v7 F8 hr9 hF10 => ?_)
 replace hsl6 := hsl6.mono hF10
 obtain ⟨vq1, rfl, hq1⟩ := hr9
 refine Bg rfl (Ck bd_95 Az (.cons Ab (.cons Ab (.cons Ab (.cons Ab (.cons Ab (.cons Ab .nil)))))) (printed_ok _ _ _ _ _ _) fun v11 F12 hr13 hF14 => ?_)
 replace hsl6 := hsl6.mono hF14
 replace hq1 := hq1.mono hF14
 obtain ⟨vq2, rfl, hq2⟩ := hr13
 refine Bg rfl (Ck bd_95 Az (.cons Ab (.cons Ab (.cons Ab (.cons Ab (.cons Ab (.cons Ab .nil)))))) (printed_ok _ _ _ _ _ _) fun v15 F16 hr17 hF18 => ?_)
 replace hsl6 := hsl6.mono hF18
 replace hq1 := hq1.mono hF18
 replace hq2 := hq2.mono hF18
 obtain ⟨vf1, rfl, hf1⟩ := hr17
 refine Bg rfl (Ck bd_95 Az (.cons Ab (.cons Ab (.cons Ab (.cons Ab (.cons Ab (.cons Ab .nil)))))) (printed_ok _ _ _ _ _ _) fun v19 F20 hr21 hF22 => ?_)
 replace hsl6 := hsl6.mono hF22
 replace hq1 := hq1.mono hF22
 replace hq2 := hq2.mono hF22
 replace hf1 := hf1.mono hF22
 obtain ⟨vq3, rfl, hq3⟩ := hr21
 refine Bg rfl (x_buildN (offs := [(0, 4), (4, 4), (8, 4), (12, 4)]) (zl := [.string ⟨#[]⟩, .int .i64 0, .int .i64 0, .slice none 0 0, .string ⟨#[]⟩, .int .i64 0, .int .i64 0, .slice none 0 0, .string ⟨#[]⟩, .int .i64 0, .int .i64 0, .slice none 0 0, .string ⟨#[]⟩, .int .i64 0, .int .i64 0, .slice none 0 0]) B1 zr_64 rfl (.cons (Ar rfl <| Am rfl <| Ad) rfl (.cons (Ar rfl <| Ad) rfl (.cons (Am rfl <| Ad) rfl (.cons (Ad) rfl .nil)))) (by intro i p h; rcases i with _ | _ | _ | _ | i <;> simp at h <;> subst h <;> rfl) (.cons rfl rfl (Nat.le_of_ble_eq_true rfl) (.cons (.here) (.cons (.next <| .here) (.cons (.next <| .next <| .here) (.cons (.next <| .next <| .next <| .here) .nil)))) (.cons rfl rfl (Nat.le_of_ble_eq_true rfl) (.cons (.next <| .next <| .next <| .next <| .here) (.cons (.next <| .next <| .next <| .next <| .next <| .here) (.cons (.next <| .next <| .next <| .next <| .next <| .next <| .here) (.cons (.next <| .next <| .next <| .next <| .next <| .next <| .next <| .here) .nil)))) (.cons rfl rfl (Nat.le_of_ble_eq_true rfl) (.cons (.next <| .next <| .next <| .next <| .next <| .next <| .next <| .next <| .here) (.cons (.next <| .next <| .next <| .next <| .next <| .next <| .next <| .next <| .next <| .here) (.cons (.next <| .next <| .next <| .next <| .next <| .next <| .next <| .next <| .next <| .next <| .here) (.cons (.next <| .next <| .next <| .next <| .next <| .next <| .next <| .next <| .next <| .next <| .next <| .here) .nil)))) (.cons rfl rfl (Nat.le_of_ble_eq_true rfl) (.cons (.next <| .next <| .next <| .next <| .next <| .next <| .next <| .next <| .next <| .next <| .next <| .next <| .here) (.cons (.next <| .next <| .next <| .next <| .next <| .next <| .next <| .next <| .next <| .next <| .next <| .next <| .next <| .here) (.cons (.next <| .next <| .next <| .next <| .next <| .next <| .next <| .next <| .next <| .next <| .next <| .next <| .next <| .next <| .here) (.cons (.next <| .next <| .next <| .next <| .next <| .next <| .next <| .next <| .next <| .next <| .next <| .next <| .next <| .next <| .next <| .here) .nil)))) .nil)))) (by decide) (by decide) fun b23 hb23 nb23 => ?_)
 refine B5 (i := 0) rfl hb23 .here fun F24 hF25 hz26 => ?_
 replace hsl6 := hsl6.mono hF25
 replace hq1 := hq1.mono hF25
 replace hq2 := hq2.mono hF25
 replace hf1 := hf1.mono hF25
 replace hq3 := hq3.mono hF25
 have hsl27 := ednX_box4 hz26
 refine Aa rfl (Eo bt_25 (.cons (A1 rfl <| Am rfl <| Ad) rfl (.cons (Ad) rfl .nil)) (.cons rfl rfl (Nat.le_of_ble_eq_true rfl) (.cons (.here) .nil) (.cons rfl rfl (Nat.le_of_ble_eq_true rfl) (.cons (.next <| .here) .nil) .nil))) ?_
 refine Ce (B8 sz_25 (A6 rfl <| Ar rfl <| Ad) (Ad) (i := 0) rfl rfl rfl rfl (by simp [Value.oneCell']) (.here) ?_)
 refine Ah <| Ac <| A2 <| Au rfl (.agg B4 (A6 rfl <| Ar rfl <| Ad) rfl rfl (A5 0 rfl) .nil) ?_
 refine ⟨_, _, [(vq1, edQ1), (vq2, edQ2), (vf1, edF1), (vq3, edQ3)], rfl, ⟨hsl6, hsl27, ?_, rfl⟩⟩
 intro p hp
 simp only [List.mem_cons, List.not_mem_nil, or_false] at hp
 rcases hp with rfl | rfl | rfl | rfl
 · exact hq1
 · exact hq2
 · exact hf1
 · exact hq3
set_option maxRecDepth 100000 in
theorem awake_ok {F : Heap} : Ok Try.prog 26 [].toArray F fun u _ => u = .bool true := by
 refine Ok.intro Try.func26 rfl Try.ntmps26 rfl fun w0 => ?_
 refine Af <| Ai fun ds => Aa rfl (Ae Ab) ?_
 refine Ah <| Ac <| Af <| Ai fun ds => Bg rfl (Ck bd_39 Az .nil stemX_ok fun v1 F2 hr3 hF4 => ?_)
 obtain ⟨vp, ve, ps, rfl, hr⟩ := hr3
 refine Bg rfl (B6 zr_25 rfl fun b5 hb5 nb5 => ?_)
 refine Ce (B8 sz_25 (Ad) (Am rfl <| Ad) (i := 0) rfl rfl rfl rfl hr.ones (.here) ?_)
 refine Ah <| Ac <| Af <| Ai fun ds => Bg rfl (B9 Bn Db rfl (.cons Ab (.cons Ab (.cons Ab (.cons Ab .nil)))) rfl rfl (by decide) (by simp [Value.oneCell']) fun b6 hb6 nb6 => ?_)
 refine B5 (i := 0) rfl hb6 .here fun F7 hF8 hz9 => ?_
 replace hr := hr.mono hF8
 have hsl10 := ints_box4 hz9
 refine Aa rfl (Ae (Ad)) ?_
 refine Ah <| Ac <| Af <| Ai fun ds => Aa rfl (A7 B4 (Ar rfl <| Ad) rfl rfl (A5 0 rfl)) ?_
 refine Bg rfl (Ck bd_18 Az (.cons (Ad) (.cons Ab (.cons Ab .nil))) ((apart_top_ok hr 0 2).mono fun u F2 _ h => (by rw [ev_p1] at h; exact h : ∃ ws, u = .tuple #[ws, .int .i64 0] ∧ Nats F2 ws [0, 1])) fun v11 F12 hr13 hF14 => ?_)
 replace hr := hr.mono hF14
 replace hsl10 := hsl10.mono hF14
 obtain ⟨hq1_, rfl, hq1⟩ := hr13
 refine Aa rfl (Ag (Ad)) ?_
 refine Aa rfl (Aw (Ad) rfl) ?_
 refine Aa rfl (Aw (Am rfl <| Ad) rfl) ?_
 refine Aa rfl (Ae (Am rfl <| Ad)) ?_
 refine Aa rfl (Ae (Am rfl <| Ad)) ?_
 refine Ah <| Ac <| Af <| Ai fun ds => Aa rfl (A7 B4 (A6 rfl <| Am rfl <| Ad) rfl rfl (A5 0 rfl)) ?_
 refine Bg rfl (B9 Bn Db rfl (.cons Ab (.cons Ab (.cons Ab (.cons Ab .nil)))) rfl rfl (by decide) (by simp [Value.oneCell']) fun b15 hb15 nb15 => ?_)
 refine B5 (i := 0) rfl hb15 .here fun F16 hF17 hz18 => ?_
 replace hr := hr.mono hF17
 replace hsl10 := hsl10.mono hF17
 replace hq1 := hq1.mono hF17
 have hsl19 := ints_box4 hz18
 refine By rfl (Bb bd_21 Az (.cons (Am rfl <| Ad) (.cons (Ad) .nil)) (changes_top_ok hr (l := starX) hsl19) (fun _ _ h => h.trans (show _ = Value.tuple #[.int .i64 4, .int .i64 0] by unfold changesEV; rw [ev_c1]))) ?_
 refine Aa rfl (Ag (Ad)) ?_
 refine Aa rfl (Aw (Ad) rfl) ?_
 refine Aa rfl (Aw (Am rfl <| Ad) rfl) ?_
 refine Aa rfl (Ae (Am rfl <| Ad)) ?_
 refine Aa rfl (Ae (Am rfl <| Ad)) ?_
 refine Ah <| Ac <| Af <| Ai fun ds => Aa rfl (A7 B4 (A3 rfl <| Am rfl <| Ad) rfl rfl (A5 0 rfl)) ?_
 refine Bg rfl (B9 Bn Db rfl (.cons Ab (.cons Ab (.cons Ab (.cons Ab .nil)))) rfl rfl (by decide) (by simp [Value.oneCell']) fun b20 hb20 nb20 => ?_)
 refine B5 (i := 0) rfl hb20 .here fun F21 hF22 hz23 => ?_
 replace hr := hr.mono hF22
 replace hsl10 := hsl10.mono hF22
 replace hq1 := hq1.mono hF22
 have hsl24 := ints_box4 hz23
 refine By rfl (Bb bd_21 Az (.cons (Am rfl <| Ad) (.cons (Ad) .nil)) (changes_top_ok hr (l := lineX) hsl24) (fun _ _ h => h.trans (show _ = Value.tuple #[.int .i64 0, .int .i64 9] by unfold changesEV; rw [ev_c2]))) ?_
 refine Aa rfl (Ag (Ad)) ?_
 refine Aa rfl (Aw (Ad) rfl) ?_
 refine Aa rfl (Aw (Am rfl <| Ad) rfl) ?_
 refine Aa rfl (Ae (Am rfl <| Ad)) ?_
 refine Aa rfl (Ae (Am rfl <| Ad)) ?_
 refine Ah <| Ac <| Af <| Ai fun ds => Aa rfl (A7 B4 (A3 rfl <| A6 rfl <| Am rfl <| Ad) rfl rfl (A5 0 rfl)) ?_
 refine Bg rfl (B9 Bn Db rfl (.cons Ab (.cons Ab (.cons Ab (.cons Ab .nil)))) rfl rfl (by decide) (by simp [Value.oneCell']) fun b25 hb25 nb25 => ?_)
 refine B5 (i := 0) rfl hb25 .here fun F26 hF27 hz28 => ?_
 replace hr := hr.mono hF27
 replace hsl10 := hsl10.mono hF27
 replace hq1 := hq1.mono hF27
 have hsl29 := ints_box4 hz28
 refine Bg rfl (Ck bd_23 Az (.cons (Am rfl <| Ad) (.cons (Ad) .nil)) ((years_top_ok hr (l := twoX) hsl29).mono fun u F2 _ h => (by rw [ev_y1] at h; exact h : ∃ ws, u = .tuple #[ws, .int .i64 0] ∧ (fun F v l => Sl F v 2 spanE l) F2 ws [(1600, 1600), (1605, 1610), (1623, 1623), (1608, 1630)])) fun v30 F31 hr32 hF33 => ?_)
 replace hr := hr.mono hF33
 replace hsl10 := hsl10.mono hF33
 replace hq1 := hq1.mono hF33
 obtain ⟨hq2_, rfl, hq2⟩ := hr32
 refine Aa rfl (Ag (Ad)) ?_
 refine Aa rfl (Aw (Ad) rfl) ?_
 refine Aa rfl (Aw (Am rfl <| Ad) rfl) ?_
 refine Aa rfl (Ae (Am rfl <| Ad)) ?_
 refine Aa rfl (Ae (Am rfl <| Ad)) ?_
 refine Ah <| Ac <| Af <| Ai fun ds => Aa rfl (A7 B4 (Bk rfl <| Am rfl <| Ad) rfl rfl (A5 0 rfl)) ?_
 refine Bg rfl (Ck bd_27 Az (.cons (Ad) .nil) ((best_top_ok hr).mono fun u F2 _ h => (by rw [ev_b1] at h; exact h : ∃ ws, u = .tuple #[ws, .int .i64 3, .int .i64 2, .int .i64 0] ∧ Ints F2 ws bestX)) fun v34 F35 hr36 hF37 => ?_)
 replace hr := hr.mono hF37
 replace hsl10 := hsl10.mono hF37
 replace hq1 := hq1.mono hF37
 replace hq2 := hq2.mono hF37
 obtain ⟨hq3_, rfl, hq3⟩ := hr36
 refine Aa rfl (Ag (Ad)) ?_
 refine Aa rfl (Aw (Ad) rfl) ?_
 refine Aa rfl (Aw (Am rfl <| Ad) rfl) ?_
 refine Aa rfl (Aw (Ar rfl <| Ad) rfl) ?_
 refine Aa rfl (Aw (Ar rfl <| Am rfl <| Ad) rfl) ?_
 refine Aa rfl (Ae (Ar rfl <| Am rfl <| Ad)) ?_
 refine Aa rfl (Ae (Ar rfl <| Am rfl <| Ad)) ?_
 refine Aa rfl (Ae (Ar rfl <| Am rfl <| Ad)) ?_
 refine Aa rfl (Ae (Ar rfl <| Am rfl <| Ad)) ?_
 refine Ah <| Ac <| Af <| Ai fun ds => Aa rfl (A7 B4 (Bk rfl <| A6 rfl <| A1 rfl <| Ad) rfl rfl (A5 0 rfl)) ?_
 refine Bg rfl (Ck bd_29 Az (.cons (Ad) .nil) ((first_top_ok hr).mono fun u F2 _ h => (by rw [ev_f1] at h; exact h : ∃ ws, u = .tuple #[ws, .int .i64 0] ∧ Nats F2 ws [0])) fun v38 F39 hr40 hF41 => ?_)
 replace hr := hr.mono hF41
 replace hsl10 := hsl10.mono hF41
 replace hq1 := hq1.mono hF41
 replace hq2 := hq2.mono hF41
 replace hq3 := hq3.mono hF41
 obtain ⟨hq4_, rfl, hq4⟩ := hr40
 refine Aa rfl (Ag (Ad)) ?_
 refine Aa rfl (Aw (Ad) rfl) ?_
 refine Aa rfl (Aw (Am rfl <| Ad) rfl) ?_
 refine Aa rfl (Ae (Am rfl <| Ad)) ?_
 refine Aa rfl (Ae (Am rfl <| Ad)) ?_
 refine Ah <| Ac <| Af <| Ai fun ds => Aa rfl (A7 B4 (Bk rfl <| A3 rfl <| Ar rfl <| Am rfl <| Ad) rfl rfl (A5 0 rfl)) ?_
 refine By rfl (Bb bd_31 Az (.cons (Ad) (.cons Ab (.cons Ab .nil))) (from_top_ok hr 1 2) (fun _ _ h => h.trans (show _ = Value.tuple #[.int .i64 1, .int .i64 0] by unfold fromV; rw [ev_m1]))) ?_
 refine Aa rfl (Ag (Ad)) ?_
 refine Aa rfl (Aw (Ad) rfl) ?_
 refine Aa rfl (Aw (Am rfl <| Ad) rfl) ?_
 refine Aa rfl (Ae (Am rfl <| Ad)) ?_
 refine Aa rfl (Ae (Am rfl <| Ad)) ?_
 refine Ah <| Ac <| Af <| Ai fun ds => Aa rfl (A7 B4 (Bk rfl <| A3 rfl <| A6 rfl <| Ar rfl <| Ad) rfl rfl (A5 0 rfl)) ?_
 refine Aa rfl (Ag (Bk rfl <| A3 rfl <| A6 rfl <| Am rfl <| Ad)) ?_
 refine Bg rfl (Ck bd_35 Az (.cons (Am rfl <| Ad) (.cons (Ad) (.cons Ab (.cons Ab .nil)))) ((reading_top_ok hr (l := bestX) hsl10 3 0).mono fun u F2 _ h => (by rw [ev_r1] at h; exact h : ∃ ws, u = .tuple #[ws, .int .i64 0] ∧ Ints F2 ws [1])) fun v42 F43 hr44 hF45 => ?_)
 replace hr := hr.mono hF45
 replace hsl10 := hsl10.mono hF45
 replace hq1 := hq1.mono hF45
 replace hq2 := hq2.mono hF45
 replace hq3 := hq3.mono hF45
 replace hq4 := hq4.mono hF45
 obtain ⟨hq5_, rfl, hq5⟩ := hr44
 refine Aa rfl (Ag (Ad)) ?_
 refine Aa rfl (Aw (Ad) rfl) ?_
 refine Aa rfl (Aw (Am rfl <| Ad) rfl) ?_
 refine Aa rfl (Ae (Am rfl <| Ad)) ?_
 refine Aa rfl (Ae (Am rfl <| Ad)) ?_
 refine Ah <| Ac <| Af <| Ai fun ds => Aa rfl (A7 B4 (Bk rfl <| Bk rfl <| Ar rfl <| Ad) rfl rfl (A5 0 rfl)) ?_
 refine Bg rfl (Ck bd_33 Az (.cons (Ad) .nil) ((clean_top_ok hr).mono fun u F2 _ h => (by rw [ev_l1] at h; exact h : ∃ ws, u = .tuple #[ws, .int .i64 0] ∧ Nats F2 ws [])) fun v46 F47 hr48 hF49 => ?_)
 replace hr := hr.mono hF49
 replace hsl10 := hsl10.mono hF49
 replace hq1 := hq1.mono hF49
 replace hq2 := hq2.mono hF49
 replace hq3 := hq3.mono hF49
 replace hq4 := hq4.mono hF49
 replace hq5 := hq5.mono hF49
 obtain ⟨hq6_, rfl, hq6⟩ := hr48
 refine Aa rfl (Ag (Ad)) ?_
 refine Aa rfl (Aw (Ad) rfl) ?_
 refine Aa rfl (Aw (Am rfl <| Ad) rfl) ?_
 refine Aa rfl (Ae (Am rfl <| Ad)) ?_
 refine Aa rfl (Ae (Am rfl <| Ad)) ?_
 refine Ah <| Ac <| Af <| Ai fun ds => Aa rfl (A7 B4 (Bk rfl <| Bk rfl <| A6 rfl <| Am rfl <| Ad) rfl rfl (A5 0 rfl)) ?_
 refine Bg rfl (B9 Bn Db rfl (.cons Ab (.cons Ab (.cons Ab (.cons Ab .nil)))) rfl rfl (by decide) (by simp [Value.oneCell']) fun b50 hb50 nb50 => ?_)
 refine B5 (i := 0) rfl hb50 .here fun F51 hF52 hz53 => ?_
 replace hr := hr.mono hF52
 replace hsl10 := hsl10.mono hF52
 replace hq1 := hq1.mono hF52
 replace hq2 := hq2.mono hF52
 replace hq3 := hq3.mono hF52
 replace hq4 := hq4.mono hF52
 replace hq5 := hq5.mono hF52
 replace hq6 := hq6.mono hF52
 have hsl54 := ints_box4 hz53
 refine By rfl (Bb bd_37 Az (.cons (Am rfl <| Ad) (.cons (Ad) (.cons Ab .nil))) (second_top_ok hr (l := starX) hsl54 2) (fun _ _ h => h.trans (show _ = Value.tuple #[.int .i64 1, .int .i64 1, .int .i64 0] by unfold secV; rw [ev_s1]))) ?_
 refine Aa rfl (Ag (Ad)) ?_
 refine Aa rfl (Aw (Ad) rfl) ?_
 refine Aa rfl (Aw (Am rfl <| Ad) rfl) ?_
 refine Aa rfl (Aw (Ar rfl <| Ad) rfl) ?_
 refine Aa rfl (Ae (Ar rfl <| Ad)) ?_
 refine Aa rfl (Ae (Ar rfl <| Ad)) ?_
 refine Aa rfl (Ae (Ar rfl <| Ad)) ?_
 refine Ah <| Ac <| Af <| Ai fun ds => Aa rfl (A7 B4 (Bk rfl <| Bk rfl <| A3 rfl <| Ar rfl <| Am rfl <| Ad) rfl rfl (A5 0 rfl)) ?_
 refine Aa rfl (Ag (Bk rfl <| Bk rfl <| A3 rfl <| Ar rfl <| Ad)) ?_
 refine By rfl (Bb bd_37 Az (.cons (Am rfl <| Ad) (.cons (Ad) (.cons Ab .nil))) (second_top_ok hr (l := bestX) hsl10 2) (fun _ _ h => h.trans (show _ = Value.tuple #[.int .i64 0, .int .i64 0, .int .i64 8] by unfold secV; rw [ev_s2]))) ?_
 refine Aa rfl (Ag (Ad)) ?_
 refine Aa rfl (Aw (Ad) rfl) ?_
 refine Aa rfl (Aw (Am rfl <| Ad) rfl) ?_
 refine Aa rfl (Aw (Ar rfl <| Ad) rfl) ?_
 refine Aa rfl (Ae (Ar rfl <| Ad)) ?_
 refine Aa rfl (Ae (Ar rfl <| Ad)) ?_
 refine Aa rfl (Ae (Ar rfl <| Ad)) ?_
 refine Ah <| Ac <| Af <| Ai fun ds => Aa rfl (Ag (Bk rfl <| Bk rfl <| A3 rfl <| A1 rfl <| Ad)) ?_
 refine Aa rfl (Bz (Ad) Ab) ?_
 refine Aa rfl (Ag (Ad)) ?_
 refine As rfl rfl (Ad) (by first | rfl | decide) ?_
 refine Aa rfl (Ag (Bk rfl <| Bk rfl <| A6 rfl <| A1 rfl <| Ar rfl <| Am rfl <| Ad)) ?_
 refine As rfl rfl (Am rfl <| Ad) (by first | rfl | decide) ?_
 refine Aa rfl (Bz (Ad) Ab) ?_
 refine Aa rfl (A4 (Ar rfl <| Ad) (by first | rfl | decide) (Ad)) ?_
 refine Aa rfl (Ag (Ad)) ?_
 refine As rfl rfl (Ad) (by first | rfl | decide) ?_
 refine Aa rfl (Ag (Bk rfl <| Bk rfl <| Ar rfl <| Am rfl <| Ad)) ?_
 refine As rfl rfl (Am rfl <| Ad) (by first | rfl | decide) ?_
 refine Aa rfl (Bz (Ad) Ab) ?_
 refine Aa rfl (A4 (Ar rfl <| Ad) (by first | rfl | decide) (Ad)) ?_
 refine Aa rfl (Ag (Ad)) ?_
 refine As rfl rfl (Ad) (by first | rfl | decide) ?_
 refine Aa rfl (Ag (Bk rfl <| A3 rfl <| A6 rfl <| A1 rfl <| Ad)) ?_
 refine As rfl rfl (Am rfl <| Ad) (by first | rfl | decide) ?_
 refine Aa rfl (Bz (Ad) Ab) ?_
 refine Aa rfl (A4 (Ar rfl <| Ad) (by first | rfl | decide) (Ad)) ?_
 refine Aa rfl (Ag (Ad)) ?_
 refine As rfl rfl (Ad) (by first | rfl | decide) ?_
 refine Aa rfl (Ag (Bk rfl <| A3 rfl <| A6 rfl <| Am rfl <| Ad)) ?_
 refine As rfl rfl (Am rfl <| Ad) (by first | rfl | decide) ?_
 refine Aa rfl (Bz (Ad) Ab) ?_
 refine Aa rfl (A4 (Ar rfl <| Ad) (by first | rfl | decide) (Ad)) ?_
 refine Aa rfl (Ag (Ad)) ?_
 refine As rfl rfl (Ad) (by first | rfl | decide) ?_
 refine Aa rfl (Ag (Bk rfl <| A3 rfl <| A1 rfl <| Ar rfl <| Ad)) ?_
 refine As rfl rfl (Am rfl <| Ad) (by first | rfl | decide) ?_
 refine Aa rfl (Bz (Ad) Ab) ?_
 refine Aa rfl (A4 (Ar rfl <| Ad) (by first | rfl | decide) (Ad)) ?_
 refine Aa rfl (Ag (Ad)) ?_
 refine As rfl rfl (Ad) (by first | rfl | decide) ?_
 refine Aa rfl (Ag (Bk rfl <| A3 rfl <| Ar rfl <| Ad)) ?_
 refine As rfl rfl (Am rfl <| Ad) (by first | rfl | decide) ?_
 refine Aa rfl (Bz (Ad) Ab) ?_
 refine Aa rfl (A4 (Ar rfl <| Ad) (by first | rfl | decide) (Ad)) ?_
 refine Aa rfl (Ag (Ad)) ?_
 refine As rfl rfl (Ad) (by first | rfl | decide) ?_
 refine Aa rfl (Ag (Bk rfl <| A6 rfl <| A1 rfl <| Ar rfl <| Am rfl <| Ad)) ?_
 refine As rfl rfl (Am rfl <| Ad) (by first | rfl | decide) ?_
 refine Aa rfl (Bz (Ad) Ab) ?_
 refine Aa rfl (A4 (Ar rfl <| Ad) (by first | rfl | decide) (Ad)) ?_
 refine Aa rfl (Ag (Ad)) ?_
 refine As rfl rfl (Ad) (by first | rfl | decide) ?_
 refine Aa rfl (Ag (Bk rfl <| A6 rfl <| Am rfl <| Ad)) ?_
 refine As rfl rfl (Am rfl <| Ad) (by first | rfl | decide) ?_
 refine Aa rfl (Bz (Ad) Ab) ?_
 refine Aa rfl (A4 (Ar rfl <| Ad) (by first | rfl | decide) (Ad)) ?_
 refine Aa rfl (Ag (Ad)) ?_
 refine As rfl rfl (Ad) (by first | rfl | decide) ?_
 refine Aa rfl (Ag (Bk rfl <| Bk rfl <| Bk rfl <| A1 rfl <| Ar rfl <| Am rfl <| Ad)) ?_
 refine As rfl rfl (Am rfl <| Ad) (by first | rfl | decide) ?_
 refine Aa rfl (Bz (Ad) Ab) ?_
 refine Aa rfl (A4 (Ar rfl <| Ad) (by first | rfl | decide) (Ad)) ?_
 refine Aa rfl (Ag (Ad)) ?_
 refine As rfl rfl (Ad) (by first | rfl | decide) ?_
 refine Aa rfl (Ag (Bk rfl <| A1 rfl <| Ar rfl <| Am rfl <| Ad)) ?_
 refine As rfl rfl (Am rfl <| Ad) (by first | rfl | decide) ?_
 refine Aa rfl (Bz (Ad) Ab) ?_
 refine Aa rfl (A4 (Ar rfl <| Ad) (by first | rfl | decide) (Ad)) ?_
 refine Aa rfl (Ag (Ad)) ?_
 refine As rfl rfl (Ad) (by first | rfl | decide) ?_
 refine Aa rfl (Ag (Bk rfl <| Bk rfl <| Bk rfl <| Bk rfl <| Ad)) ?_
 refine As rfl rfl (Am rfl <| Ad) (by first | rfl | decide) ?_
 refine Bg rfl (B9 Bn Db rfl (.cons Ab (.cons Ab .nil)) rfl rfl (by decide) (by simp [Value.oneCell']) fun b55 hb55 nb55 => ?_)
 refine B5 (i := 0) rfl hb55 .here fun F56 hF57 hz58 => ?_
 replace hsl10 := hsl10.mono hF57
 replace hq1 := hq1.mono hF57
 replace hq2 := hq2.mono hF57
 replace hq3 := hq3.mono hF57
 replace hq4 := hq4.mono hF57
 replace hq5 := hq5.mono hF57
 replace hq6 := hq6.mono hF57
 have hsl59 := ints_box2 hz58
 refine As rfl rfl (Ar rfl <| Ad) (by first | rfl | decide) ?_
 refine By rfl (Bb bd_20 Az (.cons (Am rfl <| Ad) (.cons (Ad) .nil)) (refInts_ok (Nats.ints hq1) hsl59) (fun _ _ h => h)) ?_
 refine Aa rfl (A4 (Ar rfl <| Am rfl <| Ad) (by first | rfl | decide) (Ad)) ?_
 refine Aa rfl (Ag (Ad)) ?_
 refine As rfl rfl (Ad) (by first | rfl | decide) ?_
 refine Aa rfl (Ag (Bk rfl <| Bk rfl <| Bk rfl <| A3 rfl <| A6 rfl <| A1 rfl <| Am rfl <| Ad)) ?_
 refine As rfl rfl (Am rfl <| Ad) (by first | rfl | decide) ?_
 refine Aa rfl (Bz (Ad) Ab) ?_
 refine Aa rfl (A4 (Ar rfl <| Ad) (by first | rfl | decide) (Ad)) ?_
 refine Aa rfl (Ag (Ad)) ?_
 refine As rfl rfl (Ad) (by first | rfl | decide) ?_
 refine Aa rfl (Ag (Bk rfl <| Bk rfl <| Bk rfl <| A3 rfl <| Am rfl <| Ad)) ?_
 refine As rfl rfl (Am rfl <| Ad) (by first | rfl | decide) ?_
 refine Aa rfl (Eo bt_60 (.cons Ab rfl (.cons Ab rfl .nil)) (.cons rfl rfl (Nat.le_of_ble_eq_true rfl) (.cons (.here) .nil) (.cons rfl rfl (Nat.le_of_ble_eq_true rfl) (.cons (.next <| .here) .nil) .nil))) ?_
 refine As rfl rfl (Ar rfl <| Ad) (by first | rfl | decide) ?_
 refine Aa rfl (Eo bt_60 (.cons Ab rfl (.cons Ab rfl .nil)) (.cons rfl rfl (Nat.le_of_ble_eq_true rfl) (.cons (.here) .nil) (.cons rfl rfl (Nat.le_of_ble_eq_true rfl) (.cons (.next <| .here) .nil) .nil))) ?_
 refine As rfl rfl (Ar rfl <| Am rfl <| Ad) (by first | rfl | decide) ?_
 refine Aa rfl (Eo bt_60 (.cons Ab rfl (.cons Ab rfl .nil)) (.cons rfl rfl (Nat.le_of_ble_eq_true rfl) (.cons (.here) .nil) (.cons rfl rfl (Nat.le_of_ble_eq_true rfl) (.cons (.next <| .here) .nil) .nil))) ?_
 refine As rfl rfl (A1 rfl <| Ad) (by first | rfl | decide) ?_
 refine Aa rfl (Eo bt_60 (.cons Ab rfl (.cons Ab rfl .nil)) (.cons rfl rfl (Nat.le_of_ble_eq_true rfl) (.cons (.here) .nil) (.cons rfl rfl (Nat.le_of_ble_eq_true rfl) (.cons (.next <| .here) .nil) .nil))) ?_
 refine As rfl rfl (A1 rfl <| Am rfl <| Ad) (by first | rfl | decide) ?_
 refine Bg rfl (x_buildN (offs := [(0, 2), (2, 2), (4, 2), (6, 2)]) (zl := [.int .i64 0, .int .i64 0, .int .i64 0, .int .i64 0, .int .i64 0, .int .i64 0, .int .i64 0, .int .i64 0]) Em zr_60 rfl (.cons (Ar rfl <| Am rfl <| Ad) rfl (.cons (Ar rfl <| Ad) rfl (.cons (Am rfl <| Ad) rfl (.cons (Ad) rfl .nil)))) (by intro i p h; rcases i with _ | _ | _ | _ | i <;> simp at h <;> subst h <;> rfl) (.cons rfl rfl (Nat.le_of_ble_eq_true rfl) (.cons (.here) (.cons (.next <| .here) .nil)) (.cons rfl rfl (Nat.le_of_ble_eq_true rfl) (.cons (.next <| .next <| .here) (.cons (.next <| .next <| .next <| .here) .nil)) (.cons rfl rfl (Nat.le_of_ble_eq_true rfl) (.cons (.next <| .next <| .next <| .next <| .here) (.cons (.next <| .next <| .next <| .next <| .next <| .here) .nil)) (.cons rfl rfl (Nat.le_of_ble_eq_true rfl) (.cons (.next <| .next <| .next <| .next <| .next <| .next <| .here) (.cons (.next <| .next <| .next <| .next <| .next <| .next <| .next <| .here) .nil)) .nil)))) (by decide) (by decide) fun b60 hb60 nb60 => ?_)
 refine B5 (i := 0) rfl hb60 .here fun F61 hF62 hz63 => ?_
 replace hsl10 := hsl10.mono hF62
 replace hq2 := hq2.mono hF62
 replace hq3 := hq3.mono hF62
 replace hq4 := hq4.mono hF62
 replace hq5 := hq5.mono hF62
 replace hq6 := hq6.mono hF62
 have hsl64 := spansX_box4 hz63
 refine As rfl rfl (A1 rfl <| Ar rfl <| Ad) (by first | rfl | decide) ?_
 refine By rfl (Bb bd_25 Az (.cons (A1 rfl <| Am rfl <| Ad) (.cons (Ad) .nil)) (refSpans_ok hq2 hsl64) (fun _ _ h => h)) ?_
 refine Aa rfl (A4 (A1 rfl <| Ar rfl <| Am rfl <| Ad) (by first | rfl | decide) (Ad)) ?_
 refine Aa rfl (Ag (Ad)) ?_
 refine As rfl rfl (Ad) (by first | rfl | decide) ?_
 refine Aa rfl (Ag (Bk rfl <| Bk rfl <| Bk rfl <| A3 rfl <| Am rfl <| Ad)) ?_
 refine As rfl rfl (Am rfl <| Ad) (by first | rfl | decide) ?_
 refine Aa rfl (Ag (Bk rfl <| Bk rfl <| Bk rfl <| Bk rfl <| A3 rfl <| A6 rfl <| Am rfl <| Ad)) ?_
 refine As rfl rfl (Ar rfl <| Ad) (by first | rfl | decide) ?_
 refine By rfl (Bb bd_20 Az (.cons (Am rfl <| Ad) (.cons (Ad) .nil)) (refInts_ok hq3 hsl10) (fun _ _ h => h)) ?_
 refine Aa rfl (A4 (Ar rfl <| Am rfl <| Ad) (by first | rfl | decide) (Ad)) ?_
 refine Aa rfl (Ag (Ad)) ?_
 refine As rfl rfl (Ad) (by first | rfl | decide) ?_
 refine Aa rfl (Ag (Bk rfl <| Bk rfl <| Bk rfl <| A3 rfl <| A1 rfl <| Am rfl <| Ad)) ?_
 refine As rfl rfl (Am rfl <| Ad) (by first | rfl | decide) ?_
 refine Aa rfl (Bz (Ad) Ab) ?_
 refine Aa rfl (A4 (Ar rfl <| Ad) (by first | rfl | decide) (Ad)) ?_
 refine Aa rfl (Ag (Ad)) ?_
 refine As rfl rfl (Ad) (by first | rfl | decide) ?_
 refine Aa rfl (Ag (Bk rfl <| Bk rfl <| Bk rfl <| A3 rfl <| A6 rfl <| Ad)) ?_
 refine As rfl rfl (Am rfl <| Ad) (by first | rfl | decide) ?_
 refine Aa rfl (Bz (Ad) Ab) ?_
 refine Aa rfl (A4 (Ar rfl <| Ad) (by first | rfl | decide) (Ad)) ?_
 refine Aa rfl (Ag (Ad)) ?_
 refine As rfl rfl (Ad) (by first | rfl | decide) ?_
 refine Aa rfl (Ag (Bk rfl <| Bk rfl <| Bk rfl <| A3 rfl <| A1 rfl <| Am rfl <| Ad)) ?_
 refine As rfl rfl (Am rfl <| Ad) (by first | rfl | decide) ?_
 refine Bg rfl (B9 Bn Db rfl (.cons Ab .nil) rfl rfl (by decide) (by simp [Value.oneCell']) fun b65 hb65 nb65 => ?_)
 refine B5 (i := 0) rfl hb65 .here fun F66 hF67 hz68 => ?_
 replace hq4 := hq4.mono hF67
 replace hq5 := hq5.mono hF67
 replace hq6 := hq6.mono hF67
 have hsl69 := Cy hz68
 refine As rfl rfl (Ar rfl <| Ad) (by first | rfl | decide) ?_
 refine By rfl (Bb bd_20 Az (.cons (Am rfl <| Ad) (.cons (Ad) .nil)) (refInts_ok (Nats.ints hq4) hsl69) (fun _ _ h => h)) ?_
 refine Aa rfl (A4 (Ar rfl <| Am rfl <| Ad) (by first | rfl | decide) (Ad)) ?_
 refine Aa rfl (Ag (Ad)) ?_
 refine As rfl rfl (Ad) (by first | rfl | decide) ?_
 refine Aa rfl (Ag (Bk rfl <| Bk rfl <| Bk rfl <| A3 rfl <| Ar rfl <| Am rfl <| Ad)) ?_
 refine As rfl rfl (Am rfl <| Ad) (by first | rfl | decide) ?_
 refine Aa rfl (Bz (Ad) Ab) ?_
 refine Aa rfl (A4 (Ar rfl <| Ad) (by first | rfl | decide) (Ad)) ?_
 refine Aa rfl (Ag (Ad)) ?_
 refine As rfl rfl (Ad) (by first | rfl | decide) ?_
 refine Aa rfl (Ag (Bk rfl <| Bk rfl <| Bk rfl <| A6 rfl <| A1 rfl <| Ar rfl <| Am rfl <| Ad)) ?_
 refine As rfl rfl (Am rfl <| Ad) (by first | rfl | decide) ?_
 refine Bg rfl (B9 Bn Db rfl (.cons Ab .nil) rfl rfl (by decide) (by simp [Value.oneCell']) fun b70 hb70 nb70 => ?_)
 refine B5 (i := 0) rfl hb70 .here fun F71 hF72 hz73 => ?_
 replace hq5 := hq5.mono hF72
 replace hq6 := hq6.mono hF72
 have hsl74 := Cy hz73
 refine As rfl rfl (Ar rfl <| Ad) (by first | rfl | decide) ?_
 refine By rfl (Bb bd_20 Az (.cons (Am rfl <| Ad) (.cons (Ad) .nil)) (refInts_ok hq5 hsl74) (fun _ _ h => h)) ?_
 refine Aa rfl (A4 (Ar rfl <| Am rfl <| Ad) (by first | rfl | decide) (Ad)) ?_
 refine Aa rfl (Ag (Ad)) ?_
 refine As rfl rfl (Ad) (by first | rfl | decide) ?_
 refine Aa rfl (Ag (Bk rfl <| Bk rfl <| Bk rfl <| A6 rfl <| A1 rfl <| Am rfl <| Ad)) ?_
 refine As rfl rfl (Am rfl <| Ad) (by first | rfl | decide) ?_
 refine Aa rfl (Bl Bn (Ad) hq6.plain) ?_
 refine As rfl rfl (Ar rfl <| Ad) (by first | rfl | decide) ?_
 refine Aa rfl (Bz (Ad) Ab) ?_
 refine Aa rfl (A4 (Ar rfl <| Am rfl <| Ad) (by first | rfl | decide) (Ad)) ?_
 refine Aa rfl (Ag (Ad)) ?_
 refine As rfl rfl (Ad) (by first | rfl | decide) ?_
 refine Aa rfl (Ag (Bk rfl <| Bk rfl <| Bk rfl <| A6 rfl <| Am rfl <| Ad)) ?_
 refine As rfl rfl (Am rfl <| Ad) (by first | rfl | decide) ?_
 refine Aa rfl (Bz (Ad) Ab) ?_
 refine Aa rfl (A4 (Ar rfl <| Ad) (by first | rfl | decide) (Ad)) ?_
 refine Aa rfl (Ag (Ad)) ?_
 refine As rfl rfl (Ad) (by first | rfl | decide) ?_
 refine Aa rfl (Ag (Bk rfl <| Bk rfl <| Bk rfl <| A6 rfl <| A1 rfl <| Ad)) ?_
 refine As rfl rfl (Am rfl <| Ad) (by first | rfl | decide) ?_
 refine Aa rfl (Bz (Ad) Ab) ?_
 refine Aa rfl (A4 (Ar rfl <| Ad) (by first | rfl | decide) (Ad)) ?_
 refine Aa rfl (Ae (Ad)) ?_
 refine Ah <| Ac <| A2 <| Au rfl (.tmp (Ad) .nil) ?_
 show _ = _
 first | rfl | decide
end Go.Proofs.Ytccogmkhijgelaa
namespace Go.Proofs.Ytccogmkhijgelaa
/-- What was taken so far, and what is left. -/
structure TreeI (n : Nat) (g : Nat → Int) (taken left : List Nat) : Prop where
 nodup : (taken ++ left).Nodup
 len : taken.length + left.length = n
 all : ∀ i, i < n ↔ i ∈ taken ++ left
 root : ∀ (h : 0 < taken.length), g taken[0] = -1
 up : ∀ j (h : j < taken.length), 0 < j → ∃ k, ∃ hk : k < j, g taken[j] = (taken[k] : Int)
theorem TreeI.start {n : Nat} {g : Nat → Int} : TreeI n g [] (List.range n) := ⟨by simpa using List.nodup_range, by simp, fun i => by simp, fun h => absurd h (by simp), fun j h => absurd h (by simp)⟩
theorem erase_perm {α : Type} {l : List α} {k : Nat} (hk : k < l.length) : l.Perm (l[k] :: l.eraseIdx k) := by
 rw [List.eraseIdx_eq_take_drop_succ]
 have h : l = l.take k ++ l[k] :: l.drop (k + 1) := by rw [← List.drop_eq_getElem_cons hk, List.take_append_drop]
 conv => lhs; rw [h]
 exact List.perm_middle
section
variable {n : Nat} {g : Nat → Int} {taken left : List Nat} {k : Nat}
theorem TreeI.perm (hk : k < left.length) : (taken ++ left).Perm ((taken ++ [left[k]]) ++ left.eraseIdx k) := by
 rw [List.append_assoc]
 exact (erase_perm hk).append_left taken
theorem TreeI.fresh (h : TreeI n g taken left) (hk : k < left.length) {j : Nat} (hj : j < taken.length) : taken[j] ≠ left[k] := fun he => by
 have := (List.nodup_append.1 h.nodup).2.2 _ (List.getElem_mem hj) _ (List.getElem_mem hk)
 exact this he
theorem TreeI.lt (h : TreeI n g taken left) (hk : k < left.length) : left[k] < n := (h.all _).2 (List.mem_append_right _ (List.getElem_mem hk))
theorem TreeI.step (h : TreeI n g taken left) (hk : k < left.length) {g' : Nat → Int} (hg : ∀ i, i ≠ left[k] → g' i = g i) (h0 : taken.length = 0 → g' left[k] = -1) (h1 : 0 < taken.length → ∃ q, ∃ hq : q < taken.length, g' left[k] = (taken[q] : Int)) :
   TreeI n g' (taken ++ [left[k]]) (left.eraseIdx k) := by
 have hp := TreeI.perm (taken := taken) hk
 refine ⟨hp.nodup_iff.1 h.nodup, by have := h.len; rw [List.length_append, List.length_eraseIdx_of_lt hk, List.length_singleton]; omega, fun i => (h.all i).trans hp.mem_iff, fun hl => ?_, fun j hj hj0 => ?_⟩
 · by_cases ht : 0 < taken.length
   · rw [List.getElem_append_left ht, hg _ (h.fresh hk ht)]; exact h.root ht
   · rw [List.getElem_append_right (by omega)]
     simp only [List.getElem_singleton]
     exact h0 (by omega)
 · by_cases ht : j < taken.length
   · obtain ⟨q, hq, he⟩ := h.up j ht hj0
     refine ⟨q, hq, ?_⟩
     rw [List.getElem_append_left ht, List.getElem_append_left (by omega), hg _ (h.fresh hk ht)]; exact he
   · have hj2 : j = taken.length := by simp at hj; omega
     subst hj2
     obtain ⟨q, hq, he⟩ := h1 hj0
     refine ⟨q, hq, ?_⟩
     rw [List.getElem_append_right (Nat.le_refl _), List.getElem_append_left hq]
     simp only [List.getElem_singleton]
     exact he
end
theorem reach_le {l : List Int} {i f : Nat} (h : reach l f i = true) : ∀ d, reach l (f + d) i = true
 | 0 => h
 | d + 1 => reach_succ (reach_le h d)
theorem firsts_uniq {l : List Int} {r : Nat} (hr : upN l r = -1) : ∀ {k : Nat}, (∀ i, i < k → upN l i = -1 → i = r) → firstsN l k = if r < k then 1 else 0
 | 0, _ => by simp [firstsN]
 | k + 1, h => by
   unfold firstsN
   rw [firsts_uniq hr (fun i hi => h i (by omega))]
   by_cases hk : upN l k = -1
   · have := h k (by omega) hk
     subst this
     rw [if_pos hk, if_neg (by omega), if_pos (by omega)]; rfl
   · rw [if_neg hk]
     have : r ≠ k := fun e => hk (by rw [← e]; exact hr)
     by_cases hrk : r < k
     · rw [if_pos hrk, if_pos (by omega)]
     · rw [if_neg hrk, if_neg (by omega)]
def listG (g : Nat → Int) (n : Nat) : List Int := (List.range n).map g
theorem TreeI.tree {n : Nat} {g : Nat → Int} {taken : List Nat} (h : TreeI n g taken []) (hn : 0 < n) : IsTree (listG g n) := by
 have hlen : (listG g n).length = n := by simp [listG]
 have hup : ∀ i, i < n → upN (listG g n) i = g i := fun i hi => upN_map hi
 have hall : ∀ i, i < n ↔ i ∈ taken := fun i => by rw [h.all i, List.append_nil]
 have htl : taken.length = n := by have := h.len; simpa using this
 have hlt : ∀ j (hj : j < taken.length), taken[j] < n := fun j hj => (hall _).2 (List.getElem_mem hj)
 refine ⟨fun i hi => ?_, fun i hi => ?_, ?_⟩
 · rw [hlen] at hi ⊢
   rw [hup i hi]
   obtain ⟨j, hj, rfl⟩ := List.getElem_of_mem ((hall i).1 hi)
   by_cases hj0 : j = 0
   · subst hj0; rw [h.root hj]; omega
   · obtain ⟨k, hk, he⟩ := h.up j hj (by omega)
     rw [he]
     have := hlt k (by omega)
     omega
 · rw [hlen] at hi ⊢
   obtain ⟨j, hj, rfl⟩ := List.getElem_of_mem ((hall i).1 hi)
   have key : ∀ j (hj : j < taken.length), reach (listG g n) j taken[j] = true := by
     intro j
     induction j using Nat.strongRecOn with
     | _ j ih =>
       intro hj
       by_cases hj0 : j = 0
       · subst hj0; exact reach_end (by rw [hup _ (hlt 0 hj)]; exact h.root hj)
       · obtain ⟨k, hk, he⟩ := h.up j hj (by omega)
         obtain ⟨j', rfl⟩ : ∃ j', j = j' + 1 := ⟨j - 1, by omega⟩
         rw [reach_step (j := taken[k]) (by rw [hup _ (hlt _ hj)]; exact he)]
         have := reach_le (ih k hk (by omega)) (j' - k)
         rw [show k + (j' - k) = j' by omega] at this
         exact this
   have := reach_le (key j hj) (n - j)
   rw [show j + (n - j) = n by omega] at this
   exact this
 · rw [hlen]
   have h0 : 0 < taken.length := by omega
   rw [firsts_uniq (r := taken[0]) (by rw [hup _ (hlt 0 h0)]; exact h.root h0) fun i hi hu => ?_, if_pos (hlt 0 h0)]
   rw [hup i hi] at hu
   obtain ⟨j, hj, rfl⟩ := List.getElem_of_mem ((hall i).1 hi)
   by_cases hj0 : j = 0
   · subst hj0; rfl
   · obtain ⟨k, hk, he⟩ := h.up j hj (by omega)
     omega
end Go.Proofs.Ytccogmkhijgelaa
namespace Go.Proofs.Ytccogmkhijgelaa
open Go.RowKit
theorem one_5 : OneT Try.prog 5 := Dn (by kernel_rfl)
set_option maxRecDepth 100000 in
theorem valid_ok {F : Heap} {vp ve : Value} {ps : List (Value × Edn)} {s : Stm} (hr : StmR F vp ve ps s) : Ok Try.prog 40 [.agg #[vp, ve]].toArray F fun u _ => u = .bool (decide ((checkT s).2.2 = 0)) := by
 refine Ok.intro Try.func40 rfl Try.ntmps40 rfl fun w0 => ?_
 refine Af <| Ai fun ds => Bg rfl (B2 (Aj rfl) rfl fun b1 hb1 nb1 => ?_)
 refine Aa rfl (Ae Ab) ?_
 refine Ah <| Ac <| Af <| Ai fun ds => Aa rfl (A7 B4 (Am rfl <| Ad) rfl rfl (A5 0 rfl)) ?_
 refine By rfl (Bb bd_17 Az (.cons (Ad) .nil) (refCheckT_ok hr) (fun _ _ h => h.trans (show checkTV s = .tuple #[.int .i64 (checkT s).1, .int .i64 (checkT s).2.1, .int .i64 (checkT s).2.2] from rfl))) ?_
 refine Aa rfl (Ag (Ad)) ?_
 refine Aa rfl (Aw (Ad) rfl) ?_
 refine Aa rfl (Aw (Am rfl <| Ad) rfl) ?_
 refine Aa rfl (Aw (Ar rfl <| Ad) rfl) ?_
 refine Aa rfl (Ae (Ar rfl <| Ad)) ?_
 refine Aa rfl (Ae (Ar rfl <| Ad)) ?_
 refine Aa rfl (Ae (Ar rfl <| Ad)) ?_
 refine Ah <| Ac <| Af <| Ai fun ds => Aa rfl (Ag (Ad)) ?_
 refine Aa rfl (Bz (Ad) Ab) ?_
 refine Aa rfl (Ae (Ad)) ?_
 refine Ah <| Ac <| A2 <| Au rfl (.tmp (Ad) .nil) ?_
 rfl
end Go.Proofs.Ytccogmkhijgelaa
namespace Go.Proofs.Ytccogmkhijgelaa
theorem cost_nofit {s : Stm} {l : List Int} (h : fitsT s l = false) : costL s l = 1000 := by unfold costL; unfold fitsT at h; rw [h]; rfl
theorem fit_of_cost {s : Stm} {l : List Int} (h : costL s l < 1000) : fitsT s l = true := by
 cases hf : fitsT s l with
 | true => rfl
 | false => rw [cost_nofit hf] at h; omega
section
variable {s : Stm} {l : List Int}
theorem years_edge (ht : IsTree l) (hl : l.length = s.editions.length) {i k : Nat} (hi : i < l.length) (h : upN l i = (k : Int)) : firstY s (treeE l) k + 1 ≤ firstY s (treeE l) i ∧ lastY s (treeE l) k + 1 ≤ lastY s (treeE l) i := by
 have he := treeE_at hi h
 have hd : Dag s.editions.length (treeE l) := by rw [← hl]; exact ht.dag
 refine ⟨hd.fits (base := fun i => (s.ed i).lo) he, ?_⟩
 have h1 := hd.swap.fits (base := fun i => -(s.ed i).hi) (e := (i, k)) (Dk.2 he)
 simp only at h1
 unfold lastY
 omega
end
theorem cost_sum {s : Stm} {l : List Int} (h : costL s l < 1000) : costL s l = sumN s.places.length (leastL s l) ∧ ∀ p, p < s.places.length → leastL s l p < 1000 := by
 have hf := fit_of_cost h
 unfold fitsT at hf
 unfold costL at h ⊢
 rw [if_pos hf] at h ⊢
 refine ⟨by omega, fun p hp => ?_⟩
 have := sumN_mem (n := s.places.length) (i := p) (f := leastL s l) (fun i _ => Df.1) hp
 omega
theorem least_some {s : Stm} {l : List Int} {p : Nat} (hl : l.length = s.editions.length) (h : leastL s l p < 1000) : ∃ g, Filling s l p g ∧ Possible s l p g ∧ changesOf l g = leastL s l p := by
 rcases foldmin_or (f := countL s l p) (l := allFill s p) (m := 1000) with h1 | ⟨x, hx, h1⟩
 · have : leastL s l p = 1000 := h1
   omega
 · have h2 : leastL s l p = countL s l p x := h1
   have h3 := ((allFill_mem hl).1 hx).2
   rw [h2] at h
   unfold countL at h h2
   split at h
   · rename_i h4
     rw [if_pos h4] at h2
     exact ⟨_, h3, possB_iff.1 h4, h2.symm⟩
   · omega
end Go.Proofs.Ytccogmkhijgelaa
namespace Go.Proofs.Ytccogmkhijgelaa
open Go.RowKit
theorem bd_40 : Body Try.prog 40 := Bo (by kernel_rfl)
end Go.Proofs.Ytccogmkhijgelaa
namespace Go.Proofs.Ytccogmkhijgelaa
def EarR (F : Heap) (u : Go.Value) (s : Stm) (E : Edges) : Prop := fitsE s E = true ∧ Ints F u (iL (firstY s E) s.editions.length) ∨ fitsE s E = false ∧ u = .slice none 0 0
theorem EarR.mono {F F' : Heap} {u : Go.Value} {s : Stm} {E : Edges} (h : EarR F u s E) (hF : F.le F') : EarR F' u s E := h.elim (fun h => .inl ⟨h.1, h.2.mono hF⟩) .inr
theorem EarR.nil {F : Heap} {u : Go.Value} {s : Stm} {E : Edges} (h : EarR F u s E) (hn : 0 < s.editions.length) : ∃ a k c, u = .slice a k c ∧ (decide (a = none)) = !(fitsE s E) := by
 rcases h with ⟨h1, h2⟩ | ⟨h1, rfl⟩
 · obtain ⟨a, c, rfl, -, g2, -, -⟩ := h2.plain
   refine ⟨a, _, c, rfl, ?_⟩
   rw [h1]
   refine decide_eq_false fun h => ?_
   have := (g2 h).1
   rw [Ej] at this
   omega
 · exact ⟨none, 0, 0, rfl, by rw [h1]; rfl⟩
section
variable {s : Stm} {l : List Int} {M : Edges} {r i q : Nat} {cur : Nat → Int}
end
end Go.Proofs.Ytccogmkhijgelaa
namespace Go.Proofs.Ytccogmkhijgelaa
open Go.RowKit
theorem q_remN {P : Program} {B : Base} {e : Env} {σ : St} {d : Option Nat} {ty : TypeId} {pos : String} {af : Array Edge} {gd : Option (Nat × Bool)} {x y : Operand} {a b : Nat} {k : IntKind} {t u : TypeId} (hx : ev e x = .int k (a : Int)) (hy : ev e y = .int k (b : Int)) (hb : 0 < b) :
   OpR P B ⟨d, .binOp .rem t x y u, ty, pos, af, gd⟩ e σ (.int k ((a % b : Nat) : Int)) := by
 have := q_rem (P := P) (B := B) (σ := σ) (d := d) (ty := ty) (pos := pos) (af := af) (gd := gd) (t := t) (u := u) hx hy (Int.natCast_nonneg a) (by omega)
 rwa [← Int.natCast_emod] at this
end Go.Proofs.Ytccogmkhijgelaa
namespace Go.Proofs.Ytccogmkhijgelaa
open Go.RowKit
theorem ar_62 : ArrT Try.prog 62 2 5 1 := arrT_of (by kernel_rfl)
end Go.Proofs.Ytccogmkhijgelaa
namespace Go.Proofs.Ytccogmkhijgelaa
def diffN (l : List ByteArray) : Prop := l.Pairwise fun a b => sameS a b = false
theorem sameS_symm {a b : ByteArray} : sameS a b = sameS b a := by unfold sameS; rw [Bool.eq_iff_iff, beq_iff_eq, beq_iff_eq]; exact eq_comm
theorem diffN_iff {α : Type} {f : α → ByteArray} {l : List α} : diffN (l.map f) ↔ ∀ j (hj : j < l.length), (l.take j).any (fun y => sameS (f y) (f l[j])) = false := by
 unfold diffN
 rw [List.pairwise_map, List.pairwise_iff_getElem]
 constructor
 · intro h j hj
   rw [List.any_eq_false]
   intro y hy
   obtain ⟨i, hi, rfl⟩ := List.getElem_of_mem hy
   rw [List.length_take] at hi
   rw [List.getElem_take]
   rw [h i j (by omega) hj (by omega)]; simp
 · intro h i j hi hj hij
   have := List.any_eq_false.1 (h j hj) l[i] (by rw [List.mem_iff_getElem]; exact ⟨i, by rw [List.length_take]; omega, by rw [List.getElem_take]⟩)
   simpa using this
structure CheckOk (s : Stm) : Prop where
 np : inB 1 6 s.places.length = true
 pl : ∀ x ∈ s.places, nameOk x.name = true ∧ inB 0 1 x.kind = true
 pn : diffN (s.places.map (·.name))
 ne : inB 1 5 s.editions.length = true
 ed : ∀ x ∈ s.editions, nameOk x.name = true ∧ ednErr s x = 0
 en : diffN (s.editions.map (·.name))
theorem check_ok {s : Stm} : (checkT s).2.2 = 0 ↔ CheckOk s := by
 constructor
 · intro h
   obtain ⟨h1, h2, h3, h4⟩ := checkT_none h
   have hp : ∀ k (hk : k < s.places.length), nameOk s.places[k].name = true ∧ (s.places.take k).any (fun y => sameS y.name s.places[k].name) = false ∧ inB 0 1 s.places[k].kind = true := fun k hk => by
     have := h2 k hk
     rw [Eh hk] at this
     split at this
     · cases this
     · split at this
       · cases this
       · split at this
         · cases this
         · rename_i a b c; exact ⟨by simpa using a, by simpa using b, by simpa using c⟩
   have he : ∀ k (hk : k < s.editions.length), nameOk s.editions[k].name = true ∧ (s.editions.take k).any (fun y => sameS y.name s.editions[k].name) = false ∧ ednErr s s.editions[k] = 0 := fun k hk => by
     have := h4 k hk
     rw [Dr hk] at this
     rw [ed_at hk]
     split at this
     · cases this
     · split at this
       · cases this
       · rename_i a b; exact ⟨by simpa using a, by simpa using b, this⟩
   refine ⟨h1, fun x hx => ?_, diffN_iff.2 fun j hj => (hp j hj).2.1, h3, fun x hx => ?_, diffN_iff.2 fun j hj => (he j hj).2.1⟩
   · obtain ⟨k, hk, rfl⟩ := List.getElem_of_mem hx
     exact ⟨(hp k hk).1, (hp k hk).2.2⟩
   · obtain ⟨k, hk, rfl⟩ := List.getElem_of_mem hx
     exact ⟨(he k hk).1, (he k hk).2.2⟩
 · intro h
   have hp : firstQ s.places.length (plcErr s) = (0, 0) := firstQ_ok fun k hk => by
     have h1 := h.pl _ (List.getElem_mem hk)
     have h2 := diffN_iff.1 h.pn k hk
     rw [Eh hk, h1.1, h2, h1.2]; rfl
   have he : firstQ s.editions.length (edErr s) = (0, 0) := firstQ_ok fun k hk => by
     have h1 := h.ed _ (List.getElem_mem hk)
     have h2 := diffN_iff.1 h.en k hk
     rw [Dr hk, ← ed_at hk, h1.1, h2, h1.2]; rfl
   unfold checkT
   rw [if_neg (by rw [h.np]; simp), hp, if_neg (by simp), if_neg (by rw [h.ne]; simp), he, if_neg (by simp)]
/-- With another reading it is without faults, too. -/
theorem check_set {s : Stm} (h0 : (checkT s).2.2 = 0) {x p : Nat} {v : Int} (hx : x < s.editions.length) (hv : 0 ≤ v ∧ v ≤ 3) : (checkT (setS s x p v)).2.2 = 0 := by
 have h := check_ok.1 h0
 rw [check_ok]
 have hnm : (setS s x p v).editions.map (·.name) = s.editions.map (·.name) := by
   unfold setS
   rw [List.map_set]
   apply List.ext_getElem
   · simp
   · intro j h1 h2
     rw [List.getElem_set]
     split
     · rename_i hj; subst hj; simp [Edn.setR, ed_at hx]
     · rfl
 refine ⟨h.np, h.pl, h.pn, by rw [Dz]; exact h.ne, fun y hy => ?_, by rw [hnm]; exact h.en⟩
 rcases List.mem_or_eq_of_mem_set hy with hy | rfl
 · exact h.ed y hy
 · have h1 := h.ed (s.ed x) (by rw [← ed_at hx]; exact List.getElem_mem hx)
   refine ⟨h1.1, ?_⟩
   have h2 := h1.2
   unfold ednErr at h2 ⊢
   split at h2
   · cases h2
   · rename_i k1
     split at h2
     · cases h2
     · rename_i k2
       split at h2
       · cases h2
       · rename_i k3
         split at h2
         · cases h2
         · rename_i k4
           rw [if_neg (show ¬ (inB 1450 1850 ((s.ed x).setR p v).lo && inB 1450 1850 ((s.ed x).setR p v).hi) = false from k1), if_neg (show ¬ ((s.ed x).setR p v).hi < ((s.ed x).setR p v).lo from k2), if_neg (show ¬ ((s.ed x).setR p v).rd.length ≠ (setS s x p v).places.length by show ¬ ((s.ed x).rd.set p v).length ≠ s.places.length; rw [List.length_set]; exact k3), if_neg]
           intro h5
           rw [List.any_eq_true] at h5
           obtain ⟨z, hz, hb⟩ := h5
           rcases List.mem_or_eq_of_mem_set (show z ∈ (s.ed x).rd.set p v from hz) with hz | rfl
           · have : ((s.ed x).rd.any fun z => !(inB 0 3 z)) = false := by simpa using k4
             exact absurd hb (List.any_eq_false.1 this z hz)
           · simp [inB] at hb; omega
section
variable {s s' : Stm} {l : List Int}
theorem least_len (hl : l.length = s.editions.length) {p : Nat} (h : leastL s l p < 1000) : leastL s l p ≤ l.length := by
 obtain ⟨g, -, -, h1⟩ := least_some hl h
 rw [← h1]; exact D7.2
theorem sum_le_mul {n : Nat} {f : Nat → Int} {c : Int} (h : ∀ i, i < n → f i ≤ c) : sumN n f ≤ n * c := by
 induction n with
 | zero => simp [sumN]
 | succ n ih =>
   have h1 := ih fun i hi => h i (by omega)
   have h2 := h n (by omega)
   simp only [sumN]
   have h3 : ((n + 1 : Nat) : Int) * c = (n : Int) * c + c := by push_cast; rw [Int.add_mul, Int.one_mul]
   rw [h3]; omega
theorem cost_iff (hv : ValidT s) (hl : l.length = s.editions.length) : costL s l < 1000 ↔ fitsT s l = true ∧ ∀ p, p < s.places.length → leastL s l p < 1000 := by
 constructor
 · exact fun h => ⟨fit_of_cost h, (cost_sum h).2⟩
 · rintro ⟨h1, h2⟩
   unfold fitsT at h1
   unfold costL
   rw [if_pos h1]
   have h3 := sum_le_mul (n := s.places.length) (f := leastL s l) (c := 5) fun p hp => by
     have := least_len hl (h2 p hp)
     have := hv.ne
     omega
   have h4 := hv.np
   have h5 : (s.places.length : Int) * 5 ≤ 6 * 5 := Int.mul_le_mul_of_nonneg_right (by omega) (by omega)
   omega
theorem least_mono {p p' : Nat} (hl : l.length = s.editions.length) (hl' : l.length = s'.editions.length) (hin : TreeIn l) (h : ∀ g, Filling s' l p' g → Possible s' l p' g → Filling s l p g ∧ Possible s l p g) : leastL s l p ≤ leastL s' l p' :=
 le_least Df.2 hl' fun g h1 h2 => leastL_le hin hl (h g h1 h2).1 (h g h1 h2).2
theorem least_same {p p' : Nat} (hl : l.length = s.editions.length) (hl' : l.length = s'.editions.length) (hin : TreeIn l) (h : ∀ g, (Filling s' l p' g ∧ Possible s' l p' g) ↔ (Filling s l p g ∧ Possible s l p g)) : leastL s l p = leastL s' l p' :=
 Int.le_antisymm (least_mono hl hl' hin fun g h1 h2 => (h g).1 ⟨h1, h2⟩) (least_mono hl' hl hin fun g h1 h2 => (h g).2 ⟨h1, h2⟩)
theorem climb_base_congr {E : Edges} {b b' : Nat → Int} {n : Nat} (hE : ∀ e ∈ E, e.1 < n ∧ e.2 < n) (h : ∀ i, i < n → b i = b' i) : ∀ f i, i < n → climb E b f i = climb E b' f i := by
 intro f
 induction f with
 | zero => exact h
 | succ f ih =>
   intro i hi
   have one : ∀ c c' : Nat → Int, (∀ i, i < n → c i = c' i) → (∀ i, i < n → climb E c f i = climb E c' f i) → climb E c (f + 1) i ≤ climb E c' (f + 1) i := fun c c' h ih => by
     refine D2.2 ⟨by rw [h i hi]; exact C2, fun e he hei => ?_⟩
     rw [ih _ (hE e he).1]
     have := climb_edge (f := f) (base := c') he
     rw [hei] at this
     exact this
   exact Int.le_antisymm (one _ _ h ih) (one _ _ (fun i hi => (h i hi).symm) fun i hi => (ih i hi).symm)
theorem fits_years (ht : IsTree l) (hl : l.length = s.editions.length) (hl' : l.length = s'.editions.length) (h : ∀ i, i < l.length → (s'.ed i).lo = (s.ed i).lo ∧ (s'.ed i).hi = (s.ed i).hi) : fitsT s' l = fitsT s l := by
 unfold fitsT
 rw [Bool.eq_iff_iff, fitsE_iff, fitsE_iff]
 have hd := ht.dag
 have e : ∀ i, i < l.length → firstY s' (treeE l) i = firstY s (treeE l) i := fun i hi => by
   unfold firstY
   rw [← hl, ← hl']
   exact climb_base_congr hd.1 (fun i hi => (h i hi).1) _ i hi
 rw [← hl, ← hl']
 constructor
 · intro h1 i hi; rw [← e i hi, ← (h i hi).2]; exact h1 i hi
 · intro h1 i hi; rw [e i hi, (h i hi).2]; exact h1 i hi
end
section
variable {s : Stm} {l : List Int} {x p : Nat} {v : Int}
end
end Go.Proofs.Ytccogmkhijgelaa
namespace Go.Proofs.Ytccogmkhijgelaa
section
variable {s : Stm} {l : List Int} {x p : Nat}
end
def befI : List Int → List Int → Bool
 | _, [] => false
 | [], _ :: _ => true
 | a :: xs, b :: ys => decide (a < b) || (decide (a = b) && befI xs ys)
theorem bef_self : ∀ xs : List Int, befI xs xs = false
 | [] => rfl
 | a :: xs => by simp [befI, bef_self xs]
theorem bef_prefix {b : List Int} {v v' : Int} {t t' : List Int} (h : v < v') : befI (b ++ [v] ++ t) (b ++ [v'] ++ t') = true := by
 induction b with
 | nil => simp [befI, h]
 | cons a b ih =>
   simp only [List.cons_append, befI, ih]
   simp
/-- Trees come in order. -/
theorem trees_sorted {n : Nat} : ∀ {d : Nat} {b : List Int}, (treesF n d b).Pairwise fun x y => befI x y = true
 | 0, b => by unfold treesF; split <;> simp
 | d + 1, b => by
   unfold treesF
   rw [List.pairwise_flatMap]
   refine ⟨fun j _ => trees_sorted, ?_⟩
   refine List.pairwise_lt_range.imp ?_
   intro i j hij x hx y hy
   obtain ⟨t, rfl, -, -, -⟩ := trees_mem.1 hx
   obtain ⟨t', rfl, -, -, -⟩ := trees_mem.1 hy
   exact bef_prefix (by omega)
theorem bests_sorted {s : Stm} : (bestsL s).Pairwise fun x y => befI x y = true := by
 have h1 : (allTrees s).Pairwise fun x y => befI x y = true := trees_sorted.filter _
 unfold bestsL
 rw [best_is]
 exact h1.filter _
end Go.Proofs.Ytccogmkhijgelaa
namespace Go.Proofs.Ytccogmkhijgelaa
open Go.RowKit
section
variable {P : Program} {n : Nat} {B : Base} {e : Env} {σ : St} {d : Option Nat} {ty : TypeId} {pos : String} {af : Array Edge} {gd : Option (Nat × Bool)}
theorem setAt_mid {l vs : List Value} {j : Nat} (h : j + vs.length ≤ l.length) : setAt l.toArray j vs = (l.take j ++ (vs ++ l.drop (j + vs.length))).toArray := by
 have h1 := setAt_to vs (l.take j) (l.drop j) (by rw [List.length_drop]; omega)
 rw [List.take_append_drop, List.length_take, Nat.min_eq_left (by omega), List.drop_drop] at h1
 exact h1
theorem x_storeRn {T E s k j m : Nat} {x y : Operand} {v u : Value} {vs cs : List Value} {R TT : List (Nat × Obj)} {f g : List (Nat × Obj) → List (Nat × Obj)} {K : Value → St → Prop} (hT : SizeT P T m) (hx : ev e x = .pointer (some (addc (base v) j))) (hy : ev e y = u) (hu : u.cells = vs.toArray) (hm : vs.length = m)
   (hown : Own E s v k cs R) (hj : j + m ≤ cs.length) (h0 : 0 < m) (h1 : ∀ z ∈ vs, z.oneCell' = true) (hH : Hole σ.H TT f) (hR : Tail TT R g) (hn : ∀ R', Own E s v k (cs.take j ++ (vs ++ cs.drop (j + m))) R' → K undef ⟨σ.F, f (g R')⟩) : OpX P n B ⟨d, .store T x y, ty, pos, af, gd⟩ e σ K := .run fun w hw => by
 subst hm
 obtain ⟨A, q1, q2⟩ := hH.eq
 obtain ⟨C, r1, r2⟩ := hR.eq
 match R, hown with
 | [], h => obtain ⟨-, -, rfl⟩ := h; simp only [List.length_nil] at hj; omega
 | [(bb, o)], h =>
   obtain ⟨cap, spare, rfl, rfl, h3, h4, h5⟩ := h
   have hH' : σ.H = A ++ ([(bb, bx E (cs ++ spare))] ++ C) := by rw [q1, r1]
   have hb := (hw.own (bb, bx E (cs ++ spare)) (by rw [hH']; simp)).1
   obtain ⟨w', e1, e2, e3, e4, e5, e6, e7⟩ := Dq (P := P) vs j 0 (cs ++ spare).toArray w hb (by simp; omega) h1
   rw [Nat.add_zero, setAt_mid (by rw [List.length_append]; omega)] at e6
   have hset : (cs ++ spare).take j ++ (vs ++ (cs ++ spare).drop (j + vs.length)) = (cs.take j ++ (vs ++ cs.drop (j + vs.length))) ++ spare := by
     rw [List.take_append_of_le_length (by omega), List.drop_append_of_le_length (by omega)]; simp
   rw [hset] at e6
   have had : addc (base (.slice (some ⟨bb, 0, none⟩) k cap)) j = ⟨bb, j, none⟩ := by simp [addc, base]
   rw [had] at hx
   have hrun : (execOp (ev e) ⟨d, .store T x y, ty, pos, af, gd⟩).run P w = .ok .skip w' := by
     simp [execOp, hx, hy, Instr.storeAt, Instr.sureAddr, storeVar, hu, Cl hT, e1]
   have hl : (cs.take j ++ (vs ++ cs.drop (j + vs.length))).length = cs.length := by simp; omega
   have hnew := hn [(bb, bx E ((cs.take j ++ (vs ++ cs.drop (j + vs.length))) ++ spare))] ⟨cap, spare, rfl, rfl, by rw [hl]; exact h3, by rw [List.length_append, hl]; simpa using h4, h5⟩
   rw [r2, q2] at hnew
   exact ⟨_, _, _, .inr ⟨hrun, rfl⟩, hw.rewrite hH' e2 e3 e4 e5 e6 e7, hnew⟩
end
theorem flat_put {α : Type} {enc : α → List Value} {s : Nat} (hs : ∀ x, (enc x).length = s) {x : α} : ∀ (l : List α) (i : Nat), i < l.length → (l.flatMap enc).take (i * s) ++ (enc x ++ (l.flatMap enc).drop (i * s + s)) = (l.set i x).flatMap enc
 | [], i, hi => absurd hi (by simp)
 | a :: l, 0, hi => by
   simp only [List.flatMap_cons, List.set_cons_zero, Nat.zero_mul, Nat.zero_add, List.take_zero, List.nil_append]
   rw [List.drop_append_of_le_length (by rw [hs]; exact Nat.le_refl _), List.drop_of_length_le (by rw [hs]; exact Nat.le_refl _), List.nil_append]
 | a :: l, i + 1, hi => by
   simp only [List.flatMap_cons, List.set_cons_succ]
   have ih := flat_put hs (x := x) l i (by simpa using hi)
   rw [Nat.add_mul, Nat.one_mul, Nat.add_comm (i * s) s, ← hs a, List.take_append, List.take_of_length_le (by omega), Nat.add_sub_cancel_left, Nat.add_assoc, List.drop_append, List.drop_of_length_le (by omega), Nat.add_sub_cancel_left, List.nil_append, List.append_assoc, hs a, ih]
theorem own_elem {α : Type} {F : Heap} {H R : List (Nat × Obj)} {E s k : Nat} {v : Value} {enc : α → List Value} {xs : List α} (hs : ∀ x, (enc x).length = s) (h : Own E s v k (xs.flatMap enc) R) (hm : ∀ p ∈ R, p ∈ H) {i : Nat} (hi : i < xs.length) : ∀ j u, (enc xs[i])[j]? = some u → Cell ⟨F, H⟩ (addc (addc (base v) (i * s)) j) u := fun j u hu => by
 rw [addc_addc]
 have hj : j < s := by have := (List.getElem?_eq_some_iff.1 hu).1; rw [hs] at this; exact this
 exact own_cell h hm (flat_at hs xs i hi hu)
end Go.Proofs.Ytccogmkhijgelaa
namespace Go.Proofs.Ytccogmkhijgelaa
theorem ed_own_put {E : Nat} {w : Go.Value} {R : List (Nat × Go.Obj)} {ps : List (Go.Value × Edn)} {x : Nat} {u : Go.Value} {e : Edn} (h : Own E 4 w ps.length ((ps.flatMap edE).take (x * 4) ++ (edE (u, e) ++ (ps.flatMap edE).drop (x * 4 + 4))) R) (hx : x < ps.length) :
   Own E 4 w (ps.set x (u, e)).length ((ps.set x (u, e)).flatMap edE) R := by
 rw [flat_put edE_len (x := (u, e)) ps x hx] at h
 rw [List.length_set]; exact h
end Go.Proofs.Ytccogmkhijgelaa
namespace Go.Proofs.Ytccogmkhijgelaa
open Go.RowKit
set_option maxRecDepth 100000 in
theorem with_ok7 {F : Heap} {vp ve : Value} {ps : List (Value × Edn)} {s : Stm} (hr : StmR F vp ve ps s) (hv : ValidT s) {x p : Nat} (hx : x < s.editions.length) (hp : p < s.places.length) (z : Int) : Ok Try.prog 45 [.agg #[vp, ve], .int .i64 (x : Int), .int .i64 (p : Int), .int .i64 z].toArray F fun u F' => ∃ ve' ps', u = .agg #[vp, ve'] ∧ StmR F' vp ve' ps' (setS s x p z) := by
 have hle0 : F.le F := Heap.le_refl _
 refine Ok.intro Try.func45 rfl Try.ntmps45 rfl fun w0 => ?_
 have hL1 := hr.eds.plain.lt
 have hlen := hr.len
 have hxp : x < ps.length := by omega
 have hrx := hr.rd hxp
 have hrl := hv.rdl x hx
 have hpx : p < (s.ed x).rd.length := by omega
 have e1 := hr.at hxp
 have hne := hv.ne
 have hnp := hv.np
 refine Af <| Ai fun ds => Bg rfl (B2 (Aj rfl) rfl fun b1 hb1 nb1 => ?_)
 refine Bg rfl (B6 zr_25 rfl fun b2 hb2 nb2 => ?_)
 refine Ah <| Ac <| Af <| Ai fun ds => Bg rfl (x_build0 B1 fun b3 hb3 nb3 => ?_)
 refine Aa rfl (Ak Bq (Ar rfl <| Ad)) ?_
 refine Aa rfl (Ap Bw (Ad) (Cell.own 2 rfl rfl)) ?_
 refine Bg rfl (Cu B1 el_64 (Ar rfl <| Ad) (own_box rfl) (Ad) (src_eds hr.eds hr.one) (by omega) (by omega) (.z) .box fun v4 R5 ho6 => ?_)
 have ho1 : Own 64 4 v4 ps.length (ps.flatMap edE) R5 := by simpa using ho6
 refine Aa rfl (Ak Bq (A1 rfl <| Am rfl <| Ad)) ?_
 refine WL_orderB (.one (.skip <| .here) <| .one (.lastS) <| .lastb (.last)) ?_
 refine Ce (Cg sz_23 (Ad) (Am rfl <| Ad) (i := 1) rfl (.next <| .here) (Own.one ho1) (.next <| .here) ?_)
 refine Ah <| Ac <| Af <| Ai fun ds => Aa rfl (Ak Bq (A1 rfl <| Ar rfl <| Ad)) ?_
 refine Aa rfl (Ap Bw (Ad) (Cell.own 1 rfl rfl)) ?_
 refine Aa rfl (Ag (A6 rfl <| Am rfl <| Aj rfl)) ?_
 refine Aa rfl (Be (k := x) B1 (Am rfl <| Ad) (ho1.plain (by omega)) (Ad) rfl hxp) ?_
 refine Aa rfl (A7 Eb (Ad) rfl rfl (own_elem edE_len ho1 (fun p hp => .tail _ (.tail _ (hp))) hxp)) ?_
 refine Bg rfl (B6 zr_64 rfl fun b7 hb7 nb7 => ?_)
 refine Ce (B8 sz_64 (Ad) (Am rfl <| Ad) (i := 0) rfl rfl rfl rfl (edE_one (hr.one _ (List.getElem_mem hxp))) (.here) ?_)
 refine Ah <| Ac <| Af <| Ai fun ds => Bg rfl (B9 Bn Db rfl .nil rfl rfl (by decide) (by simp [Value.oneCell']) fun b8 hb8 nb8 => ?_)
 refine Aa rfl (Ak Ca (Am rfl <| Ad)) ?_
 refine Aa rfl (Ap Cf (Ad) (Cell.own 1 rfl rfl)) ?_
 refine Bg rfl (Cu Bn el_3 (Ar rfl <| Ad) (own_box rfl) (Ad) hrx.srcInt (by omega) (by omega) (.z) .box fun v9 R10 ho11 => ?_)
 have ho2 : Own 3 1 v9 (s.ed x).rd.length ((s.ed x).rd.flatMap intE) R10 := by simpa using ho11
 have hpone : ∀ u ∈ [Value.string ps[x].2.name, .int .i64 ps[x].2.lo, .int .i64 ps[x].2.hi, v9], u.oneCell' = true := by intro u hu; simp only [List.mem_cons, List.not_mem_nil, or_false] at hu; rcases hu with rfl | rfl | rfl | rfl; rfl; rfl; rfl; exact ho2.one
 refine Aa rfl (Ak Ca (A1 rfl <| Ad)) ?_
 refine WL_orderB (.one (.skip <| .here) <| .one (.skip <| .here) <| .one (.skip <| .here) <| .blk (.lastS) <| .lastb (.last)) ?_
 refine Ce (Cg sz_26 (Ad) (Am rfl <| Ad) (i := 0) rfl (.next <| .next <| .next <| .here) (Own.one ho2) (.here) ?_)
 refine Ah <| Ac <| Af <| Ai fun ds => Aa rfl (Ak Ca (A1 rfl <| Am rfl <| Ad)) ?_
 refine Aa rfl (Ap Cf (Ad) (Cell.own 0 rfl rfl)) ?_
 refine Aa rfl (Ag (A3 rfl <| A1 rfl <| Aj rfl)) ?_
 refine Aa rfl (Ag (A3 rfl <| A1 rfl <| Am rfl <| Aj rfl)) ?_
 refine Aa rfl (Be (k := p) Bn (Ar rfl <| Ad) (ho2.plain (by omega)) (Am rfl <| Ad) rfl hpx) ?_
 refine Ce (x_storeR sz_3 (Ad) (Am rfl <| Ad) ho2 (by rw [D1 (enc := intE) (s := 1) (fun _ => rfl)]; omega) rfl (.s <| .s <| .s <| .k <| .z) .last fun R12 ho13 => ?_)
 have ho3 := ho13
 rw [show p * 1 = p * 1 + 0 from rfl, int_flat_set hpx] at ho3
 replace ho3 := ho3.to (k' := ((s.ed x).rd.set p z).length) (by simp)
 refine Ah <| Ac <| Af <| Ai fun ds => Aa rfl (Ak Bq (A3 rfl <| A1 rfl <| Ar rfl <| Ad)) ?_
 refine Aa rfl (Ap Bw (Ad) (Cell.own 2 rfl rfl)) ?_
 refine Aa rfl (Ag (A3 rfl <| A6 rfl <| Am rfl <| Aj rfl)) ?_
 refine Aa rfl (A7 Eb (A6 rfl <| A1 rfl <| Am rfl <| Ad) rfl rfl (A5 0 rfl)) ?_
 refine Aa rfl (Be (k := x) B1 (Ar rfl <| Ad) (ho1.plain (by omega)) (Am rfl <| Ad) rfl hxp) ?_
 refine Ce (x_storeRn sz_64 (Ad) (Am rfl <| Ad) rfl rfl ho1 (by rw [D1 edE_len]; omega) (by decide) hpone (.s <| .s <| .s <| .z) .more fun R9 ho9 => ?_)
 refine Ah <| Ac <| Af ?_
 have ho9b := by have h9 := ho9; rw [e1] at h9; exact ed_own_put (e := (s.ed x).setR p z) h9 hxp
 refine Cw (σ := ⟨_, _⟩) (by rfl) ho3 (.s <| .s <| .s <| .k <| .z) .last fun F14 hF15 hz16 => ?_
 replace hr := hr.mono hF15
 refine WC_pickB (.one (.here) <| .one (.here) <| .one (.here) <| .lastb (.here)) ?_
 have hrn := ho3.sl (fun _ => rfl) hz16 (by simp; omega)
 refine Cw (σ := ⟨_, _⟩) (by rfl) ho9b (.s <| .s <| .s <| .z) .last fun F17 hF18 hz19 => ?_
 replace hr := hr.mono hF18
 replace hrn := hrn.mono hF18
 have hen := ho9b.sl (fun _ => rfl) hz19 (by simp; omega)
 refine Ai fun ds => Aa rfl (A7 B4 (A3 rfl <| A6 rfl <| Ar rfl <| Am rfl <| Ad) rfl rfl (A5 2 rfl)) ?_
 refine Ce (B8 sz_25 (A3 rfl <| A6 rfl <| Ar rfl <| Am rfl <| Ad) (Ad) (i := 1) rfl rfl rfl rfl (by intro u hu; simp only [List.mem_cons, List.not_mem_nil, or_false] at hu; rcases hu with rfl | rfl; exact hr.places.plain.one; exact hen.plain.one) (.next <| .here) ?_)
 refine Ah <| Ac <| A2 <| Au rfl (.agg B4 (A3 rfl <| A6 rfl <| Ar rfl <| Am rfl <| Ad) rfl rfl (A5 1 rfl) .nil) ?_
 exact ⟨_, _, rfl, hr.set hen hrn⟩
end Go.Proofs.Ytccogmkhijgelaa
namespace Go.Proofs.Ytccogmkhijgelaa
open Go.RowKit
theorem bd_45 : Body Try.prog 45 := Bo (by kernel_rfl)
end Go.Proofs.Ytccogmkhijgelaa
namespace Go.Proofs.Ytccogmkhijgelaa
theorem sum_hit {m i : Nat} {σ : Nat → Nat} {c : Int} (hc : 0 ≤ c) (hinj : ∀ j k, j < m → k < m → σ j = σ k → j = k) : sumN m (fun k => if σ k = i then c else 0) ≤ c := by
 by_cases h : ∃ k, k < m ∧ σ k = i
 · obtain ⟨k, hk, he⟩ := h
   rw [Cj (g := fun q => if k = q then c else 0) fun q hq => ?_, sumN_one hk]
   · exact Int.le_refl _
   · by_cases h1 : k = q
     · subst h1; rw [if_pos he, if_pos rfl]
     · rw [if_neg h1, if_neg fun h2 => h1 (hinj k q hk hq (by rw [he, h2]))]
 · rw [Cj (g := fun _ => 0) fun q hq => if_neg fun h1 => h ⟨q, hq, h1⟩, sumN_zero]
   exact hc
theorem sum_emb {m n : Nat} {σ : Nat → Nat} {f : Nat → Int} (hlt : ∀ k, k < m → σ k < n) (hinj : ∀ j k, j < m → k < m → σ j = σ k → j = k) (hf : ∀ i, i < n → 0 ≤ f i) : sumN m (fun k => f (σ k)) ≤ sumN n f := by
 have e1 : ∀ k, k < m → sumN n (fun i => if σ k = i then f i else 0) = f (σ k) := fun k hk => by
   rw [Cj (f := fun i => if σ k = i then f i else 0) (g := fun i => if σ k = i then f (σ k) else 0) (fun i _ => by by_cases h : σ k = i <;> simp [h])]
   exact sumN_one (hlt k hk)
 have e : sumN m (fun k => f (σ k)) = sumN m fun k => sumN n fun i => if σ k = i then f i else 0 := Cj fun k hk => (e1 k hk).symm
 rw [e, sumN_swap]
 exact sumN_le fun i hi => sum_hit (hf i hi) hinj
structure Emb (l l' : List Int) (σ : Nat → Nat) : Prop where
 lt : ∀ k, k < l'.length → σ k < l.length
 inj : ∀ j k, j < l'.length → k < l'.length → σ j = σ k → j = k
 up : ∀ k, k < l'.length → (upN l' k = -1 ∧ upN l (σ k) = -1) ∨ ∃ q : Nat, q < l'.length ∧ upN l' k = (q : Int) ∧ upN l (σ k) = (σ q : Int)
theorem tree_rank {l : List Int} (hin : TreeIn l) (hr : ∃ ρ : Nat → Nat, ∀ (i k : Nat), i < l.length → upN l i = (k : Int) → ρ k < ρ i) (h1 : firstsN l l.length = 1) : IsTree l := by
 obtain ⟨ρ, hρ⟩ := hr
 refine ⟨hin, fun i hi => ?_, h1⟩
 have key : ∀ d i, i < l.length → rankC ρ l.length i ≤ d → reach l d i = true := by
   intro d
   induction d with
   | zero =>
     intro i hi hd
     by_cases hu : upN l i = -1
     · exact reach_end hu
     · obtain ⟨j, hj, hjl⟩ := hin.nat hi hu
       have := rankC_lt (n := l.length) hjl (hρ i j hi hj)
       omega
   | succ d ih =>
     intro i hi hd
     by_cases hu : upN l i = -1
     · exact reach_end hu
     · obtain ⟨j, hj, hjl⟩ := hin.nat hi hu
       have := rankC_lt (n := l.length) hjl (hρ i j hi hj)
       rw [reach_step hj]
       exact ih j hjl (by omega)
 exact key _ i hi rankC_le
section
variable {l l' : List Int} {σ : Nat → Nat} {s s' : Stm}
theorem Emb.root (h : Emb l l' σ) {k : Nat} (hk : k < l'.length) (hu : upN l' k = -1) : upN l (σ k) = -1 := by
 rcases h.up k hk with ⟨-, h1⟩ | ⟨q, -, h2, -⟩
 · exact h1
 · omega
theorem Emb.edge (h : Emb l l' σ) {k q : Nat} (hk : k < l'.length) (hu : upN l' k = (q : Int)) : q < l'.length ∧ upN l (σ k) = (σ q : Int) := by
 rcases h.up k hk with ⟨h1, -⟩ | ⟨q', h1, h2, h3⟩
 · omega
 · obtain rfl : q' = q := by omega
   exact ⟨h1, h3⟩
theorem Emb.in_ (h : Emb l l' σ) : TreeIn l' := fun i hi => by
 rcases h.up i hi with ⟨h1, -⟩ | ⟨q, h1, h2, -⟩ <;> omega
theorem Emb.tree (h : Emb l l' σ) (ht : IsTree l) (hr : ∃ r, r < l'.length ∧ upN l' r = -1) : IsTree l' := by
 obtain ⟨r, hr, hru⟩ := hr
 refine tree_rank h.in_ ⟨fun k => dep l l.length (σ k), fun i k hi hk => ?_⟩ ?_
 · have h3 := (h.edge hi hk).2
   show dep l l.length (σ k) < dep l l.length (σ i)
   rw [dep_edge h3 (ht.reach _ (h.lt i hi))]; omega
 · rw [firsts_uniq (r := r) hru fun i hi hu => ?_, if_pos hr]
   exact h.inj i r hi hr (first_le_one (l := l) (σ i) (σ r) (h.lt i hi) (h.lt r hr) (h.root hi hu) (h.root hr hru) (by rw [ht.one]; exact Int.le_refl _))
theorem Emb.same (h : Emb l l' σ) {g : Nat → Int} {k : Nat} (hk : k < l'.length) : chg l' (fun k => g (σ k)) k = chg l g (σ k) := by
 unfold chg
 rcases h.up k hk with ⟨h1, h2⟩ | ⟨q, h1, h2, h3⟩
 · rw [if_pos h1, if_pos h2]
 · rw [if_neg (show ¬ upN l' k = -1 by omega), if_neg (show ¬ upN l (σ k) = -1 by omega), h2, h3, Int.toNat_natCast, Int.toNat_natCast]
theorem Emb.changes (h : Emb l l' σ) {g : Nat → Int} : changesOf l' (fun k => g (σ k)) ≤ changesOf l g := by
 unfold changesOf
 rw [Cj fun k hk => h.same hk]
 exact sum_emb (f := chg l g) h.lt h.inj fun i _ => chg_bound.1
/-- The editions are the same, and the places. -/
structure EmbS (s s' : Stm) (l l' : List Int) (σ : Nat → Nat) : Prop extends Emb l l' σ where
 len : l.length = s.editions.length
 len' : l'.length = s'.editions.length
 pl : s'.places = s.places
 ed : ∀ k, k < l'.length → s'.ed k = s.ed (σ k)
theorem EmbS.least (h : EmbS s s' l l' σ) {p : Nat} : leastL s' l' p ≤ leastL s l p := by
 have hfr : freeP s' p = freeP s p := by unfold freeP Stm.pl; rw [h.pl]
 refine le_least Df.2 h.len fun g h1 h2 => Int.le_trans (leastL_le (g := fun k => g (σ k)) h.in_ h.len' ⟨fun i hi => h1.val _ (h.lt i hi), fun i hi => ?_⟩ fun i hi hu => ?_) h.changes
 · have := h1.fit _ (h.lt i hi)
   unfold fitR Stm.r at this ⊢
   rw [h.ed i hi]; exact this
 · obtain ⟨q, hq, hql⟩ := h.in_.nat hi hu
   have h3 := (h.edge hi hq).2
   have := h2 _ (h.lt i hi) (by omega)
   rw [h3, Int.toNat_natCast] at this
   rw [hq, Int.toNat_natCast, hfr]; exact this
theorem EmbS.fits (h : EmbS s s' l l' σ) (ht : IsTree l) (ht' : IsTree l') (hf : fitsT s l = true) : fitsT s' l' = true := by
 unfold fitsT at hf ⊢
 rw [fitsE_iff] at hf ⊢
 intro i hi
 rw [← h.len'] at hi
 have hd := ht'.dag
 have := climb_least (base := fun i => (s'.ed i).lo) hd.1 (L := fun k => firstY s (treeE l) (σ k)) (fun k hk => by show (s'.ed k).lo ≤ _; rw [h.ed k hk]; exact firstY_lo) (fun e he => by
   obtain ⟨h1, h2, h3⟩ := ht'.edge he
   exact (years_edge ht h.len (h.lt _ h2) (h.edge h2 h3).2).1) s'.editions.length i hi
 have h4 := hf (σ i) (by rw [← h.len]; exact h.lt i hi)
 unfold firstY
 rw [h.ed i hi]
 exact Int.le_trans this h4
/-- No fewer at each place: no fewer in all. -/
theorem cost_le2 (hv : ValidT s) (hl : l.length = s.editions.length) (hp : s'.places.length = s.places.length) (hf : fitsT s' l' = true → fitsT s l = true) (h : ∀ p, p < s.places.length → leastL s l p ≤ leastL s' l' p) (hc : costL s' l' < 1000) : costL s l < 1000 ∧ costL s l ≤ costL s' l' := by
 obtain ⟨h1, h2⟩ := cost_sum hc
 have h3 : costL s l < 1000 := (cost_iff hv hl).2 ⟨hf (fit_of_cost hc), fun p hp' => by have := h p hp'; have := h2 p (by omega); omega⟩
 refine ⟨h3, ?_⟩
 rw [h1, (cost_sum h3).1, hp]
 exact sumN_le h
theorem EmbS.cost (h : EmbS s s' l l' σ) (hv' : ValidT s') (ht : IsTree l) (ht' : IsTree l') (hc : costL s l < 1000) : costL s' l' < 1000 ∧ costL s' l' ≤ costL s l :=
 cost_le2 hv' h.len' (by rw [h.pl]) (h.fits ht ht') (fun _ _ => h.least) hc
end
section
variable {s : Stm} {l : List Int} {i : Nat}
end
def backL (l : List Int) : List Int := (List.range l.length).map fun k => if upN l (l.length - 1 - k) = -1 then -1 else (l.length : Int) - 1 - upN l (l.length - 1 - k)
def backS (s : Stm) : Stm := ⟨s.places, s.editions.reverse⟩
section
variable {s : Stm} {l : List Int}
theorem C4 : (backL l).length = l.length := by simp [backL]
theorem backL_up {k : Nat} (hk : k < l.length) : upN (backL l) k = if upN l (l.length - 1 - k) = -1 then -1 else (l.length : Int) - 1 - upN l (l.length - 1 - k) := upN_map hk
theorem back_emb (hin : TreeIn l) : Emb l (backL l) (fun k => l.length - 1 - k) := by
 refine ⟨fun k hk => ?_, fun j k hj hk h => ?_, fun k hk => ?_⟩
 · rw [C4] at hk; show l.length - 1 - k < _; omega
 · rw [C4] at hj hk; have h : l.length - 1 - j = l.length - 1 - k := h; omega
 · rw [C4] at hk
   rw [backL_up hk]
   by_cases hu : upN l (l.length - 1 - k) = -1
   · left; rw [if_pos hu]; exact ⟨rfl, hu⟩
   · obtain ⟨q, hq, hql⟩ := hin.nat (show l.length - 1 - k < l.length by omega) hu
     right
     refine ⟨l.length - 1 - q, by rw [C4]; omega, by rw [if_neg hu, hq]; omega, ?_⟩
     show upN l (l.length - 1 - k) = ((l.length - 1 - (l.length - 1 - q) : Nat) : Int)
     rw [hq]; omega
theorem back_back (hin : TreeIn l) : backL (backL l) = l := by
 apply List.ext_getElem
 · rw [C4, C4]
 · intro k h1 h2
   rw [up_at h1, up_at h2, backL_up (by rw [C4]; exact h2), C4, backL_up (by omega), show l.length - 1 - (l.length - 1 - k) = k by omega]
   have := hin k h2
   by_cases hu : upN l k = -1
   · rw [if_pos hu]; simp [hu]
   · rw [if_neg hu, if_neg (by omega)]; omega
theorem back_tree (ht : IsTree l) : IsTree (backL l) := by
 refine (back_emb ht.in_).tree ht ?_
 obtain ⟨r, -, hr, hru⟩ := root_at ht
 refine ⟨l.length - 1 - r, by rw [C4]; omega, ?_⟩
 rw [backL_up (by omega), show l.length - 1 - (l.length - 1 - r) = r by omega, if_pos hru]
theorem back_len : (backS s).editions.length = s.editions.length := by simp [backS]
theorem back_ed {k : Nat} (hk : k < s.editions.length) : (backS s).ed k = s.ed (s.editions.length - 1 - k) := by
 unfold Stm.ed backS
 simp only
 rw [List.getElem?_reverse hk]
theorem back_check (h0 : (checkT s).2.2 = 0) : (checkT (backS s)).2.2 = 0 := by
 have h := check_ok.1 h0
 rw [check_ok]
 refine ⟨h.np, h.pl, h.pn, by rw [back_len]; exact h.ne, fun x hx => h.ed x (List.mem_reverse.1 hx), ?_⟩
 have := h.en
 unfold diffN backS at *
 simp only
 rw [List.map_reverse, List.pairwise_reverse]
 exact this.imp fun h => by rw [sameS_symm]; exact h
theorem back_embS (hl : l.length = s.editions.length) (hin : TreeIn l) : EmbS s (backS s) l (backL l) (fun k => l.length - 1 - k) :=
 ⟨back_emb hin, hl, by rw [C4, back_len]; exact hl, rfl, fun k hk => by rw [C4] at hk; rw [back_ed (by omega), ← hl]⟩
theorem back_backS : backS (backS s) = s := by unfold backS; simp
theorem back_cost (h0 : (checkT s).2.2 = 0) (hl : l.length = s.editions.length) (ht : IsTree l) : costL (backS s) (backL l) = costL s l := by
 have h1 := back_check h0
 have one : ∀ {s : Stm} {l : List Int}, (checkT s).2.2 = 0 → l.length = s.editions.length → IsTree l → costL s l < 1000 → costL (backS s) (backL l) < 1000 ∧ costL (backS s) (backL l) ≤ costL s l := fun h0 hl ht hc =>
   (back_embS hl ht.in_).cost (Cx (back_check h0)) ht (back_tree ht) hc
 have two : costL (backS s) (backL l) < 1000 → costL s l < 1000 ∧ costL s l ≤ costL (backS s) (backL l) := fun hc => by
   have := one h1 (show (backL l).length = _ by rw [C4, back_len]; exact hl) (back_tree ht) hc
   rw [back_backS, back_back ht.in_] at this
   exact this
 have b1 := (costL_bound (s := s) (l := l)).2
 have b2 := (costL_bound (s := backS s) (l := backL l)).2
 by_cases hc : costL s l < 1000
 · have h2 := one h0 hl ht hc
   have h3 := two h2.1
   omega
 · by_cases hc2 : costL (backS s) (backL l) < 1000
   · exact absurd (two hc2).1 hc
   · omega
theorem back_fits (hl : l.length = s.editions.length) (ht : IsTree l) (hf : fitsT s l = true) : fitsT (backS s) (backL l) = true := (back_embS hl ht.in_).fits ht (back_tree ht) hf
/-- The best ones, in the other order. -/
theorem back_bests (h0 : (checkT s).2.2 = 0) : bestsM (backS s) = bestsM s ∧ (bestsL (backS s)).length = (bestsL s).length := by
 have hmem : ∀ {s : Stm} {l : List Int}, l ∈ allTrees s → backL l ∈ allTrees (backS s) := fun {s l} h => by
   obtain ⟨h1, h2, h3⟩ := Cs.1 h
   exact Cs.2 ⟨by rw [C4, back_len]; exact h1, back_tree h2, back_fits h1 h2 h3⟩
 have hle : ∀ {s : Stm}, (checkT s).2.2 = 0 → bestsM (backS s) ≤ bestsM s := fun {s} h0 => by
   by_cases hn : bestsL s = []
   · rw [bestsL_nil.1 hn]
     have : bestsM (backS s) ≤ 1000 := bestR_le
     exact this
   · obtain ⟨l, hl⟩ := List.exists_mem_of_ne_nil _ hn
     obtain ⟨h1, h2, h3⟩ := Dt.1 hl
     obtain ⟨k1, k2, k3⟩ := Cs.1 h1
     rw [← h2, ← back_cost h0 k1 k2]
     exact bestsM_le (hmem h1)
 have hm : bestsM (backS s) = bestsM s := by
   refine Int.le_antisymm (hle h0) ?_
   have := hle (back_check h0)
   rw [back_backS] at this
   exact this
 have hnd : ∀ s : Stm, (bestsL s).Nodup := fun s => bests_sorted.imp fun h e => by subst e; rw [bef_self] at h; cases h
 have hlen : ∀ {s : Stm}, (checkT s).2.2 = 0 → bestsM (backS s) = bestsM s → (bestsL s).length ≤ (bestsL (backS s)).length := fun {s} h0 hm => by
   have hinj : ((bestsL s).map backL).Nodup := by
     rw [List.Nodup, List.pairwise_map]
     refine (hnd s).imp_of_mem fun {a b} ha hb hne he => hne ?_
     have ta := (Cs.1 (Dt.1 ha).1).2.1
     have tb := (Cs.1 (Dt.1 hb).1).2.1
     rw [← back_back ta.in_, he, back_back tb.in_]
   have hsub : (bestsL s).map backL ⊆ bestsL (backS s) := fun x hx => by
     obtain ⟨a, ha, rfl⟩ := List.mem_map.1 hx
     obtain ⟨h1, h2, h3⟩ := Dt.1 ha
     obtain ⟨k1, k2, -⟩ := Cs.1 h1
     have e := back_cost h0 k1 k2
     exact Dt.2 ⟨hmem h1, by rw [e, h2, hm], by rw [e]; exact h3⟩
   have := hinj.length_le_of_subset hsub
   rw [List.length_map] at this
   exact this
 refine ⟨hm, Nat.le_antisymm ?_ (hlen h0 hm)⟩
 have := hlen (back_check h0) (by rw [back_backS, hm])
 rw [back_backS] at this
 exact this
end
end Go.Proofs.Ytccogmkhijgelaa
namespace Go.Proofs.Ytccogmkhijgelaa
def Edn.sub (x : Edn) (P : List Nat) : Edn := ⟨x.name, x.lo, x.hi, P.map fun p => x.rd[p]?.getD 0⟩
section
variable {s : Stm} {b : Nat → Bool} {l : List Int}
end
def oneS (s : Stm) (p : Nat) : Stm := ⟨s.places.set p ⟨(s.pl p).name, 1⟩, s.editions⟩
section
variable {s : Stm} {l : List Int} {p : Nat}
end
section
variable {s : Stm} {l : List Int} {p : Nat}
theorem metB_iff {v : Nat} : metB s p v = true ↔ ∃ i, i < s.editions.length ∧ s.r i p = (v : Int) := by
 unfold metB
 rw [List.any_eq_true]
 exact ⟨fun ⟨i, hi, h⟩ => ⟨i, List.mem_range.1 hi, of_decide_eq_true h⟩, fun ⟨i, hi, h⟩ => ⟨i, List.mem_range.2 hi, decide_eq_true h⟩⟩
end
end Go.Proofs.Ytccogmkhijgelaa
namespace Go.Proofs.Ytccogmkhijgelaa
section
variable {s : Stm} {p : Nat} {l : List Int}
end
theorem StmR.kind {F : Heap} {vp ve w : Go.Value} {ps : List (Go.Value × Edn)} {s : Stm} {p : Nat} (h : StmR F vp ve ps s) (hw : Sl F w 2 Plc.enc (oneS s p).places) : StmR F w ve ps (oneS s p) := ⟨hw, h.eds, h.rds, h.eqs⟩
/-- Editions that are laid one after another. -/
structure EdsR (F : Heap) (qs : List (Go.Value × Edn)) (es : List Edn) : Prop where
 rds : ∀ q ∈ qs, Ints F q.1 q.2.rd
 eqs : qs.map (·.2) = es
theorem EdsR.nil {F : Heap} : EdsR F [] [] := ⟨fun _ h => (by cases h), rfl⟩
theorem EdsR.mono {F F' : Heap} {qs : List (Go.Value × Edn)} {es : List Edn} (h : EdsR F qs es) (hF : F.le F') : EdsR F' qs es := ⟨fun q hq => (h.rds q hq).mono hF, h.eqs⟩
theorem EdsR.snoc {F : Heap} {qs : List (Go.Value × Edn)} {es : List Edn} (h : EdsR F qs es) {v : Go.Value} {x : Edn} (hv : Ints F v x.rd) : EdsR F (qs ++ [(v, x)]) (es ++ [x]) :=
 ⟨fun q hq => (by rcases List.mem_append.1 hq with hq | hq; exact h.rds q hq; simp at hq; subst hq; exact hv), by rw [List.map_append, h.eqs]; rfl⟩
theorem EdsR.len {F : Heap} {qs : List (Go.Value × Edn)} {es : List Edn} (h : EdsR F qs es) : qs.length = es.length := by rw [← h.eqs, List.length_map]
end Go.Proofs.Ytccogmkhijgelaa
namespace Go.Proofs.Ytccogmkhijgelaa
/-- A reading's other number. -/
def renV (w : Nat) (r : Int) : Int := 1 + (r + w) % 3
theorem renV_in {w : Nat} {r : Int} : 1 ≤ renV w r ∧ renV w r ≤ 3 := by unfold renV; omega
theorem renV_eq {w : Nat} {a b : Int} (ha : 1 ≤ a ∧ a ≤ 3) (hb : 1 ≤ b ∧ b ≤ 3) : renV w a = renV w b ↔ a = b := by unfold renV; omega
theorem renV_back {w : Nat} {a : Int} (ha : 1 ≤ a ∧ a ≤ 3) : renV (2 * w + 1) (renV w a) = a := by unfold renV; push_cast; omega
/-- The one stem is the other one, with a place numbered otherwise. -/
structure Ren (s s' : Stm) (p w : Nat) : Prop where
 pl : s'.places = s.places
 len : s'.editions.length = s.editions.length
 year : ∀ i, i < s.editions.length → (s'.ed i).lo = (s.ed i).lo ∧ (s'.ed i).hi = (s.ed i).hi
 same : ∀ i, i < s.editions.length → ∀ q, q ≠ p → s'.r i q = s.r i q
 zero : ∀ i, i < s.editions.length → s.r i p = 0 → s'.r i p = 0
 other : ∀ i, i < s.editions.length → s.r i p ≠ 0 → s'.r i p = renV w (s.r i p)
section
variable {s s' : Stm} {p w : Nat} {l : List Int}
theorem Ren.back (h : Ren s s' p w) (hv : ValidT s) (hp : p < s.places.length) : Ren s' s p (2 * w + 1) :=
 ⟨h.pl.symm, h.len.symm, fun i hi => by rw [h.len] at hi; exact ⟨(h.year i hi).1.symm, (h.year i hi).2.symm⟩, fun i hi q hq => by rw [h.len] at hi; exact (h.same i hi q hq).symm,
  fun i hi h0 => by
    rw [h.len] at hi
    by_cases hz : s.r i p = 0
    · exact hz
    · have := h.other i hi hz
      have := renV_in (w := w) (r := s.r i p)
      omega,
  fun i hi h0 => by
    rw [h.len] at hi
    by_cases hz : s.r i p = 0
    · exact absurd (h.zero i hi hz) h0
    · rw [h.other i hi hz, renV_back]
      have := hv.rd i p hi hp
      omega⟩
theorem Ren.free (h : Ren s s' p w) {q : Nat} : freeP s' q = freeP s q := by unfold freeP Stm.pl; rw [h.pl]
theorem changes_ren (hin : TreeIn l) {g : Nat → Int} (hg : ∀ i, i < l.length → 1 ≤ g i ∧ g i ≤ 3) : changesOf l (fun i => renV w (g i)) = changesOf l g := by
 unfold changesOf
 refine Cj fun i hi => ?_
 unfold chg
 by_cases hu : upN l i = -1
 · rw [if_pos hu, if_pos hu]
 · obtain ⟨q, hq, hql⟩ := hin.nat hi hu
   have e : (renV w (g (upN l i).toNat) = renV w (g i)) ↔ g (upN l i).toNat = g i := by
     rw [hq, Int.toNat_natCast]; exact renV_eq (hg q hql) (hg i hi)
   rw [if_neg hu, if_neg hu]
   by_cases h : g (upN l i).toNat = g i
   · rw [if_pos h, if_pos (e.2 h)]
   · rw [if_neg h, if_neg (fun k => h (e.1 k))]
theorem Ren.least_le (h : Ren s s' p w) (hf : freeP s p = true) (hl : l.length = s.editions.length) (hin : TreeIn l) : leastL s' l p ≤ leastL s l p := by
 refine le_least Df.2 hl fun g h1 h2 => ?_
 rw [← changes_ren (w := w) hin h1.val]
 refine leastL_le hin (by rw [h.len]; exact hl) ⟨fun i _ => renV_in, fun i hi => ?_⟩ fun i hi hu => .inr (.inr (by rw [h.free]; exact hf))
 rcases h1.fit i hi with h3 | h3
 · exact .inl (h.zero i (by omega) h3)
 · by_cases hz : s.r i p = 0
   · exact .inl (h.zero i (by omega) hz)
   · exact .inr (by rw [h.other i (by omega) hz, h3])
theorem Ren.least (h : Ren s s' p w) (hv : ValidT s) (hp : p < s.places.length) (hf : freeP s p = true) (hl : l.length = s.editions.length) (hin : TreeIn l) (q : Nat) : leastL s' l q = leastL s l q := by
 by_cases hq : q = p
 · subst hq
   exact Int.le_antisymm (h.least_le hf hl hin) ((h.back hv hp).least_le (by rw [h.free]; exact hf) (by rw [h.len]; exact hl) hin)
 · refine (least_same hl (by rw [h.len]; exact hl) hin fun g => ?_).symm
   have hfr := h.free (q := q)
   constructor
   · rintro ⟨h1, h2⟩
     exact ⟨⟨h1.val, fun i hi => by have := h1.fit i hi; unfold fitR at this ⊢; rw [h.same i (by omega) q hq] at this; exact this⟩, fun i hi hu => by have := h2 i hi hu; rw [hfr] at this; exact this⟩
   · rintro ⟨h1, h2⟩
     exact ⟨⟨h1.val, fun i hi => by have := h1.fit i hi; unfold fitR at this ⊢; rw [h.same i (by omega) q hq]; exact this⟩, fun i hi hu => by have := h2 i hi hu; rw [hfr]; exact this⟩
theorem Ren.fits (h : Ren s s' p w) (ht : IsTree l) (hl : l.length = s.editions.length) : fitsT s' l = fitsT s l :=
 fits_years ht hl (by rw [h.len]; exact hl) fun i hi => h.year i (by omega)
theorem Ren.cost (h : Ren s s' p w) (hv : ValidT s) (hp : p < s.places.length) (hf : freeP s p = true) (hl : l.length = s.editions.length) (ht : IsTree l) : costL s' l = costL s l := by
 have h1 := h.fits ht hl
 unfold fitsT at h1
 unfold costL
 rw [h1, h.pl, show leastL s' l = leastL s l from funext fun q => h.least hv hp hf hl ht.in_ q]
theorem filter_same {α : Type} {f g : α → Bool} {l : List α} (h : ∀ x ∈ l, f x = g x) : l.filter f = l.filter g := by
 induction l with
 | nil => rfl
 | cons a l ih =>
   rw [List.filter_cons, List.filter_cons, h a List.mem_cons_self, ih fun x hx => h x (List.mem_cons_of_mem _ hx)]
theorem Ren.trees (h : Ren s s' p w) : allTrees s' = allTrees s := by
 unfold allTrees
 rw [h.len]
 refine filter_same fun x hx => ?_
 obtain ⟨t, rfl, hd, hin, hT⟩ := trees_mem.1 hx
 refine h.fits ?_ hd
 exact isTree_of (fun i hi => by have := hin i (by omega); rw [hd]; exact this) hT
theorem bestR_congr {top : Int} {c c' : List Int → Int} : ∀ {xs : List (List Int)}, (∀ x ∈ xs, c x = c' x) → bestR top c xs = bestR top c' xs := by
 intro xs
 induction xs using snoc_ind with
 | h0 => intro _; rfl
 | h1 xs t ih =>
   intro h
   rw [Du, Du, ih fun x hx => h x (by simp [hx])]
   unfold bestStep
   rw [h t (by simp)]
theorem Ren.best (h : Ren s s' p w) (hv : ValidT s) (hp : p < s.places.length) (hf : freeP s p = true) : bestR 1000 (costL s') (allTrees s') = bestR 1000 (costL s) (allTrees s) := by
 rw [h.trees]
 refine bestR_congr fun x hx => ?_
 obtain ⟨h1, h2, -⟩ := Cs.1 hx
 exact h.cost hv hp hf h1 h2
theorem Ren.met (h : Ren s s' p w) (hv : ValidT s) (hp : p < s.places.length) {v : Nat} (hv3 : 1 ≤ v ∧ v ≤ 3) : metB s' p (renV w v).toNat = metB s p v := by
 have hin := renV_in (w := w) (r := (v : Int))
 rw [Bool.eq_iff_iff, metB_iff, metB_iff, h.len]
 constructor
 · rintro ⟨i, hi, h1⟩
   by_cases hz : s.r i p = 0
   · rw [h.zero i hi hz] at h1; omega
   · rw [h.other i hi hz, Int.toNat_of_nonneg (by omega)] at h1
     have hrd := hv.rd i p hi hp
     exact ⟨i, hi, (renV_eq (by omega) (by omega)).1 h1⟩
 · rintro ⟨i, hi, h1⟩
   refine ⟨i, hi, ?_⟩
   rw [h.other i hi (by omega), h1, Int.toNat_of_nonneg (by omega)]
theorem Ren.kinds (h : Ren s s' p w) (hv : ValidT s) (hp : p < s.places.length) (q : Nat) : kindsN s' q = kindsN s q := by
 by_cases hq : q = p
 · subst hq
   have h1 := h.met hv hp (v := 1) (by omega)
   have h2 := h.met hv hp (v := 2) (by omega)
   have h3 := h.met hv hp (v := 3) (by omega)
   unfold kindsN kindTo
   simp only [sumN, Nat.zero_add, Nat.reduceAdd]
   rw [← h1, ← h2, ← h3]
   unfold renV
   rcases (show w % 3 = 0 ∨ w % 3 = 1 ∨ w % 3 = 2 by omega) with hw | hw | hw
   · rw [show (1 + (((1 : Nat) : Int) + w) % 3).toNat = 2 by omega, show (1 + (((2 : Nat) : Int) + w) % 3).toNat = 3 by omega, show (1 + (((3 : Nat) : Int) + w) % 3).toNat = 1 by omega]
     omega
   · rw [show (1 + (((1 : Nat) : Int) + w) % 3).toNat = 3 by omega, show (1 + (((2 : Nat) : Int) + w) % 3).toNat = 1 by omega, show (1 + (((3 : Nat) : Int) + w) % 3).toNat = 2 by omega]
     omega
   · rw [show (1 + (((1 : Nat) : Int) + w) % 3).toNat = 1 by omega, show (1 + (((2 : Nat) : Int) + w) % 3).toNat = 2 by omega, show (1 + (((3 : Nat) : Int) + w) % 3).toNat = 3 by omega]
 · have e : ∀ v, metB s' q v = metB s q v := fun v => by
     rw [Bool.eq_iff_iff, metB_iff, metB_iff, h.len]
     constructor
     · rintro ⟨i, hi, h1⟩; exact ⟨i, hi, by rw [← h.same i hi q hq]; exact h1⟩
     · rintro ⟨i, hi, h1⟩; exact ⟨i, hi, by rw [h.same i hi q hq]; exact h1⟩
   unfold kindsN kindTo
   exact Cj fun j _ => by rw [e]
theorem Ren.unclean (h : Ren s s' p w) (hv : ValidT s) (hp : p < s.places.length) (hf : freeP s p = true) (hl : l.length = s.editions.length) (ht : IsTree l) : uncleanL s' l = uncleanL s l := by
 unfold uncleanL
 rw [h.pl]
 refine congrArg (fun b => selN b s.places.length) (funext fun q => ?_)
 unfold uncleanB
 rw [h.least hv hp hf hl ht.in_ q]
 unfold needN
 rw [h.kinds hv hp q]
theorem Ren.clean (h : Ren s s' p w) (hv : ValidT s) (hp : p < s.places.length) (hf : freeP s p = true) : cleanR s' (allTrees s') = cleanR s (allTrees s) := by
 rw [h.trees]
 have key : ∀ (xs : List (List Int)), (∀ x ∈ xs, x ∈ allTrees s) → cleanR s' xs = cleanR s xs := fun xs => by
   induction xs using snoc_ind with
   | h0 => intro _; rfl
   | h1 xs t ih =>
     intro hx
     obtain ⟨h1, h2, -⟩ := Cs.1 (hx t (by simp))
     rw [cleanR_snoc, cleanR_snoc, ih fun x h => hx x (by simp [h])]
     unfold cleanStep
     rw [h.unclean hv hp hf h1 h2]
 exact key _ fun x hx => hx
/-- Edition by edition. -/
def renTo (s : Stm) (p w : Nat) : Nat → Stm
 | 0 => s
 | k + 1 => if 0 < s.r k p then setS (renTo s p w k) k p (renV w (s.r k p)) else renTo s p w k
theorem renTo_yes {k : Nat} (h : 0 < s.r k p) : renTo s p w (k + 1) = setS (renTo s p w k) k p (renV w (s.r k p)) := if_pos h
theorem renTo_no {k : Nat} (h : ¬ 0 < s.r k p) : renTo s p w (k + 1) = renTo s p w k := if_neg h
theorem renTo_pl : ∀ k, (renTo s p w k).places = s.places
 | 0 => rfl
 | k + 1 => by unfold renTo; split; exact renTo_pl k; exact renTo_pl k
theorem Ef : ∀ k, (renTo s p w k).editions.length = s.editions.length
 | 0 => rfl
 | k + 1 => by unfold renTo; split; rw [Dz]; exact Ef k; exact Ef k
theorem renTo_check (h0 : (checkT s).2.2 = 0) : ∀ {k}, k ≤ s.editions.length → (checkT (renTo s p w k)).2.2 = 0
 | 0, _ => h0
 | k + 1, hk => by
   have ih := renTo_check h0 (k := k) (by omega)
   unfold renTo
   split
   · have := renV_in (w := w) (r := s.r k p)
     exact check_set ih (by rw [Ef]; omega) (by omega)
   · exact ih
theorem renTo_r (h0 : (checkT s).2.2 = 0) (hp : p < s.places.length) {i q : Nat} (hi : i < s.editions.length) : ∀ {k}, k ≤ s.editions.length → (renTo s p w k).r i q = if i < k ∧ q = p ∧ 0 < s.r i p then renV w (s.r i p) else s.r i q
 | 0, _ => by rw [if_neg (fun h => absurd h.1 (by omega))]; rfl
 | k + 1, hk => by
   have ih := renTo_r h0 hp hi (q := q) (k := k) (by omega)
   have hv := Cx (renTo_check (p := p) (w := w) h0 (k := k) (by omega))
   by_cases h : 0 < s.r k p
   · rw [renTo_yes h, setS_r (by rw [Ef]; omega) (by rw [hv.rdl k (by rw [Ef]; omega), renTo_pl]; exact hp), ih]
     by_cases h1 : i = k
     · subst h1
       by_cases h2 : q = p
       · subst h2; rw [if_pos ⟨rfl, rfl⟩, if_pos ⟨by omega, rfl, h⟩]
       · rw [if_neg (fun h => h2 h.2), if_neg (fun h => h2 h.2.1), if_neg (fun h => h2 h.2.1)]
     · rw [if_neg (fun h => h1 h.1)]
       by_cases h2 : i < k ∧ q = p ∧ 0 < s.r i p
       · rw [if_pos h2, if_pos ⟨by omega, h2.2⟩]
       · rw [if_neg h2, if_neg (fun h => h2 ⟨by omega, h.2⟩)]
   · rw [renTo_no h, ih]
     by_cases h2 : i < k ∧ q = p ∧ 0 < s.r i p
     · rw [if_pos h2, if_pos ⟨by omega, h2.2⟩]
     · rw [if_neg h2, if_neg]
       rintro ⟨h3, h4, h5⟩
       by_cases h6 : i = k
       · subst h6; exact h h5
       · exact h2 ⟨by omega, h4, h5⟩
theorem renTo_year {i : Nat} : ∀ {k}, k ≤ s.editions.length → ((renTo s p w k).ed i).lo = (s.ed i).lo ∧ ((renTo s p w k).ed i).hi = (s.ed i).hi
 | 0, _ => ⟨rfl, rfl⟩
 | k + 1, hk => by
   have ih := renTo_year (i := i) (k := k) (by omega)
   unfold renTo
   split
   · rw [setS_ed (by rw [Ef]; omega)]
     split
     · rename_i h; subst h; exact ih
     · exact ih
   · exact ih
theorem ren_all (h0 : (checkT s).2.2 = 0) (hp : p < s.places.length) : Ren s (renTo s p w s.editions.length) p w :=
 ⟨renTo_pl _, Ef _, fun i _ => renTo_year (Nat.le_refl _), fun i hi q hq => by rw [renTo_r h0 hp hi (Nat.le_refl _), if_neg (fun h => hq h.2.1)],
  fun i hi hz => by rw [renTo_r h0 hp hi (Nat.le_refl _), if_neg (fun h => by omega), hz],
  fun i hi hz => by rw [renTo_r h0 hp hi (Nat.le_refl _), if_pos ⟨hi, rfl, by have := (Cx h0).rd i p hi hp; omega⟩]⟩
theorem Ren.bests (h : Ren s s' p w) (hv : ValidT s) (hp : p < s.places.length) (hf : freeP s p = true) : bestsL s' = bestsL s ∧ bestsM s' = bestsM s := by
 unfold bestsL bestsM; rw [h.best hv hp hf]; exact ⟨rfl, rfl⟩
theorem Ren.bestTE (h : Ren s s' p w) (h0 : (checkT s).2.2 = 0) (h0' : (checkT s').2.2 = 0) (hp : p < s.places.length) (hf : freeP s p = true) : bestTE s' = bestTE s := by
 obtain ⟨h1, h2⟩ := h.bests (Cx h0) hp hf
 unfold Go.Proofs.Ytccogmkhijgelaa.bestTE askedT
 rw [h1, h2, h0, h0']
theorem Ren.cleanE (h : Ren s s' p w) (h0 : (checkT s).2.2 = 0) (h0' : (checkT s').2.2 = 0) (hp : p < s.places.length) (hf : freeP s p = true) : cleanE s' = cleanE s := by
 unfold Go.Proofs.Ytccogmkhijgelaa.cleanE
 rw [h.clean (Cx h0) hp hf, h0, h0']
theorem back_bestTE (h0 : (checkT s).2.2 = 0) : (bestTE (backS s)).2 = (bestTE s).2 := by
 obtain ⟨h1, h2⟩ := back_bests h0
 have h3 := back_check h0
 by_cases hn : bestsL s = []
 · have hn' : bestsL (backS s) = [] := bestsL_nil.2 (by rw [h1]; exact bestsL_nil.1 hn)
   have a1 := askedT_nil h0 hn
   have a2 := askedT_nil h3 hn'
   rw [bestTE_bad (by omega), bestTE_bad (by omega), a1, a2]
 · have hn' : bestsL (backS s) ≠ [] := fun h => hn (bestsL_nil.2 (by rw [← h1]; exact bestsL_nil.1 h))
   rw [bestTE_ok (askedT_some h0 hn), bestTE_ok (askedT_some h3 hn'), h1, h2]
end
theorem StmR.back {F : Heap} {vp ve w : Go.Value} {ps : List (Go.Value × Edn)} {s : Stm} (h : StmR F vp ve ps s) (hw : Sl F w 4 edE ps.reverse) : StmR F vp w ps.reverse (backS s) :=
 ⟨h.places, hw, fun p hp => h.rds p (List.mem_reverse.1 hp), by rw [List.map_reverse, h.eqs]; rfl⟩
theorem rev_take {α : Type} {l : List α} {k : Nat} (h : k < l.length) : l.reverse.take (k + 1) = l.reverse.take k ++ [l[l.length - 1 - k]] := by
 rw [List.take_succ_eq_append_getElem (by simpa using h), List.getElem_reverse]
end Go.Proofs.Ytccogmkhijgelaa
namespace Go.Proofs.Ytccogmkhijgelaa
open Go.RowKit
set_option maxRecDepth 100000 in
set_option maxHeartbeats 1000000 in
theorem namedLaw_ok {F : Heap} {vp ve : Value} {ps : List (Value × Edn)} {s : Stm} (hr : StmR F vp ve ps s) {wa wb : Nat} (hwa : wa < 256) (hwb : wb < 256) : Ok Try.prog 13 [.agg #[vp, ve], .agg #[.int .u8 (wa : Int), .int .u8 (wb : Int)]].toArray F fun u _ => u = .bool true := by
 have hle0 : F.le F := Heap.le_refl _
 refine Ok.intro Try.func13 rfl Try.ntmps13 rfl fun w0 => ?_
 have hL1 := hr.eds.plain.lt
 have hL2 := hr.places.plain.lt
 have hlen := hr.len
 by_cases h0 : (checkT s).2.2 = 0
 ·
  have hv := Cx h0
  have hne := hv.ne
  have hnp := hv.np
  refine Af <| Ai fun ds => Bg rfl (B2 (Aj rfl) rfl fun b1 hb1 nb1 => ?_)
  refine Bg rfl (B2 (Am rfl <| Aj rfl) rfl fun b2 hb2 nb2 => ?_)
  refine Aa rfl (Ae Ab) ?_
  refine Ah <| Ac <| Af <| Af <| Ai fun ds => Aa rfl (A7 B4 (Ar rfl <| Ad) rfl rfl (A5 1 rfl)) ?_
  refine By rfl (Bb bd_40 Az (.cons (Ad) .nil) (valid_ok hr) (fun _ _ h => h)) ?_
  refine Aa rfl (Cn (Ad)) ?_
  refine Ah <| Ac <| Ao (Ad) (by simp [h0]) ?_
  refine Ay <| Ac <| Af <| Ai fun ds => Aa rfl (A7 B4 (A1 rfl <| Am rfl <| Ad) rfl rfl (A5 1 rfl)) ?_
  refine Bg rfl (Ck bd_27 Az (.cons (Ad) .nil) (best_top_ok hr) fun v3 F4 hr5 hF6 => ?_)
  replace hr := hr.mono hF6
  replace hle0 := Heap.le_trans hle0 hF6
  have hq0 := hr5
  obtain ⟨v5, rfl, hb5⟩ := hq0
  refine Aa rfl (Ag (Ad)) ?_
  refine Aa rfl (Aw (Ad) rfl) ?_
  refine Aa rfl (Aw (Am rfl <| Ad) rfl) ?_
  refine Aa rfl (Aw (Ar rfl <| Ad) rfl) ?_
  refine Aa rfl (Aw (Ar rfl <| Am rfl <| Ad) rfl) ?_
  refine Aa rfl (Ae (Ar rfl <| Am rfl <| Ad)) ?_
  refine Aa rfl (Ae (Ar rfl <| Am rfl <| Ad)) ?_
  refine Aa rfl (Ae (Ar rfl <| Am rfl <| Ad)) ?_
  refine Aa rfl (Ae (Ar rfl <| Am rfl <| Ad)) ?_
  refine Ah <| Ac <| Af <| Ai fun ds => Aa rfl (A7 B4 (A3 rfl <| Ad) rfl rfl (A5 1 rfl)) ?_
  refine Bg rfl (B6 zr_25 rfl fun b7 hb7 nb7 => ?_)
  refine Ce (B8 sz_25 (Ad) (Am rfl <| Ad) (i := 0) rfl rfl rfl rfl hr.ones (.here) ?_)
  refine Ah <| Ac <| Af <| Ai fun ds => Aa rfl (Ak Bq (Ad)) ?_
  refine Ce (Cg sz_23 (Ad) Ab (i := 0) rfl (.next <| .here) rfl (.here) ?_)
  refine Ah <| Ac <| Af <| Af <| Ai fun ds => Aa rfl (Ak Bq (A3 rfl <| Ar rfl <| Am rfl <| Ad)) ?_
  refine Aa rfl (Ap Bw (Ad) (Cell.own 2 rfl rfl)) ?_
  refine Aa rfl (Bl B1 (Ad) hr.eds.plain) ?_
  refine Aa rfl (q_sub (Ad) Ab rfl (by omega) (by omega)) ?_
  refine Aa rfl (Ae (Ad)) ?_
  refine Ah <| Ac <| A0 <| Bt [10, 41, 42, 43, 44, 45, 46, 47, 48, 49, 50, 51, 52, 53, 54] (fun m e σ => ∃ k : Nat, m + k = ps.length ∧ e 10 = .int .i64 ((ps.length : Int) - 1 - k) ∧ ∃ w9 R9, Own 64 4 w9 (ps.reverse.take k).length ((ps.reverse.take k).flatMap edE) R9 ∧ σ = ⟨F4, (b7, bx 25 [vp, w9]) :: (b2, bx 62 [.int .u8 (wa : Int), .int .u8 (wb : Int)]) :: (b1, bx 25 [vp, ve]) :: R9⟩) (ps.length) ?_ ?_
  · exact ⟨0, by omega, ((Ad)).trans (congrArg (Value.int .i64) (by push_cast; omega)), _, [], Own.nil, rfl⟩
  ·
   rintro m e _ ⟨k, hm, hs10, w9, R9, ho, rfl⟩; have hsl : (ps.reverse.take k).length ≤ 5 := by rw [List.length_take, List.length_reverse]; omega
   by_cases hlt : k < ps.length
   ·
    have hik : ps.length - 1 - k < ps.length := by omega
    refine Af <| Af <| Ai fun ds => Aa rfl (Ag (At rfl hs10)) ?_
    refine Aa rfl (Dm (Ad) Ab) ?_
    refine Ah <| Ac <| Aq (Ad) (decide_eq_true (by omega)) ?_
    refine Ay <| Ac <| Af <| A0 ?_
    have hleS := hle0
    refine C1 (.inl rfl) (fun _ _ h => h) (.cons_cons _ <| .cons_cons _ <| .cons_cons _ <| List.nil_sublist _) [8, 10, 9] (by kernel_rfl) fun ds => ?_
    refine A8 0 rfl (by kernel_rfl) (by kernel_rfl) (by kernel_rfl) (by kernel_rfl) rfl rfl (fun _ h => h.drop (.cons_cons _ <| .cons_cons _ <| .cons_cons _ <| List.nil_sublist _)) (fun _ _ _ h => h) (Ak Bq (Ar rfl <| Al rfl <| A1 rfl <| Ar rfl <| Ad)) ?_
    refine A8 1 rfl (by kernel_rfl) (by kernel_rfl) (by kernel_rfl) (by kernel_rfl) rfl rfl (fun _ h => h.drop (.cons_cons _ <| .cons_cons _ <| .cons_cons _ <| List.nil_sublist _)) (fun _ _ _ h => h) (Ap Bw (Ad) (Cell.own 0 rfl rfl)) ?_
    refine A8 2 rfl (by kernel_rfl) (by kernel_rfl) (by kernel_rfl) (by kernel_rfl) rfl rfl (fun _ h => h.drop (.cons_cons _ <| .cons_cons _ <| .cons_cons _ <| List.nil_sublist _)) (fun _ _ _ h => h) (Ak Bq (A1 rfl <| Al rfl <| A3 rfl <| A6 rfl <| Ad)) ?_
    refine A8 3 rfl (by kernel_rfl) (by kernel_rfl) (by kernel_rfl) (by kernel_rfl) rfl rfl (fun _ h => h.drop (.cons_cons _ <| .cons_cons _ <| .cons_cons _ <| List.nil_sublist _)) (fun _ _ _ h => h) (Ap Bw (Ad) (Cell.own 2 rfl rfl)) ?_
    refine A8 4 rfl (by kernel_rfl) (by kernel_rfl) (by kernel_rfl) (by kernel_rfl) rfl rfl (fun _ h => h.drop (.cons_cons _ <| .cons_cons _ <| .cons_cons _ <| List.nil_sublist _)) (fun _ _ _ h => h) (Ag (A1 rfl <| Ar rfl <| At rfl hs10)) ?_
    refine A8 5 rfl (by kernel_rfl) (by kernel_rfl) (by kernel_rfl) (by kernel_rfl) rfl rfl (fun _ h => h.drop (.cons_cons _ <| .cons_cons _ <| .cons_cons _ <| List.nil_sublist _)) (fun _ _ _ h => h) (Be (k := ps.length - 1 - k) B1 (Am rfl <| Ad) hr.eds.plain (Ad) (by omega) hik) ?_
    refine A8 6 rfl (by kernel_rfl) (by kernel_rfl) (by kernel_rfl) (by kernel_rfl) rfl rfl (fun _ h => h.drop (.cons_cons _ <| .cons_cons _ <| .cons_cons _ <| List.nil_sublist _)) (fun _ _ _ h => h) (A7 Eb (Ad) rfl rfl (hr.eds.whole hik)) ?_
    refine WX_x 7 rfl (by kernel_rfl) rfl (x_buildN (offs := [(0, 4)]) (zl := [.string ⟨#[]⟩, .int .i64 0, .int .i64 0, .slice none 0 0]) B1 zr_64 rfl (.cons (Ad) rfl .nil) (by intro i p h; rcases i with _ | i <;> simp at h <;> subst h <;> rfl) (.cons rfl rfl (Nat.le_of_ble_eq_true rfl) (.cons (.here) (.cons (.next <| .here) (.cons (.next <| .next <| .here) (.cons (.next <| .next <| .next <| .here) .nil)))) .nil) (by decide) (by decide) fun b9 hb9 nb9 => ⟨fun _ _ => (fun _ h => h.drop (.cons _ <| .cons_cons _ <| .cons_cons _ <| .cons_cons _ <| List.nil_sublist _)), ?_⟩)
    refine WX_x 8 rfl (by kernel_rfl) rfl (Cu B1 el_64 (A1 rfl <| Ar rfl <| Ad) ho (Ad) (D6 (s := 4) 0 rfl rfl (edE_one (hr.one _ (List.getElem_mem hik)))) (by omega) (by omega) (.s <| .s <| .s <| .s <| .z) .last fun v10 R11 ho12 => ⟨(fun h => nomatch h), ?_⟩)
    have ho2 := ho12.snoc (x := ps[ps.length - 1 - k]'hik) rfl rfl
    refine WX_x 9 rfl (by kernel_rfl) rfl (x_quiet (Ak Bq (A6 rfl <| Ar rfl <| Am rfl <| Al rfl <| A1 rfl <| Ar rfl <| Ad)).quiet ⟨(fun h => nomatch h), ?_⟩)
    refine WX_x0 10 rfl (by kernel_rfl) (Cg sz_23 (Ad) (Am rfl <| Ad) (i := 1) rfl (.next <| .here) ho2.one (.next <| .here) ⟨(fun h => nomatch h), ?_⟩)
    refine C6 (by kernel_rfl) ?_ _
    refine Ba <| Ac <| Di (fun _ _ h => h.drop (.cons _ <| .cons_cons _ <| .cons_cons _ <| .cons_cons _ <| .refl _)) ?_
    refine Ai fun ds => Aa rfl (Ag (A6 rfl <| A1 rfl <| At rfl hs10)) ?_
    refine Aa rfl (q_sub (Ad) Ab rfl (by omega) (by omega)) ?_
    refine Aa rfl (Ae (Ad)) ?_
    refine Ah <| Ac ⟨_, m - 1, Off.eq (D0 rfl <| ou4 rfl <| ou2 rfl <| Ei rfl <| Bf), by omega, ?_⟩
    exact ⟨k + 1, by omega, ((Ad)).trans (congrArg (Value.int .i64) (by push_cast; omega)), _, _, by rw [rev_take hlt]; exact ho2, rfl⟩
   ·
    refine Af <| Af <| Ai fun ds => Aa rfl (Ag (At rfl hs10)) ?_
    refine Aa rfl (Dm (Ad) Ab) ?_
    refine Ah <| Ac <| Ao (Ad) (decide_eq_false (by omega)) ?_
    obtain rfl : k = ps.length := by omega
    rw [List.take_of_length_le (by simp)] at ho
    refine Cw (σ := ⟨_, _⟩) (by rfl) ho (.s <| .s <| .s <| .z) .last fun F13 hF14 hz15 => ?_
    replace hr := hr.mono hF14
    replace hle0 := Heap.le_trans hle0 hF14
    replace hb5 := hb5.mono hF14
    have hbk := ho.sl (fun _ => rfl) hz15 (by simp only [List.length_reverse]; omega)
    refine Cd (i := 0) rfl hb7 (.here) fun F16 hF17 hz9 => ?_
    replace hr := hr.mono hF17
    replace hle0 := Heap.le_trans hle0 hF17
    replace hb5 := hb5.mono hF17
    replace hbk := hbk.mono hF17
    have hrb := hr.back hbk
    have hbb := back_bestTE h0
    have hxp := Nat.mod_lt wa (show 0 < s.places.length by omega)
    refine Bs ?_
    refine Bd <| Bd <| Bi <| Ac <| Af <| Ai fun ds => Aa rfl (A7 B4 (Ar rfl <| Al rfl <| A1 rfl <| Ar rfl <| Ad) rfl rfl (Ct hz9)) ?_
    refine Bg rfl (Ck bd_27 Az (.cons (Ad) .nil) (best_top_ok hrb) fun v18 F19 hr20 hF21 => ?_)
    replace hr := hr.mono hF21
    replace hle0 := Heap.le_trans hle0 hF21
    replace hb5 := hb5.mono hF21
    replace hrb := hrb.mono hF21
    have hq0 := hr20
    obtain ⟨v11, rfl, hb11⟩ := hq0
    refine Aa rfl (Ag (Ad)) ?_
    refine Aa rfl (Aw (Ad) rfl) ?_
    refine Aa rfl (Aw (Am rfl <| Ad) rfl) ?_
    refine Aa rfl (Aw (Ar rfl <| Ad) rfl) ?_
    refine Aa rfl (Aw (Ar rfl <| Am rfl <| Ad) rfl) ?_
    refine Aa rfl (Ae (Ar rfl <| Am rfl <| Ad)) ?_
    refine Aa rfl (Ae (Ar rfl <| Am rfl <| Ad)) ?_
    refine Aa rfl (Ae (Ar rfl <| Am rfl <| Ad)) ?_
    refine Aa rfl (Ae (Ar rfl <| Am rfl <| Ad)) ?_
    refine Ah <| Ac <| Af <| Af <| Ai fun ds => Aa rfl (Ag (A6 rfl <| A1 rfl <| Am rfl <| Al rfl <| A6 rfl <| Ar rfl <| Ad)) ?_
    refine Aa rfl (Ag (Ar rfl <| Am rfl <| Ad)) ?_
    refine Aa rfl (B3 (Am rfl <| Ad) (Ad)) ?_
    refine Aa rfl (Ag (Ad)) ?_
    refine As rfl rfl (Ad) (decide_eq_false (fun h => h (by rw [hbb]))) ?_
    refine Aa rfl (Ag (A3 rfl <| Am rfl <| Al rfl <| A6 rfl <| Am rfl <| Ad)) ?_
    refine As rfl rfl (Am rfl <| Ad) (decide_eq_false (fun h => h (by rw [hbb]))) ?_
    refine Aa rfl (Ag (A1 rfl <| Ar rfl <| Ad)) ?_
    refine As rfl rfl (Ar rfl <| Ad) (decide_eq_false (fun h => h (by rw [hbb]))) ?_
    refine Aa rfl (B3 (Am rfl <| Ad) (Ad)) ?_
    refine Aa rfl (Bc (Ar rfl <| Am rfl <| Ad) (decide_eq_false (fun h => h (by rw [hbb]))) (Ad)) ?_
    refine Aa rfl (Ag (Ad)) ?_
    refine As rfl rfl (Ad) (decide_eq_false (fun h => h (by rw [hbb]))) ?_
    refine Aa rfl (Ag (A3 rfl <| A1 rfl <| Ar rfl <| Al rfl <| A6 rfl <| Ad)) ?_
    refine As rfl rfl (Am rfl <| Ad) (decide_eq_false (fun h => h (by rw [hbb]))) ?_
    refine Aa rfl (Ag (A6 rfl <| Ar rfl <| Ad)) ?_
    refine As rfl rfl (Ar rfl <| Ad) (decide_eq_false (fun h => h (by rw [hbb]))) ?_
    refine Aa rfl (B3 (Am rfl <| Ad) (Ad)) ?_
    refine Aa rfl (Bc (Ar rfl <| Am rfl <| Ad) (decide_eq_false (fun h => h (by rw [hbb]))) (Ad)) ?_
    refine Ah <| Ac <| Ao (Ad) (decide_eq_false (fun h => h (by rw [hbb]))) ?_
    have hpe : (wa % s.places.length) < s.places.length := hxp
    refine Ay <| Ac <| Af <| Ai fun ds => Aa rfl (Bp (k := 0) ar_62 (A3 rfl <| A6 rfl <| Ar rfl <| Al rfl <| A3 rfl <| A1 rfl <| Ar rfl <| Am rfl <| Ad) Ab rfl (by decide)) ?_
    refine Aa rfl (Ap one_5 (Ad) (Cell.own 0 rfl rfl)) ?_
    refine Aa rfl (q_convert ⟨_, Try.underlying5⟩ Try.underlying3 (Ad) (IntWalk.i64_in _ ⟨by omega, by omega⟩)) ?_
    refine Aa rfl (Ak Cr (A3 rfl <| A6 rfl <| A1 rfl <| Am rfl <| Al rfl <| A3 rfl <| A6 rfl <| Ad)) ?_
    refine Aa rfl (Ap C0 (Ad) (Cell.own 1 rfl rfl)) ?_
    refine Aa rfl (Bl C5 (Ad) hr.places.plain) ?_
    refine Aa rfl (q_remN (Ar rfl <| Am rfl <| Ad) (Ad) (by omega)) ?_
    refine Aa rfl (Ae (Ad)) ?_
    refine Ah <| Ac <| Af <| Af ?_
    by_cases hk : (s.pl (wa % s.places.length)).kind = 0
    ·
     have hf : freeP s (wa % s.places.length) = true := decide_eq_true hk
     refine Ai fun ds => Aa rfl (Ak Cr (Bk rfl <| Ar rfl <| Al rfl <| A3 rfl <| A6 rfl <| Ad)) ?_
     refine Aa rfl (Ap C0 (Ad) (Cell.own 1 rfl rfl)) ?_
     refine Aa rfl (Ag (Ar rfl <| Ad)) ?_
     refine Aa rfl (Be (k := (wa % s.places.length)) C5 (Am rfl <| Ad) hr.places.plain (Ad) rfl hpe) ?_
     refine Aa rfl (Br fd_70_1 (Ad)) ?_
     refine Aa rfl (Ap Bj (Ad) (hr.places.cell hpe rfl)) ?_
     refine Aa rfl (B3 (Ad) Ab) ?_
     refine Ah <| Ac <| Ao (Ad) (by rw [pl_at hpe]; exact decide_eq_false (fun h => h hk)) ?_
     refine Ay <| Ac <| Af <| Ai fun ds => Aa rfl (A7 B4 (Bk rfl <| A6 rfl <| Am rfl <| Al rfl <| A3 rfl <| A6 rfl <| Ad) rfl rfl (A5 1 rfl)) ?_
     refine Bg rfl (B6 zr_25 rfl fun b22 hb22 nb22 => ?_)
     refine Ce (B8 sz_25 (Ad) (Am rfl <| Ad) (i := 0) rfl rfl rfl rfl hr.ones (.here) ?_)
     refine Ah <| Ac <| Af <| Af <| Ai fun ds => Aa rfl (Ae Ab) ?_
     refine Ah <| Ac <| A0 <| Bt [17, 18, 91, 92, 93, 94, 95, 96, 97, 98, 99, 100, 101, 102, 103, 104, 105, 106, 107, 108, 109, 110, 111, 112, 113, 114, 115, 116, 117, 118, 119] (fun m e σ => ∃ k : Nat, m + k = ps.length ∧ e 17 = .int .i64 (k : Int) ∧ ∃ G, F.le G ∧ StmR G vp ve ps s ∧ Ints G v5 (bestTE s).1 ∧ ∃ vo po, StmR G vp vo po (renTo s (wa % s.places.length) wb k) ∧ σ = ⟨G, (b22, bx 25 [vp, vo]) :: [(b2, bx 62 [.int .u8 (wa : Int), .int .u8 (wb : Int)]), (b1, bx 25 [vp, ve])]⟩) (ps.length) ?_ ?_
     · exact ⟨0, by omega, (Ad), _, hle0, hr, hb5, _, _, hr, rfl⟩
     ·
      rintro m e _ ⟨k, hm, hs17, G17, hle0, hr, hb5, vo, po, hro, rfl⟩
      by_cases hlt : k < ps.length
      ·
       have hrk := hr.rd hlt
       have hrdk := hv.rdl k (by omega)
       have hpk : (wa % s.places.length) < (s.ed k).rd.length := by omega
       have er := rdT_at hpk
       have hrb := hv.rd k (wa % s.places.length) (by omega) hpe
       have hck := renTo_check (p := (wa % s.places.length)) (w := wb) h0 (k := k) (by omega)
       have hvk := Cx hck
       refine Af <| Af <| Ai fun ds => Aa rfl (Ag (At rfl hs17)) ?_
       refine Aa rfl (Ak Bq (Am rfl <| Al rfl <| Bk rfl <| A6 rfl <| A1 rfl <| Al rfl <| A3 rfl <| A6 rfl <| Ad)) ?_
       refine Aa rfl (Ap Bw (Ad) (Cell.own 2 rfl rfl)) ?_
       refine Aa rfl (Bl B1 (Ad) hr.eds.plain) ?_
       refine Aa rfl (Bv (Ar rfl <| Am rfl <| Ad) (Ad)) ?_
       refine Ah <| Ac <| Aq (Ad) (by first | rfl | exact decide_eq_true (by omega)) ?_
       by_cases hpos : 0 < s.r k (wa % s.places.length)
       ·
        refine Ay <| Ac <| Af <| A0 <| Af <| Ai fun ds => Aa rfl (Ak Bq (A1 rfl <| Am rfl <| Al rfl <| Bk rfl <| A6 rfl <| A1 rfl <| Al rfl <| A3 rfl <| A6 rfl <| Ad)) ?_
        refine Aa rfl (Ap Bw (Ad) (Cell.own 2 rfl rfl)) ?_
        refine Aa rfl (Ag (A1 rfl <| Ar rfl <| Am rfl <| At rfl hs17)) ?_
        refine Aa rfl (Be (k := k) B1 (Am rfl <| Ad) hr.eds.plain (Ad) rfl hlt) ?_
        refine Aa rfl (Br Ca (Ad)) ?_
        refine Aa rfl (Ap Cf (Ad) (hr.eds.cell hlt rfl)) ?_
        refine Aa rfl (Ag (A6 rfl <| Ar rfl <| Am rfl <| Al rfl <| A6 rfl <| Ar rfl <| Ad)) ?_
        refine Aa rfl (Be (k := (wa % s.places.length)) Bn (Am rfl <| Ad) hrk.plain (Ad) rfl hpk) ?_
        refine Aa rfl (Ap Bj (Ad) (hrk.cell1 hpk rfl)) ?_
        refine Aa rfl (Ae (Ad)) ?_
        refine Ah <| Ac <| Af <| Ai fun ds => Aa rfl (Ag (Ad)) ?_
        refine Aa rfl (De (Ad) Ab) ?_
        refine Ah <| Ac <| Aq (Ad) (by rw [er]; exact decide_eq_true hpos) ?_
        refine Ai fun ds => Aa rfl (A7 B4 (A3 rfl <| Am rfl <| Al rfl <| Am rfl <| Ad) rfl rfl (A5 0 rfl)) ?_
        refine Aa rfl (Ag (A3 rfl <| Ar rfl <| At rfl hs17)) ?_
        refine Aa rfl (Ag (A3 rfl <| Ar rfl <| Am rfl <| Al rfl <| A6 rfl <| Ar rfl <| Ad)) ?_
        refine Aa rfl (Ag (A1 rfl <| Am rfl <| Ad)) ?_
        refine Aa rfl (Bp (k := 1) ar_62 (A3 rfl <| A1 rfl <| Am rfl <| Al rfl <| Bk rfl <| A6 rfl <| A1 rfl <| Al rfl <| A3 rfl <| A1 rfl <| Ar rfl <| Am rfl <| Ad) Ab rfl (by decide)) ?_
        refine Aa rfl (Ap one_5 (Ad) (Cell.own 1 rfl rfl)) ?_
        refine Aa rfl (q_convert ⟨_, Try.underlying5⟩ Try.underlying3 (Ad) (IntWalk.i64_in _ ⟨by omega, by omega⟩)) ?_
        refine Aa rfl (Bu (Ar rfl <| Am rfl <| Ad) (Ad) rfl (by omega) (by omega)) ?_
        refine Aa rfl (q_rem (Ad) Ab (by omega) (by decide)) ?_
        refine Aa rfl (Bu Ab (Ad) rfl (by omega) (by omega)) ?_
        refine Bg rfl (Ck bd_45 Az (.cons (A6 rfl <| Am rfl <| Ad) (.cons (A6 rfl <| Ad) (.cons (A1 rfl <| Ar rfl <| Am rfl <| Ad) (.cons (Ad) .nil)))) (with_ok7 hro hvk (by rw [Ef]; omega) (by rw [renTo_pl]; exact hpe) _) fun v24 F25 hr26 hF27 => ?_)
        replace hr := hr.mono hF27
        replace hb5 := hb5.mono hF27
        replace hle0 := Heap.le_trans hle0 hF27
        obtain ⟨ve2, ps2, rfl, hr2⟩ := hr26
        refine Ce (B8 sz_25 (A3 rfl <| A6 rfl <| A1 rfl <| Al rfl <| Am rfl <| Ad) (Ad) (i := 0) rfl rfl rfl rfl hr2.ones (.here) ?_)
        refine Ah <| Ba <| Ac <| Ai fun ds => Aa rfl (Ag (A3 rfl <| A6 rfl <| A1 rfl <| At rfl hs17)) ?_
        refine Aa rfl (Bu (Ad) Ab rfl (by omega) (by omega)) ?_
        refine Aa rfl (Ae (Ad)) ?_
        refine Ah <| Ac ⟨_, m - 1, Off.eq (C9 rfl <| D0 rfl <| ou4 rfl <| ou2 rfl <| Ei rfl <| Bf), by omega, ?_⟩
        exact ⟨k + 1, by omega, (Ad), _, hle0, hr, hb5, _, _, (by rw [renTo_yes hpos]; unfold renV; rw [← er]; exact hr2), rfl⟩
       ·
        refine Ay <| Ac <| Af <| A0 <| Af <| Ai fun ds => Aa rfl (Ak Bq (A1 rfl <| Am rfl <| Al rfl <| Bk rfl <| A6 rfl <| A1 rfl <| Al rfl <| A3 rfl <| A6 rfl <| Ad)) ?_
        refine Aa rfl (Ap Bw (Ad) (Cell.own 2 rfl rfl)) ?_
        refine Aa rfl (Ag (A1 rfl <| Ar rfl <| Am rfl <| At rfl hs17)) ?_
        refine Aa rfl (Be (k := k) B1 (Am rfl <| Ad) hr.eds.plain (Ad) rfl hlt) ?_
        refine Aa rfl (Br Ca (Ad)) ?_
        refine Aa rfl (Ap Cf (Ad) (hr.eds.cell hlt rfl)) ?_
        refine Aa rfl (Ag (A6 rfl <| Ar rfl <| Am rfl <| Al rfl <| A6 rfl <| Ar rfl <| Ad)) ?_
        refine Aa rfl (Be (k := (wa % s.places.length)) Bn (Am rfl <| Ad) hrk.plain (Ad) rfl hpk) ?_
        refine Aa rfl (Ap Bj (Ad) (hrk.cell1 hpk rfl)) ?_
        refine Aa rfl (Ae (Ad)) ?_
        refine Ah <| Ac <| Af <| Ai fun ds => Aa rfl (Ag (Ad)) ?_
        refine Aa rfl (De (Ad) Ab) ?_
        refine Ah <| Ac <| Ao (Ad) (by rw [er]; exact decide_eq_false hpos) ?_
        refine Ay <| Ba <| Ac <| Ai fun ds => Aa rfl (Ag (A3 rfl <| Am rfl <| At rfl hs17)) ?_
        refine Aa rfl (Bu (Ad) Ab rfl (by omega) (by omega)) ?_
        refine Aa rfl (Ae (Ad)) ?_
        refine Ah <| Ac ⟨_, m - 1, Off.eq (C9 rfl <| ou4 rfl <| Bf), by omega, ?_⟩
        exact ⟨k + 1, by omega, (Ad), _, hle0, hr, hb5, _, _, (by rw [renTo_no hpos]; exact hro), rfl⟩
      ·
       refine Af <| Af <| Ai fun ds => Aa rfl (Ag (At rfl hs17)) ?_
       refine Aa rfl (Ak Bq (Am rfl <| Al rfl <| Bk rfl <| A6 rfl <| A1 rfl <| Al rfl <| A3 rfl <| A6 rfl <| Ad)) ?_
       refine Aa rfl (Ap Bw (Ad) (Cell.own 2 rfl rfl)) ?_
       refine Aa rfl (Bl B1 (Ad) hr.eds.plain) ?_
       refine Aa rfl (Bv (Ar rfl <| Am rfl <| Ad) (Ad)) ?_
       refine Ah <| Ac <| Ao (Ad) (by first | rfl | exact decide_eq_false (by omega)) ?_
       obtain rfl : k = ps.length := by omega
       rw [hlen] at hro
       have hR := ren_all (w := wb) h0 hpe
       have h0' := renTo_check (p := (wa % s.places.length)) (w := wb) h0 (Nat.le_refl _)
       refine Bs ?_
       refine Bd <| Bd <| Bi <| Ac <| Af <| Ai fun ds => Aa rfl (A7 B4 (A1 rfl <| Am rfl <| Al rfl <| Am rfl <| Ad) rfl rfl (A5 0 rfl)) ?_
       refine Bg rfl (Ck bd_27 Az (.cons (Ad) .nil) (best_top_ok hro) fun v28 F29 hr30 hF31 => ?_)
       replace hr := hr.mono hF31
       replace hb5 := hb5.mono hF31
       replace hro := hro.mono hF31
       have hq0 := hr30
       rw [hR.bestTE h0 h0' hpe hf] at hq0
       obtain ⟨v19, rfl, hb19⟩ := hq0
       refine Aa rfl (Ag (Ad)) ?_
       refine Aa rfl (Aw (Ad) rfl) ?_
       refine Aa rfl (Aw (Am rfl <| Ad) rfl) ?_
       refine Aa rfl (Aw (Ar rfl <| Ad) rfl) ?_
       refine Aa rfl (Aw (Ar rfl <| Am rfl <| Ad) rfl) ?_
       refine Aa rfl (Ae (Ar rfl <| Am rfl <| Ad)) ?_
       refine Aa rfl (Ae (Ar rfl <| Am rfl <| Ad)) ?_
       refine Aa rfl (Ae (Ar rfl <| Am rfl <| Ad)) ?_
       refine Aa rfl (Ae (Ar rfl <| Am rfl <| Ad)) ?_
       refine Ah <| Ac <| Af <| Ai fun ds => Aa rfl (A7 B4 (A3 rfl <| Al rfl <| Bk rfl <| A6 rfl <| A1 rfl <| Al rfl <| A3 rfl <| A6 rfl <| Ad) rfl rfl (A5 2 rfl)) ?_
       refine Bg rfl (Ck bd_33 Az (.cons (Ad) .nil) (clean_top_ok hr) fun v32 F33 hr34 hF35 => ?_)
       replace hb5 := hb5.mono hF35
       replace hro := hro.mono hF35
       replace hb19 := hb19.mono hF35
       have hq0 := hr34
       obtain ⟨v20, rfl, hb20⟩ := hq0
       refine Aa rfl (Ag (Ad)) ?_
       refine Aa rfl (Aw (Ad) rfl) ?_
       refine Aa rfl (Aw (Am rfl <| Ad) rfl) ?_
       refine Aa rfl (Ae (Am rfl <| Ad)) ?_
       refine Aa rfl (Ae (Am rfl <| Ad)) ?_
       refine Ah <| Ac <| Af <| Ai fun ds => Aa rfl (A7 B4 (A3 rfl <| A1 rfl <| Ar rfl <| Am rfl <| Al rfl <| Am rfl <| Ad) rfl rfl (A5 0 rfl)) ?_
       refine Bg rfl (Ck bd_33 Az (.cons (Ad) .nil) (clean_top_ok hro) fun v36 F37 hr38 hF39 => ?_)
       replace hb5 := hb5.mono hF39
       replace hb19 := hb19.mono hF39
       replace hb20 := hb20.mono hF39
       have hq0 := hr38
       rw [hR.cleanE h0 h0' hpe hf] at hq0
       obtain ⟨v22, rfl, hb22⟩ := hq0
       refine Aa rfl (Ag (Ad)) ?_
       refine Aa rfl (Aw (Ad) rfl) ?_
       refine Aa rfl (Aw (Am rfl <| Ad) rfl) ?_
       refine Aa rfl (Ae (Am rfl <| Ad)) ?_
       refine Aa rfl (Ae (Am rfl <| Ad)) ?_
       refine Ah <| Ac <| Af <| Ai fun ds => Aa rfl (Ag (A3 rfl <| A6 rfl <| A1 rfl <| Ar rfl <| Al rfl <| Bk rfl <| A6 rfl <| A1 rfl <| Al rfl <| A6 rfl <| Ar rfl <| Am rfl <| Ad)) ?_
       refine Aa rfl (Ag (A3 rfl <| Ar rfl <| Ad)) ?_
       refine By rfl (Bb bd_20 Az (.cons (Am rfl <| Ad) (.cons (Ad) .nil)) (refInts_ok hb5 hb19) (fun _ _ h => h)) ?_
       refine Aa rfl (Ag (Ad)) ?_
       refine As rfl rfl (Ad) (decide_eq_true rfl) ?_
       refine Aa rfl (Ag (Bk rfl <| Ar rfl <| Al rfl <| Bk rfl <| A6 rfl <| A1 rfl <| Al rfl <| A6 rfl <| Ar rfl <| Ad)) ?_
       refine As rfl rfl (Am rfl <| Ad) (decide_eq_true rfl) ?_
       refine Aa rfl (Ag (A3 rfl <| A1 rfl <| Am rfl <| Ad)) ?_
       refine As rfl rfl (Ar rfl <| Ad) (decide_eq_true rfl) ?_
       refine Aa rfl (Bz (Am rfl <| Ad) (Ad)) ?_
       refine Aa rfl (A4 (Ar rfl <| Am rfl <| Ad) (decide_eq_true rfl) (Ad)) ?_
       refine Aa rfl (Ag (Ad)) ?_
       refine As rfl rfl (Ad) (decide_eq_true rfl) ?_
       refine Aa rfl (Ag (Bk rfl <| A1 rfl <| Ar rfl <| Am rfl <| Al rfl <| Bk rfl <| A6 rfl <| A1 rfl <| Al rfl <| A6 rfl <| Am rfl <| Ad)) ?_
       refine As rfl rfl (Am rfl <| Ad) (decide_eq_true rfl) ?_
       refine Aa rfl (Ag (A3 rfl <| A6 rfl <| Am rfl <| Ad)) ?_
       refine As rfl rfl (Ar rfl <| Ad) (decide_eq_true rfl) ?_
       refine Aa rfl (Bz (Am rfl <| Ad) (Ad)) ?_
       refine Aa rfl (A4 (Ar rfl <| Am rfl <| Ad) (decide_eq_true rfl) (Ad)) ?_
       refine Aa rfl (Ag (Ad)) ?_
       refine As rfl rfl (Ad) (decide_eq_true rfl) ?_
       refine Aa rfl (Ag (Bk rfl <| A6 rfl <| A1 rfl <| Al rfl <| Bk rfl <| A6 rfl <| A1 rfl <| Al rfl <| A6 rfl <| Ad)) ?_
       refine As rfl rfl (Am rfl <| Ad) (decide_eq_true rfl) ?_
       refine Aa rfl (Ag (A3 rfl <| A6 rfl <| A1 rfl <| Am rfl <| Ad)) ?_
       refine As rfl rfl (Ar rfl <| Ad) (decide_eq_true rfl) ?_
       refine Aa rfl (Bz (Am rfl <| Ad) (Ad)) ?_
       refine Aa rfl (A4 (Ar rfl <| Am rfl <| Ad) (decide_eq_true rfl) (Ad)) ?_
       refine Aa rfl (Ag (Ad)) ?_
       refine As rfl rfl (Ad) (decide_eq_true rfl) ?_
       refine Aa rfl (Ag (A3 rfl <| A6 rfl <| Ar rfl <| Am rfl <| Ad)) ?_
       refine As rfl rfl (Am rfl <| Ad) (decide_eq_true rfl) ?_
       refine Aa rfl (Ag (A3 rfl <| A1 rfl <| Am rfl <| Ad)) ?_
       refine As rfl rfl (Ar rfl <| Ad) (decide_eq_true rfl) ?_
       refine By rfl (Bb bd_20 Az (.cons (Am rfl <| Ad) (.cons (Ad) .nil)) (refInts_ok (Nats.ints hb20) (Nats.ints hb22)) (fun _ _ h => h)) ?_
       refine Aa rfl (A4 (Ar rfl <| Am rfl <| Ad) (decide_eq_true rfl) (Ad)) ?_
       refine Aa rfl (Ag (Ad)) ?_
       refine As rfl rfl (Ad) (decide_eq_true rfl) ?_
       refine Aa rfl (Ag (A3 rfl <| A6 rfl <| A1 rfl <| Ar rfl <| Am rfl <| Ad)) ?_
       refine As rfl rfl (Am rfl <| Ad) (decide_eq_true rfl) ?_
       refine Aa rfl (Ag (A3 rfl <| A6 rfl <| Am rfl <| Ad)) ?_
       refine As rfl rfl (Ar rfl <| Ad) (decide_eq_true rfl) ?_
       refine Aa rfl (Bz (Am rfl <| Ad) (Ad)) ?_
       refine Aa rfl (A4 (Ar rfl <| Am rfl <| Ad) (decide_eq_true rfl) (Ad)) ?_
       refine Aa rfl (Ag (Ad)) ?_
       refine As rfl rfl (Ad) (decide_eq_true rfl) ?_
       refine By rfl (Bb bd_26 Az .nil awake_ok (fun _ _ h => h)) ?_
       refine Aa rfl (A4 (Am rfl <| Ad) (decide_eq_true rfl) (Ad)) ?_
       refine Aa rfl (Ae (Ad)) ?_
       refine Ah <| Ac <| A2 <| Au rfl (.tmp (Ad) .nil) ?_
       rfl
    ·
     refine Ai fun ds => Aa rfl (Ak Cr (Bk rfl <| Ar rfl <| Al rfl <| A3 rfl <| A6 rfl <| Ad)) ?_
     refine Aa rfl (Ap C0 (Ad) (Cell.own 1 rfl rfl)) ?_
     refine Aa rfl (Ag (Ar rfl <| Ad)) ?_
     refine Aa rfl (Be (k := (wa % s.places.length)) C5 (Am rfl <| Ad) hr.places.plain (Ad) rfl hpe) ?_
     refine Aa rfl (Br fd_70_1 (Ad)) ?_
     refine Aa rfl (Ap Bj (Ad) (hr.places.cell hpe rfl)) ?_
     refine Aa rfl (B3 (Ad) Ab) ?_
     refine Ah <| Ac <| Aq (Ad) (by rw [pl_at hpe]; exact decide_eq_true hk) ?_
     refine Af <| Ai fun ds => By rfl (Bb bd_26 Az .nil awake_ok (fun _ _ h => h)) ?_
     refine Aa rfl (Ae (Ad)) ?_
     refine Ah <| Ac <| A2 <| A9 ?_
     refine Au rfl (.tmp (Ad) .nil) ?_
     rfl
 ·
  refine Af <| Ai fun ds => Bg rfl (B2 (Aj rfl) rfl fun b40 hb40 nb40 => ?_)
  refine Bg rfl (B2 (Am rfl <| Aj rfl) rfl fun b41 hb41 nb41 => ?_)
  refine Aa rfl (Ae Ab) ?_
  refine Ah <| Ac <| Af <| Af <| Ai fun ds => Aa rfl (A7 B4 (Ar rfl <| Ad) rfl rfl (A5 1 rfl)) ?_
  refine By rfl (Bb bd_40 Az (.cons (Ad) .nil) (valid_ok hr) (fun _ _ h => h)) ?_
  refine Aa rfl (Cn (Ad)) ?_
  refine Ah <| Ac <| Aq (Ad) (by simp [h0]) ?_
  refine Af <| Ai fun ds => By rfl (Bb bd_26 Az .nil awake_ok (fun _ _ h => h)) ?_
  refine Aa rfl (Ae (Ad)) ?_
  refine Ah <| Ac <| A2 <| A9 ?_
  refine Au rfl (.tmp (Ad) .nil) ?_
  rfl
end Go.Proofs.Ytccogmkhijgelaa
namespace Go.Proofs.Ytccogmkhijgelaa
open Go.ChangeShapes Go.WideShapes Go.ChangeAt Go.RowKit
set_option maxRecDepth 100000 in
theorem stemNamedLifted (os : Os) (started : os.Started) (H : Type) (enc : TypeId × Value → H) :
   ReturnsInHanded {} Try.checked os 13 .any (Rows.stemNamedSpec.pre6 enc Try.prog Try.f13 Rows.stemNamedRow.domain false) (Rows.stemNamedSpec.post enc Try.prog Try.f13 false true false false) := by
 refine returnsInHanded_of_change_sized (C := Try.checked) ownKnob0 started (by kernel_rfl) Try.func13
   (ChangeSpec.witness6 (enc := enc) (C := Try.checked) false ⟨#[], #[.agg #[.slice none 0 0, .slice none 0 0], .agg #[.int .u8 0, .int .u8 0]], []⟩ 8 (by kernel_rfl) (by kernel_rfl) (by kernel_rfl) (by kernel_rfl)) ?_
 intro W base args ds gs before hval0 hW hcnd hsz _
 have hval : ∀ (j : Nat) t v, Try.f13.params[j]? = some t → args[j]? = some v → Value.okWide Try.prog W .any base t v := hval0
 have hW' := hW
 obtain ⟨p, q, hA0, hV, rfl, hfz, hnd⟩ := hW
 have hA : DataW.TrodAll enc Try.prog W 0 (fun _ => true) true Try.f13.params.toList args.toList ds p := hA0
 rw [Try.params13] at hA hval
 obtain ⟨v0, vs0, d0, ds0, p0, q0, hargs, rfl, rfl, h0, r0⟩ := trodAll_cons hA
 obtain ⟨v1, vs1, d1, ds1, p1, q1, rfl, rfl, rfl, h1, r1⟩ := trodAll_cons r0
 obtain ⟨rfl, rfl, rfl⟩ := trodAll_nil r1
 obtain rfl : args = #[v0, v1] := by cases args; simp_all
 obtain ⟨rfl, rfl⟩ := trodVars_none hV
 have hsz' : (DataW.weightsEach Try.prog (Try.f13.params.toList ++ []) ([d0, d1] ++ [])).all (· ≤ reachBytes) = true := hsz
 rw [Try.params13] at hsz'
 have k0 := h0
 have lt0 : ∀ x ∈ p0, x.block < W.heap.size := by obtain ⟨m, hm⟩ := k0; exact DataW.trod_lt m _ _ _ hm
 have k1 := h1
 have lt1 : ∀ x ∈ p1, x.block < W.heap.size := by obtain ⟨m, hm⟩ := k1; exact DataW.trod_lt m _ _ _ hm
 obtain ⟨vp, ve, ps, s, rfl, hr⟩ := arg_stem (hval 0 25 v0 rfl rfl) h0 (weights_at hsz' (j := 0) rfl rfl)
 obtain ⟨wa, wb, rfl, hwa, hwb⟩ := arg_two (hval 1 62 v1 rfl rfl) h1 (weights_at hsz' (j := 1) rfl rfl)
 clear hA0 hval0
 refine (Ok.law (namedLaw_ok hr hwa hwb)).mono fun e W' ⟨he, bel⟩ => ?_
 subst he
 exact ⟨_, rfl, _, _, _, [], _, [], hW', trodAll_mk1 (shut_bool Try.underlying4 _), (trodAll_cons_mk (Below.trod laidOut (by kernel_rfl) (of_decide_eq_true (by kernel_rfl)) k0 bel lt0) (trodAll_cons_mk (Below.trod laidOut (by kernel_rfl) (of_decide_eq_true (by kernel_rfl)) k1 bel lt1) trodAll_mk0)), rfl, bel.frame _, fun h => by cases h⟩
theorem stemNamed : Rows.StemNamedSaid :=
 OpenClaim.holds_of_wide 13 Try.f13 rfl rfl rfl rfl rfl rfl rfl ⟨rfl, rfl, rfl, rfl, rfl⟩ rfl rfl rfl rfl rfl (by kernel_rfl) Try.func13 (by kernel_rfl)
   (of_decide_eq_true (by kernel_rfl)) (by unfold Func.isWrapper; first | (rw [if_pos (by decide +kernel)]; kernel_rfl) | (rw [if_neg (by decide +kernel)]; exact ⟨rfl, rfl⟩))
   (fun os started H enc _ => stemNamedLifted os started H enc)
#print axioms stemNamed
end Go.Proofs.Ytccogmkhijgelaa
