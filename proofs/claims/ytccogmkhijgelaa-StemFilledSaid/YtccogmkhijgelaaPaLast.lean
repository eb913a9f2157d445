/-
  StemFilled returns true of any stem, numbers, edition and place, and leaves what it is handed as it was. No conditions.
-/
import Derived.Test.YtccogmkhijgelaaPad
import Derived.KernelRfl
namespace Go.Proofs.Ytccogmkhijgelaa
open Go.RowKit
theorem agg_128 : AggT Try.prog 128 3 := aggT_of (by kernel_rfl)
theorem bd_87 : Body Try.prog 87 := Bp (by kernel_rfl)
theorem el_64 : ElemT Try.prog 64 4 56 (.agg #[.string ⟨#[]⟩, .int .i64 0, .int .i64 0, .slice none 0 0]) := elemT_of (by kernel_rfl) rfl (by decide)
theorem sz_128 : SizeT Try.prog 128 3 := Cu (by kernel_rfl)
theorem sz_23 : SizeT Try.prog 23 1 := Cu (by kernel_rfl)
theorem sz_26 : SizeT Try.prog 26 1 := Cu (by kernel_rfl)
theorem src_eds {F : Heap} {v : Value} {ps : List (Value × Edn)} (h : Sl F v 4 edE ps) (hone : ∀ p ∈ ps, p.1.oneCell' = true) {H : List (Nat × Obj)} : Src ⟨F, H⟩ v ps.length (ps.flatMap edE) 4 := h.srcM edE_len fun p hp => edE_one (hone p hp)
theorem StmX.ones {F : Heap} {b kb : Nat} {vp ve : Value} {ps : List (Value × Edn)} {s : Stm} (hX : StmX F b vp ve (.map (some kb)) ps s) : ∀ u ∈ [vp, ve, .map (some kb)], u.oneCell' = true := by
 intro u hu
 simp only [List.mem_cons, List.not_mem_nil, or_false] at hu
 rcases hu with rfl | rfl | rfl
 · exact hX.r.places.plain.one
 · exact hX.r.eds.plain.one
 · rfl
set_option maxRecDepth 100000 in
theorem cloneEd_own {F : Heap} {v : Value} {ps : List (Value × Edn)} (h : Sl F v 4 edE ps) (hone : ∀ p ∈ ps, p.1.oneCell' = true) (hn : ps.length ≤ 1000) : OkN Try.prog 87 [v].toArray F fun u _F' Hn => Own 64 4 u ps.length (ps.flatMap edE) Hn := by
 obtain ⟨a0, c0, rfl, g1, g2, g3, g4⟩ := h.plain
 refine OkN.intro Try.func87 rfl Try.ntmps87 rfl fun w0 => ?_
 cases a0
 ·
  refine Af <| Ai fun ds => Aa rfl (Ae Ab) ?_
  refine Ah <| Ac <| Af <| Af <| Ai fun ds => Aa rfl (Ag (Ak rfl <| Aj rfl)) ?_
  refine Aa rfl (q_eqlNil Try.underlying23 (Ad) Ab) ?_
  refine Ah <| Ac <| Aq (Ad) rfl ?_
  refine Af <| Ai fun ds => Aa rfl (Ae Ab) ?_
  refine Ah <| Ac <| A2 <| A8 ?_
  refine Ee rfl (.tmp (Ad) .nil) (List.nil_sublist _) ?_
  obtain ⟨h0, -⟩ := g2 rfl
  have : ps = [] := List.eq_nil_of_length_eq_zero h0
  subst this
  exact Em
 ·
  refine Af <| Ai fun ds => Aa rfl (Ae Ab) ?_
  refine Ah <| Ac <| Af <| Af <| Ai fun ds => Aa rfl (Ag (Ak rfl <| Aj rfl)) ?_
  refine Aa rfl (q_eqlNil Try.underlying23 (Ad) Ab) ?_
  refine Ah <| Ac <| Ao (Ad) rfl ?_
  refine Ax <| Ac <| Af <| Ai fun ds => Bg rfl (x_build0 B5 fun b1 hb1 nb1 => ?_)
  refine Aa rfl (Ag (A1 rfl <| Aj rfl)) ?_
  refine Bg rfl (Cl B5 el_64 (Ak rfl <| Ad) (own_box rfl) (Ad) (src_eds h hone) (by omega) (by omega) (.z) .box fun v2 R3 ho4 => ?_)
  have ho1 : Own 64 4 v2 ps.length (ps.flatMap edE) R3 := by simpa using ho4
  refine Aa rfl (Ae (Ad)) ?_
  refine Ah <| Ac <| A2 <| Ee rfl (.tmp (Ad) .nil) (List.sublist_append_left _ _) ?_
  exact ho1
def IntsR7 (F : Heap) (u : Value) (p : List Int × Int) : Prop := ∃ v, u = .tuple #[v, .int .i64 p.2] ∧ Ints F v p.1
theorem IntsR7.mono {F F' : Heap} {u : Value} {p : List Int × Int} (h : IntsR7 F u p) (hF : F.le F') : IntsR7 F' u p := by obtain ⟨v, h1, h2⟩ := h; exact ⟨v, h1, h2.mono hF⟩
set_option maxRecDepth 100000 in
theorem reading_top_ok {F : Heap} {vp ve : Value} {ps : List (Value × Edn)} {s : Stm} (hr : StmR F vp ve ps s) {v : Value} {l : List Int} (hl : Ints F v l) (z q : Int) : Ok Try.prog 35 [.agg #[vp, ve], v, .int .i64 z, .int .i64 q].toArray F fun u F' => IntsR7 F' u (readE s l z q) := by
 have hle0 : F.le F := Heap.le_refl _
 refine Ok.intro Try.func35 rfl Try.ntmps35 rfl fun w0 => ?_
 have hL := hl.plain.lt
 have hlen := hr.len
 have hL1 := hr.eds.plain.lt
 have hL2 := hr.places.plain.lt
 by_cases hok : treeErr s l = 0
 ·
  obtain ⟨hv, hll, ht⟩ := tree_ok hok
  have hne := hv.ne
  have hnp := hv.np
  have hl5 : l.length ≤ 5 := by omega
  have hcv := changes_costV (s := s) ht hv hll
  have hcb := costL_bound (s := s) (l := l)
  refine Af <| Ai fun ds => Bg rfl (B1 (Aj rfl) rfl fun b1 hb1 nb1 => ?_)
  refine Aa rfl (Ae Ab) ?_
  refine Aa rfl (Ae Ab) ?_
  refine Ah <| Ac <| Af <| Ai fun ds => Aa rfl (A9 B7 (Ar rfl <| Ad) rfl rfl (A5 0 rfl)) ?_
  refine Aa rfl (Ag (A1 rfl <| Aj rfl)) ?_
  refine Bg rfl (Dk bd_68 Az (.cons (Ak rfl <| Ad) (.cons (Ad) .nil)) (enter_ok hr hl hok) fun v2 F3 R6 hr4 hF5 => ?_)
  replace hr := hr.mono hF5
  replace hle0 := Heap.le_trans hle0 hF5
  obtain ⟨ba, kb, rfl, hX, rfl⟩ := hr4
  refine Aa rfl (Ag (Ad)) ?_
  refine Aa rfl (Ay (Ad) rfl) ?_
  refine Aa rfl (Ay (Ak rfl <| Ad) rfl) ?_
  refine Aa rfl (Ay (Ar rfl <| Ad) rfl) ?_
  refine Bg rfl (B8 D1 rfl fun b7 hb7 nb7 => ?_)
  refine Aa rfl (Ae (Ar rfl <| Ak rfl <| Ad)) ?_
  refine Cf (Cd Ea (Ak rfl <| Ad) (Ar rfl <| Ak rfl <| Ad) (i := 0) rfl rfl rfl rfl C7 (.here) ?_)
  refine Aa rfl (Ae (Ar rfl <| Ad)) ?_
  refine Ah <| Ac <| Af <| A0 <| Af <| Cc (i := 1) rfl hb1 (.next <| .here) fun F8 hF9 hz4 => ?_
  replace hr := hr.mono hF9
  replace hle0 := Heap.le_trans hle0 hF9
  replace hX := hX.mono hF9
  refine Cc (i := 0) rfl hb7 (.here) fun F10 hF11 hz11 => ?_
  replace hr := hr.mono hF11
  replace hle0 := Heap.le_trans hle0 hF11
  replace hX := hX.mono hF11
  replace hz4 := hF11 _ _ hz4
  refine Ai fun ds => Aa rfl (Ag (Ad)) ?_
  refine Aa rfl (B2 (Ad) Ab) ?_
  refine Aa rfl (Ae (Ad)) ?_
  refine Ah <| Ac <| Ao (Ad) (by decide) ?_
  by_cases h1 : inB 0 (s.editions.length - 1) z = true
  ·
   refine Af <| Ai fun ds => Aa rfl (Al Br (A6 rfl <| A1 rfl <| Ar rfl <| Ak rfl <| Ad)) ?_
   refine Aa rfl (Ap Bz (Ad) (CellF.own hz4 rfl).cell) ?_
   refine Aa rfl (Bk B5 (Ad) hr.eds.plain) ?_
   refine Aa rfl (q_sub (Ad) Ab rfl (by omega) (by omega)) ?_
   refine Aa rfl (Ag (A3 rfl <| A1 rfl <| Aj rfl)) ?_
   refine Bg rfl (B6 Bj C6 rfl (.cons (Ad) .nil) rfl rfl (by decide) (by simp [Value.oneCell']) fun b12 hb12 nb12 => ?_)
   refine B4 (i := 0) rfl hb12 .here fun F13 hF14 hz15 => ?_
   replace hr := hr.mono hF14
   replace hle0 := Heap.le_trans hle0 hF14
   replace hX := hX.mono hF14
   replace hz4 := hF14 _ _ hz4
   replace hz11 := hF14 _ _ hz11
   have hsl16 := Ct hz15
   refine Bx rfl (Bb D4 Az (.cons Ab (.cons (Ar rfl <| Ad) (.cons (Ad) .nil))) (Cg _ _ hsl16) (fun _ _ h => h)) ?_
   refine Aa rfl (Ag (Ad)) ?_
   refine As rfl rfl (Ad) (by simp [hlen, h1]) ?_
   refine Aa rfl (Al Cr (A3 rfl <| A1 rfl <| Ar rfl <| Ak rfl <| Ad)) ?_
   refine As rfl rfl (Ak rfl <| Ad) (by simp [hlen, h1]) ?_
   refine Aa rfl (Ap C0 (Ad) (CellF.own hz4 rfl).cell) ?_
   refine As rfl rfl (Ar rfl <| Ad) (by simp [hlen, h1]) ?_
   refine Aa rfl (Bk C5 (Ad) hr.places.plain) ?_
   refine As rfl rfl (Ar rfl <| Ak rfl <| Ad) (by simp [hlen, h1]) ?_
   refine Aa rfl (q_sub (Ad) Ab rfl (by omega) (by omega)) ?_
   refine As rfl rfl (A1 rfl <| Ad) (by simp [hlen, h1]) ?_
   refine Aa rfl (Ag (A3 rfl <| A6 rfl <| A1 rfl <| Aj rfl)) ?_
   refine As rfl rfl (A1 rfl <| Ak rfl <| Ad) (by simp [hlen, h1]) ?_
   refine Bg rfl (B6 Bj C6 rfl (.cons (Ad) .nil) rfl rfl (by decide) (by simp [Value.oneCell']) fun b17 hb17 nb17 => ?_)
   refine B4 (i := 0) rfl hb17 .here fun F18 hF19 hz20 => ?_
   replace hr := hr.mono hF19
   replace hle0 := Heap.le_trans hle0 hF19
   replace hX := hX.mono hF19
   replace hz4 := hF19 _ _ hz4
   replace hz11 := hF19 _ _ hz11
   have hsl21 := Ct hz20
   refine As rfl rfl (A1 rfl <| Ar rfl <| Ad) (by simp [hlen, h1]) ?_
   refine Bx rfl (Bb D4 Az (.cons Ab (.cons (Ar rfl <| Ad) (.cons (Ad) .nil))) (Cg _ _ hsl21) (fun _ _ h => h)) ?_
   refine Aa rfl (Ba (A1 rfl <| Ar rfl <| Ak rfl <| Ad) (by simp [hlen, h1]) (Ad)) ?_
   refine Aa rfl (Ae (Ad)) ?_
   refine Ah <| Ac ?_
   by_cases h2 : inB 0 (s.places.length - 1) q = true
   ·
    have h12 : (inB 0 (s.editions.length - 1) z && inB 0 (s.places.length - 1) q) = true := by rw [h1, h2]; rfl
    obtain ⟨x, rfl, hx⟩ := inB_nat h1
    obtain ⟨p, rfl, hp⟩ := inB_nat h2
    have hxp : x < ps.length := by omega
    have hrx := hr.rd hxp
    have hpx : p < (s.ed x).rd.length := by rw [hv.rdl x hx]; exact hp
    have er := rdT_at hpx
    have hrdl := hv.rdl x hx
    have hrb9 := hv.rd x p hx hp
    have e1 := hr.at hxp
    refine Ao (Ad) (by simp [h2]) ?_
    by_cases hc : costL s l = 1000
    ·
     refine Af <| Ai fun ds => Aa rfl (Ag (A3 rfl <| A1 rfl <| Ak rfl <| Ad)) ?_
     refine Aa rfl (A9 B0 (A3 rfl <| A1 rfl <| Ar rfl <| Ak rfl <| Ad) rfl rfl (Cv hz11)) ?_
     refine WL_order (.cons (.here) <| .nil) ?_
     refine Bg rfl (x_callM bd_69 Az (.cons (Ak rfl <| Ad) (.cons (Ad) .nil)) rfl (changes_ok hX ht hll hv KnownT.nil) fun v26 F27 H30 hr28 hF29 => ?_)
     obtain ⟨es2, rfl, rfl, hK2⟩ := hr28
     refine Aa rfl (Bu (Ad) Ab) ?_
     refine Aa rfl (Ae (Ad)) ?_
     refine Ah <| Ac <| Aq (Ad) (by rw [hcv]; unfold costV; rw [if_pos hc]; rfl) ?_
     refine Af <| Ai fun ds => Aa rfl (Ae Ab) ?_
     refine Aa rfl (Ae Ab) ?_
     refine Ah <| Ac <| A2 <| Bh (A8 ?_)
     refine Au rfl (.tmp (Ak rfl <| Ad) (.tmp (Ad) .nil)) ?_
     rw [readE_bad (readErr_3 hok h12 hc) (by decide)]
     exact ⟨_, rfl, Sl.nil⟩
    ·
     have hre := readErr_0 hok h12 hc
     refine Af <| Ai fun ds => Aa rfl (Ag (A3 rfl <| A1 rfl <| Ak rfl <| Ad)) ?_
     refine Aa rfl (A9 B0 (A3 rfl <| A1 rfl <| Ar rfl <| Ak rfl <| Ad) rfl rfl (Cv hz11)) ?_
     refine WL_order (.cons (.here) <| .nil) ?_
     refine Bg rfl (x_callM bd_69 Az (.cons (Ak rfl <| Ad) (.cons (Ad) .nil)) rfl (changes_ok hX ht hll hv KnownT.nil) fun v35 F36 H39 hr37 hF38 => ?_)
     replace hr := hr.mono hF38
     replace hle0 := Heap.le_trans hle0 hF38
     replace hX := hX.mono hF38
     replace hrx := hrx.mono hF38
     replace hz4 := hF38 _ _ hz4
     replace hz11 := hF38 _ _ hz11
     obtain ⟨es2, rfl, rfl, hK2⟩ := hr37
     refine Aa rfl (Bu (Ad) Ab) ?_
     refine Aa rfl (Ae (Ad)) ?_
     refine Ah <| Ac <| Ao (Ad) (by rw [hcv]; unfold costV; rw [if_neg hc]; exact decide_eq_false (by omega)) ?_
     refine Ax <| Bc <| Ac <| Af <| Ai fun ds => Aa rfl (Ag (A3 rfl <| A6 rfl <| Ar rfl <| Ad)) ?_
     refine Aa rfl (A9 B0 (A3 rfl <| A6 rfl <| A1 rfl <| Ad) rfl rfl (Cv hz11)) ?_
     refine Aa rfl (Ag (Bm rfl <| A6 rfl <| Aj rfl)) ?_
     refine Bx rfl (Bb bd_82 Az (.cons (Ar rfl <| Ad) (.cons (Ak rfl <| Ad) (.cons (Ad) .nil))) (Dw hX ht hll hv hp) (fun _ _ h => h)) ?_
     refine Aa rfl (Ae (Ad)) ?_
     refine Ah <| Ac <| Af <| Ai fun ds => Aa rfl (Al Br (Bm rfl <| A6 rfl <| Ar rfl <| Ad)) ?_
     refine Aa rfl (Ap Bz (Ad) (CellF.own hz4 rfl).cell) ?_
     refine Aa rfl (Ag (Bm rfl <| A6 rfl <| A1 rfl <| Ak rfl <| Aj rfl)) ?_
     refine Aa rfl (Bf (k := x) B5 (Ak rfl <| Ad) hr.eds.plain (Ad) rfl hxp) ?_
     refine Aa rfl (Bs Cb (Ad)) ?_
     refine Aa rfl (Ap Ce (Ad) (hr.eds.cell hxp rfl)) ?_
     refine Aa rfl (Ag (Bm rfl <| A3 rfl <| Ak rfl <| Aj rfl)) ?_
     refine Aa rfl (Bf (k := p) Bj (Ak rfl <| Ad) hrx.plain (Ad) rfl hpx) ?_
     refine Aa rfl (Ap Bn (Ad) (hrx.cell1 hpx rfl)) ?_
     refine Aa rfl (Ae (Ad)) ?_
     refine Ah <| Ac <| Af <| Af <| Ai fun ds => Aa rfl (Ag Ab) ?_
     refine Ah <| Ac <| A0 <| Bt [8, 14, 15, 62, 63, 64, 65, 66, 67, 68, 69, 70, 71, 72, 73, 74, 75, 76, 77, 78, 79, 80, 81, 82, 83, 84, 85, 86, 87, 88, 89, 90, 91, 92, 93, 94, 95, 96, 97, 98, 99, 100, 101, 102, 103, 104, 105, 106, 107, 108, 109, 110, 111, 112, 113, 114, 115, 116, 117, 118, 119, 120, 121] (fun m e σ => ∃ G, F36.le G ∧ ∃ k : Nat, m + k = 3 ∧ e 62 = .int .i64 (k : Int) ∧ ∃ v8 R8, e 8 = v8 ∧ Own 3 1 v8 (readTo s l x p k).length ((readTo s l x p k).flatMap intE) R8 ∧ σ = ⟨G, (kb, mapO es2) :: R8⟩) (3) ?_ ?_
     · exact ⟨_, Heap.le_refl _, 0, by omega, (Ad), _, _, (Bm rfl <| A3 rfl <| A1 rfl <| Ad), Own.nil, rfl⟩
     ·
      rintro m e _ ⟨G, hFG, k, hm, hs62, v8, R8, hs8, ho, rfl⟩; have hrl := readTo_len (s := s) (l := l) (x := x) (p := p) (k := k); replace hr := hr.mono hFG; replace hX := hX.mono hFG; replace hrx := hrx.mono hFG; replace hz4 := hFG _ _ hz4; replace hz11 := hFG _ _ hz11; have hle0 := Heap.le_trans hle0 hFG
      by_cases hlt : k < 3
      ·
       refine Af <| Ai fun ds => Aa rfl (Bw (At rfl hs62) Ab) ?_
       refine Ah <| Ac <| Af <| Aq (Ad) (by first | rfl | exact decide_eq_true (by omega)) ?_
       by_cases hk0 : 0 < s.r x p
       ·
        refine Ax <| Ac <| Af <| A0 <| Af <| Ai fun ds => Aa rfl (Ag (Ak rfl <| At rfl hs62)) ?_
        refine Aa rfl (Ae (Ad)) ?_
        refine Ah <| Ac <| Af <| Af <| Ai fun ds => Aa rfl (Ag (Ar rfl <| Ak rfl <| Am rfl <| Ak rfl <| Ad)) ?_
        refine Aa rfl (C9 (Ad) Ab) ?_
        refine Aa rfl (Ag (Ad)) ?_
        refine As rfl rfl (Ad) (by rw [er]; exact decide_eq_true hk0) ?_
        refine Aa rfl (Ag (A1 rfl <| Ar rfl <| Am rfl <| Ak rfl <| Ad)) ?_
        refine As rfl rfl (Ak rfl <| Ad) (by rw [er]; exact decide_eq_true hk0) ?_
        refine Aa rfl (Ag (A1 rfl <| Ad)) ?_
        refine As rfl rfl (Ar rfl <| Ad) (by rw [er]; exact decide_eq_true hk0) ?_
        refine Aa rfl (Bv (Ad) Ab rfl (by omega) (by omega)) ?_
        refine As rfl rfl (Ar rfl <| Ak rfl <| Ad) (by rw [er]; exact decide_eq_true hk0) ?_
        refine Aa rfl (B2 (Ar rfl <| Ad) (Ad)) ?_
        refine Aa rfl (A4 (A1 rfl <| Ad) (by rw [er]; exact decide_eq_true hk0) (Ad)) ?_
        refine Ah <| Ac ?_
        by_cases hke : s.r x p = (k : Int) + 1
        ·
         have hkn : (decide (s.r x p = 0) || decide (s.r x p = (k : Int) + 1)) = true := by rw [decide_eq_true hke]; simp
         refine Ao (Ad) (by rw [er]; exact decide_eq_false (fun h => h hke)) ?_
         have hvm := setS_valid (v := (k : Int) + 1) hv hx hp (by omega)
         refine Ax <| Ac <| Af <| Ai fun ds => Aa rfl (Ag (A6 rfl <| Ar rfl <| Ak rfl <| Am rfl <| Bm rfl <| A6 rfl <| Ar rfl <| Ad)) ?_
         refine Aa rfl (By (Ad)) ?_
         refine Aa rfl (A9 agg_128 (Ad) rfl rfl (Cv hX.blk)) ?_
         refine Bg rfl (B8 zr_128 rfl fun b41 hb41 nb41 => ?_)
         refine Cf (Cd sz_128 (Ad) (Ak rfl <| Ad) (i := 0) rfl rfl rfl rfl hX.ones (.here) ?_)
         refine Ah <| Ac <| Af <| Ai fun ds => Aa rfl (Ag (A6 rfl <| A1 rfl <| Ar rfl <| Ak rfl <| Am rfl <| Bm rfl <| A6 rfl <| Ar rfl <| Ad)) ?_
         refine Aa rfl (By (Ad)) ?_
         refine Aa rfl (Al B9 (Ad)) ?_
         refine Aa rfl (Al Br (Ad)) ?_
         refine Aa rfl (Ap Bz (Ad) (CellF.own hX.blk rfl).cell) ?_
         refine Bg rfl (x_callNf bd_87 Az (.cons (Ad) .nil) (cloneEd_own hX.r.eds hX.r.one (by omega)) fun v42 F43 R46 hr44 hF45 => ?_)
         replace hX := hX.mono hF45
         replace hrx := hrx.mono hF45
         replace hFG := Heap.le_trans hFG hF45
         replace hle0 := Heap.le_trans hle0 hF45
         replace hz11 := hF45 _ _ hz11
         have hoE := hr44
         refine Aa rfl (Al B9 (A1 rfl <| Ar rfl <| Ad)) ?_
         refine Aa rfl (Al Br (Ad)) ?_
         refine Dz (.one (.skip <| .here) <| .one (.skip <| .here) <| .blk (.lastS) <| .lastb (.last)) ?_
         refine Cf (Ci sz_23 (Ad) (Ar rfl <| Ad) (i := 0) rfl (.next <| .here) (Own.one hoE) (.here) ?_)
         refine Ah <| Ac <| Af ?_
         have hleS := hle0
         refine Cz (.inl rfl) (fun _ _ h => h) (.cons_cons _ <| .cons_cons _ <| .refl _) [16] (by kernel_rfl) fun ds => ?_
         refine A7 0 rfl (by kernel_rfl) (by kernel_rfl) (by kernel_rfl) (by kernel_rfl) rfl rfl (fun _ h => h.drop (.cons_cons _ <| .cons_cons _ <| .refl _)) (fun _ _ _ h => h) (Al B9 (A6 rfl <| Ad)) ?_
         refine A7 1 rfl (by kernel_rfl) (by kernel_rfl) (by kernel_rfl) (by kernel_rfl) rfl rfl (fun _ h => h.drop (.cons_cons _ <| .cons_cons _ <| .refl _)) (fun _ _ _ h => h) (Al Br (Ad)) ?_
         refine A7 2 rfl (by kernel_rfl) (by kernel_rfl) (by kernel_rfl) (by kernel_rfl) rfl rfl (fun _ h => h.drop (.cons_cons _ <| .cons_cons _ <| .refl _)) (fun _ _ _ h => h) (Ap Bz (Ad) (Cell.own 0 rfl rfl)) ?_
         refine A7 3 rfl (by kernel_rfl) (by kernel_rfl) (by kernel_rfl) (by kernel_rfl) rfl rfl (fun _ h => h.drop (.cons_cons _ <| .cons_cons _ <| .refl _)) (fun _ _ _ h => h) (Ag (A3 rfl <| A6 rfl <| Ar rfl <| Am rfl <| Bm rfl <| A3 rfl <| A1 rfl <| Ar rfl <| Aj rfl)) ?_
         refine A7 4 rfl (by kernel_rfl) (by kernel_rfl) (by kernel_rfl) (by kernel_rfl) rfl rfl (fun _ h => h.drop (.cons_cons _ <| .cons_cons _ <| .refl _)) (fun _ _ _ h => h) (Ag (A3 rfl <| A6 rfl <| Ar rfl <| Ak rfl <| Am rfl <| Bm rfl <| A6 rfl <| Ar rfl <| Ad)) ?_
         refine A7 5 rfl (by kernel_rfl) (by kernel_rfl) (by kernel_rfl) (by kernel_rfl) rfl rfl (fun _ h => h.drop (.cons_cons _ <| .cons_cons _ <| .refl _)) (fun _ _ _ h => h) (By (Ad)) ?_
         refine A7 6 rfl (by kernel_rfl) (by kernel_rfl) (by kernel_rfl) (by kernel_rfl) rfl rfl (fun _ h => h.drop (.cons_cons _ <| .cons_cons _ <| .refl _)) (fun _ _ _ h => h) (Al B9 (Ad)) ?_
         refine A7 7 rfl (by kernel_rfl) (by kernel_rfl) (by kernel_rfl) (by kernel_rfl) rfl rfl (fun _ h => h.drop (.cons_cons _ <| .cons_cons _ <| .refl _)) (fun _ _ _ h => h) (Al Br (Ad)) ?_
         refine A7 8 rfl (by kernel_rfl) (by kernel_rfl) (by kernel_rfl) (by kernel_rfl) rfl rfl (fun _ h => h.drop (.cons_cons _ <| .cons_cons _ <| .refl _)) (fun _ _ _ h => h) (Ap Bz (Ad) (CellF.own hX.blk rfl).cell) ?_
         refine A7 9 rfl (by kernel_rfl) (by kernel_rfl) (by kernel_rfl) (by kernel_rfl) rfl rfl (fun _ h => h.drop (.cons_cons _ <| .cons_cons _ <| .refl _)) (fun _ _ _ h => h) (Ag (Bm rfl <| Am rfl <| Bm rfl <| A3 rfl <| A1 rfl <| Ar rfl <| Aj rfl)) ?_
         refine A7 10 rfl (by kernel_rfl) (by kernel_rfl) (by kernel_rfl) (by kernel_rfl) rfl rfl (fun _ h => h.drop (.cons_cons _ <| .cons_cons _ <| .refl _)) (fun _ _ _ h => h) (Bf (k := x) B5 (Ak rfl <| Ad) hX.r.eds.plain (Ad) rfl hxp) ?_
         refine A7 11 rfl (by kernel_rfl) (by kernel_rfl) (by kernel_rfl) (by kernel_rfl) rfl rfl (fun _ h => h.drop (.cons_cons _ <| .cons_cons _ <| .refl _)) (fun _ _ _ h => h) (Bs Cb (Ad)) ?_
         refine A7 12 rfl (by kernel_rfl) (by kernel_rfl) (by kernel_rfl) (by kernel_rfl) rfl rfl (fun _ h => h.drop (.cons_cons _ <| .cons_cons _ <| .refl _)) (fun _ _ _ h => h) (Ap Ce (Ad) (hX.r.eds.cell hxp rfl)) ?_
         refine WX_x 13 rfl (by kernel_rfl) rfl (x_callNf bd_76 Az (.cons (Ad) .nil) (cloneInt_own hrx (by omega)) fun v47 F48 R51 hr49 hF50 => ⟨fun _ _ _ h => (h.drop (List.sublist_append_of_sublist_right <| .cons_cons _ <| .cons_cons _ <| .refl _)).weak hF50 hleS, ?_⟩)
         replace hX := hX.mono hF50
         replace hFG := Heap.le_trans hFG hF50
         replace hz11 := hF50 _ _ hz11
         have hoR := hr49
         refine A7 14 rfl (by kernel_rfl) (by kernel_rfl) (by kernel_rfl) (by kernel_rfl) rfl rfl (fun _ h => (h.drop (List.sublist_append_of_sublist_right <| .cons_cons _ <| .cons_cons _ <| .refl _)).weak hF50 hleS) (fun _ _ _ h => h) (Bf (k := x) B5 (A6 rfl <| Ar rfl <| Ak rfl <| Ad) (hoE.plain (by omega)) (A6 rfl <| Ar rfl <| Ad) rfl hxp) ?_
         refine A7 15 rfl (by kernel_rfl) (by kernel_rfl) (by kernel_rfl) (by kernel_rfl) rfl rfl (fun _ h => (h.drop (List.sublist_append_of_sublist_right <| .cons_cons _ <| .cons_cons _ <| .refl _)).weak hF50 hleS) (fun _ _ _ h => h) (Bs Cb (Ad)) ?_
         refine WX_orderB (.one (.skip <| .here) <| .one (.skip <| .here) <| .blk (.skip <| .here) <| .blk (.lastS) <| .lastb (.last)) ?_
         refine WX_x0 16 rfl (by kernel_rfl) (x_storeR sz_26 (Ad) (Ar rfl <| Ad) hoE (by rw [Dr edE_len]; omega) (Own.one hoR) (.s <| .s <| .k <| .z) .more fun R52 ho53 => ⟨(fun h => nomatch h), ?_⟩)
         have hoE2 := ed_own_set (e := (s.ed x).setR p ((k : Int) + 1)) ho53 hxp (by rw [e1]; rfl) (by rw [e1]; rfl) (by rw [e1]; rfl)
         refine C4 (by kernel_rfl) ?_ _
         refine Ac <| Af <| Ai fun ds => Aa rfl (Al B9 (A3 rfl <| A6 rfl <| Ad)) ?_
         refine Aa rfl (Al Br (Ad)) ?_
         refine Aa rfl (Ap Bz (Ad) (Cell.own 0 rfl rfl)) ?_
         refine Aa rfl (Ag (Bm rfl <| A6 rfl <| Ar rfl <| Am rfl <| Bm rfl <| A3 rfl <| A1 rfl <| Ar rfl <| Aj rfl)) ?_
         refine Aa rfl (Bf (k := x) B5 (Ak rfl <| Ad) (hoE2.plain (by rw [List.length_set]; omega)) (Ad) rfl (by simp; omega)) ?_
         refine Aa rfl (Bs Cb (Ad)) ?_
         refine Aa rfl (Ap Ce (Ad) (own_cell hoE2 (fun p hp => .tail _ (.tail _ (List.mem_append_right _ (List.mem_append_left _ hp)))) (ed_set_get hxp))) ?_
         refine Aa rfl (Ag (Bm rfl <| A6 rfl <| A1 rfl <| Ar rfl <| Am rfl <| Bm rfl <| A3 rfl <| A1 rfl <| Ar rfl <| Aj rfl)) ?_
         refine Aa rfl (Ag (Bm rfl <| A6 rfl <| A1 rfl <| Ad)) ?_
         refine Aa rfl (Bv (Ad) Ab rfl (by omega) (by omega)) ?_
         refine Aa rfl (Bf (k := p) Bj (Ar rfl <| Ak rfl <| Ad) (hoR.plain (by omega)) (Ar rfl <| Ad) rfl hpx) ?_
         refine Cf (x_storeR sz_3 (Ad) (Ak rfl <| Ad) hoR (by rw [Dr (enc := intE) (s := 1) (fun _ => rfl)]; omega) rfl (.s <| .s <| .k <| .k <| .z) .last fun R54 ho55 => ?_)
         have hoR2 := ho55
         rw [show p * 1 = p * 1 + 0 from rfl, int_flat_set hpx] at hoR2
         replace hoR2 := hoR2.to (k' := ((s.ed x).rd.set p ((k : Int) + 1)).length) (by simp)
         refine Ah <| Ac <| Af <| Cs (σ := ⟨_, _⟩) (by rfl) hoR2 (.s <| .s <| .k <| .k <| .z) .last fun F56 hF57 hz58 => ?_
         replace hX := hX.mono hF57
         replace hFG := Heap.le_trans hFG hF57
         replace hz11 := hF57 _ _ hz11
         refine WC_pickB (.one (.here) <| .one (.here) <| .blk (.here) <| .lastb (.here)) ?_
         have hrn := hoR2.sl (fun _ => rfl) hz58 (by simp; omega)
         refine Cs (σ := ⟨_, _⟩) (by rfl) hoE2 (.s <| .s <| .k <| .z) .last fun F59 hF60 hz61 => ?_
         replace hX := hX.mono hF60
         replace hFG := Heap.le_trans hFG hF60
         replace hrn := hrn.mono hF60
         replace hz11 := hF60 _ _ hz11
         refine WC_pickB (.one (.here) <| .one (.here) <| .lastb (.here)) ?_
         have hen := hoE2.sl (fun _ => rfl) hz61 (by simp; omega)
         refine Cc (i := 0) rfl hb41 (.here) fun F62 hF63 hz15 => ?_
         replace hX := hX.mono hF63
         replace hFG := Heap.le_trans hFG hF63
         replace hrn := hrn.mono hF63
         replace hen := hen.mono hF63
         replace hz11 := hF63 _ _ hz11
         have hXm : StmX _ _ _ _ _ _ (setS s x p ((k : Int) + 1)) := ⟨hX.r.set hen hrn, hz15⟩
         by_cases hpl : decide (placeN (setS s x p ((k : Int) + 1)) l p = placeN s l p) = true
         ·
          have hrb : readB s l x p k = true := by unfold readB; rw [hkn, hpl]; rfl
          refine Ai fun ds => Aa rfl (A9 B0 (Bm rfl <| A3 rfl <| Ar rfl <| Am rfl <| Bm rfl <| A6 rfl <| Ar rfl <| Ak rfl <| Ad) rfl rfl (Cv hz11)) ?_
          refine Aa rfl (Ag (Bm rfl <| A3 rfl <| Ar rfl <| Ak rfl <| Am rfl <| Bm rfl <| A3 rfl <| A1 rfl <| Ar rfl <| Aj rfl)) ?_
          refine Bx rfl (Bb bd_82 Az (.cons (Bm rfl <| A1 rfl <| Ak rfl <| Ad) (.cons (Ak rfl <| Ad) (.cons (Ad) .nil))) (Dw hXm ht (by rw [Cy]; exact hll) hvm hp) (fun _ _ h => h)) ?_
          refine Aa rfl (Ag (Bm rfl <| A3 rfl <| A1 rfl <| Ak rfl <| Am rfl <| A6 rfl <| Ar rfl <| Ak rfl <| Ad)) ?_
          refine Aa rfl (Bu (Ak rfl <| Ad) (Ad)) ?_
          refine Ah <| Ac <| Aq (Ad) hpl ?_
          refine Ai fun ds => Aa rfl (Ag (Bm rfl <| A3 rfl <| A1 rfl <| Ar rfl <| Ak rfl <| At rfl hs8)) ?_
          refine Aa rfl (Ag (Bm rfl <| A3 rfl <| A1 rfl <| Ak rfl <| Ad)) ?_
          refine Aa rfl (Bv (Ad) Ab rfl (by omega) (by omega)) ?_
          refine Bg rfl (B6 Bj C6 rfl (.cons (Ad) .nil) rfl rfl (by decide) (by simp [Value.oneCell']) fun b64 hb64 nb64 => ?_)
          refine B4 (i := 0) rfl hb64 .here fun F65 hF66 hz67 => ?_
          replace hFG := Heap.le_trans hFG hF66
          have hsl68 := Ct hz67
          refine Bg rfl (Cl Bj el_3 (Ar rfl <| Ak rfl <| Ad) ho (Ad) hsl68.srcInt (by simp only [List.length_singleton]; omega) (by simp only [List.length_singleton]; omega) (.s <| .z) .last fun v69 R70 ho71 => ?_)
          have ho2 := ho71.snoc (x := (k : Int) + 1) rfl rfl
          refine Aa rfl (Ae (Ad)) ?_
          refine Ah <| Bc <| Ac <| Ai fun ds => Aa rfl (Bv (Bm rfl <| A3 rfl <| A6 rfl <| A1 rfl <| Ak rfl <| At rfl hs62) Ab rfl (by omega) (by omega)) ?_
          refine Aa rfl (Ag (Ad)) ?_
          refine Ah <| Ac ⟨_, m - 1, Off.eq (ou32 rfl <| Dc rfl <| D2 rfl <| ou4 rfl <| ou2 rfl <| D7 rfl <| Be), by omega, ?_⟩
          exact ⟨_, hFG, k + 1, by omega, (Ad), _, _, (Ar rfl <| Ad), by rw [readTo_succ, if_pos hrb]; exact ho2, rfl⟩
         ·
          replace hpl : decide (placeN (setS s x p ((k : Int) + 1)) l p = placeN s l p) = false := by simpa using hpl
          have hrb : readB s l x p k = false := by unfold readB; rw [hpl]; simp
          refine Ai fun ds => Aa rfl (A9 B0 (Bm rfl <| A3 rfl <| Ar rfl <| Am rfl <| Bm rfl <| A6 rfl <| Ar rfl <| Ak rfl <| Ad) rfl rfl (Cv hz11)) ?_
          refine Aa rfl (Ag (Bm rfl <| A3 rfl <| Ar rfl <| Ak rfl <| Am rfl <| Bm rfl <| A3 rfl <| A1 rfl <| Ar rfl <| Aj rfl)) ?_
          refine Bx rfl (Bb bd_82 Az (.cons (Bm rfl <| A1 rfl <| Ak rfl <| Ad) (.cons (Ak rfl <| Ad) (.cons (Ad) .nil))) (Dw hXm ht (by rw [Cy]; exact hll) hvm hp) (fun _ _ h => h)) ?_
          refine Aa rfl (Ag (Bm rfl <| A3 rfl <| A1 rfl <| Ak rfl <| Am rfl <| A6 rfl <| Ar rfl <| Ak rfl <| Ad)) ?_
          refine Aa rfl (Bu (Ak rfl <| Ad) (Ad)) ?_
          refine Ah <| Ac <| Ao (Ad) hpl ?_
          refine Ax <| Bc <| Ac <| Ai fun ds => Aa rfl (Bv (Bm rfl <| A3 rfl <| A1 rfl <| Ar rfl <| Ak rfl <| At rfl hs62) Ab rfl (by omega) (by omega)) ?_
          refine Aa rfl (Ag (Ad)) ?_
          refine Ah <| Ac ⟨_, m - 1, Off.eq (ou32 rfl <| Dc rfl <| D2 rfl <| D7 rfl <| Be), by omega, ?_⟩
          exact ⟨_, hFG, k + 1, by omega, (Ad), _, _, (Bm rfl <| A3 rfl <| A6 rfl <| Ak rfl <| At rfl hs8), by rw [readTo_succ, if_neg (by rw [hrb]; simp)]; exact ho, rfl⟩
        ·
         have hrb : readB s l x p k = false := by unfold readB; rw [decide_eq_false (show ¬ s.r x p = 0 by omega), decide_eq_false (show ¬ s.r x p = (k : Int) + 1 by omega)]; rfl
         refine Aq (Ad) (by rw [er]; exact decide_eq_true hke) ?_
         refine Bq ?_
         refine Bd (Bi ?_)
         refine Ac <| Ai fun ds => Aa rfl (Bv (A6 rfl <| Ar rfl <| Ak rfl <| At rfl hs62) Ab rfl (by omega) (by omega)) ?_
         refine Aa rfl (Ag (Ad)) ?_
         refine Ah <| Ac ⟨_, m - 1, Off.eq (D2 rfl <| ou4 rfl <| D7 rfl <| Be), by omega, ?_⟩
         exact ⟨_, hFG, k + 1, by omega, (Ad), _, _, (A6 rfl <| A1 rfl <| Ak rfl <| At rfl hs8), by rw [readTo_succ, if_neg (by rw [hrb]; simp)]; exact ho, rfl⟩
       ·
        have hkn : (decide (s.r x p = 0) || decide (s.r x p = (k : Int) + 1)) = true := by rw [decide_eq_true (show s.r x p = 0 by omega)]; rfl
        refine Ax <| Ac <| Af <| A0 <| Af <| Ai fun ds => Aa rfl (Ag (Ak rfl <| At rfl hs62)) ?_
        refine Aa rfl (Ae (Ad)) ?_
        refine Ah <| Ac <| Af <| Af <| Ai fun ds => Aa rfl (Ag (Ar rfl <| Ak rfl <| Am rfl <| Ak rfl <| Ad)) ?_
        refine Aa rfl (C9 (Ad) Ab) ?_
        refine Aa rfl (Ag (Ad)) ?_
        refine Aw rfl rfl (Ad) (.inl (congrArg Value.bool (by rw [er]; exact decide_eq_false hk0))) rfl ?_
        refine Aw rfl rfl (Ak rfl <| Ad) (.inl (congrArg Value.bool (by rw [er]; exact decide_eq_false hk0))) rfl ?_
        refine Aw rfl rfl (Ar rfl <| Ad) (.inl (congrArg Value.bool (by rw [er]; exact decide_eq_false hk0))) rfl ?_
        refine Aw rfl rfl (Ar rfl <| Ak rfl <| Ad) (.inl (congrArg Value.bool (by rw [er]; exact decide_eq_false hk0))) rfl ?_
        refine Aa rfl (Ba (A1 rfl <| Ad) (by rw [er]; exact decide_eq_false hk0) Ab) ?_
        refine Ah <| Ac <| Ao (Ad) rfl ?_
        have hvm := setS_valid (v := (k : Int) + 1) hv hx hp (by omega)
        refine Ax <| Ac <| Af <| Ai fun ds => Aa rfl (Ag (A6 rfl <| Ar rfl <| Ak rfl <| Am rfl <| Bm rfl <| A6 rfl <| Ar rfl <| Ad)) ?_
        refine Aa rfl (By (Ad)) ?_
        refine Aa rfl (A9 agg_128 (Ad) rfl rfl (Cv hX.blk)) ?_
        refine Bg rfl (B8 zr_128 rfl fun b72 hb72 nb72 => ?_)
        refine Cf (Cd sz_128 (Ad) (Ak rfl <| Ad) (i := 0) rfl rfl rfl rfl hX.ones (.here) ?_)
        refine Ah <| Ac <| Af <| Ai fun ds => Aa rfl (Ag (A6 rfl <| A1 rfl <| Ar rfl <| Ak rfl <| Am rfl <| Bm rfl <| A6 rfl <| Ar rfl <| Ad)) ?_
        refine Aa rfl (By (Ad)) ?_
        refine Aa rfl (Al B9 (Ad)) ?_
        refine Aa rfl (Al Br (Ad)) ?_
        refine Aa rfl (Ap Bz (Ad) (CellF.own hX.blk rfl).cell) ?_
        refine Bg rfl (x_callNf bd_87 Az (.cons (Ad) .nil) (cloneEd_own hX.r.eds hX.r.one (by omega)) fun v73 F74 R77 hr75 hF76 => ?_)
        replace hX := hX.mono hF76
        replace hrx := hrx.mono hF76
        replace hFG := Heap.le_trans hFG hF76
        replace hle0 := Heap.le_trans hle0 hF76
        replace hz11 := hF76 _ _ hz11
        have hoE := hr75
        refine Aa rfl (Al B9 (A1 rfl <| Ar rfl <| Ad)) ?_
        refine Aa rfl (Al Br (Ad)) ?_
        refine Dz (.one (.skip <| .here) <| .one (.skip <| .here) <| .blk (.lastS) <| .lastb (.last)) ?_
        refine Cf (Ci sz_23 (Ad) (Ar rfl <| Ad) (i := 0) rfl (.next <| .here) (Own.one hoE) (.here) ?_)
        refine Ah <| Ac <| Af ?_
        have hleS := hle0
        refine Cz (.inl rfl) (fun _ _ h => h) (.cons_cons _ <| .cons_cons _ <| .refl _) [16] (by kernel_rfl) fun ds => ?_
        refine A7 0 rfl (by kernel_rfl) (by kernel_rfl) (by kernel_rfl) (by kernel_rfl) rfl rfl (fun _ h => h.drop (.cons_cons _ <| .cons_cons _ <| .refl _)) (fun _ _ _ h => h) (Al B9 (A6 rfl <| Ad)) ?_
        refine A7 1 rfl (by kernel_rfl) (by kernel_rfl) (by kernel_rfl) (by kernel_rfl) rfl rfl (fun _ h => h.drop (.cons_cons _ <| .cons_cons _ <| .refl _)) (fun _ _ _ h => h) (Al Br (Ad)) ?_
        refine A7 2 rfl (by kernel_rfl) (by kernel_rfl) (by kernel_rfl) (by kernel_rfl) rfl rfl (fun _ h => h.drop (.cons_cons _ <| .cons_cons _ <| .refl _)) (fun _ _ _ h => h) (Ap Bz (Ad) (Cell.own 0 rfl rfl)) ?_
        refine A7 3 rfl (by kernel_rfl) (by kernel_rfl) (by kernel_rfl) (by kernel_rfl) rfl rfl (fun _ h => h.drop (.cons_cons _ <| .cons_cons _ <| .refl _)) (fun _ _ _ h => h) (Ag (A3 rfl <| A6 rfl <| Ar rfl <| Am rfl <| Bm rfl <| A3 rfl <| A1 rfl <| Ar rfl <| Aj rfl)) ?_
        refine A7 4 rfl (by kernel_rfl) (by kernel_rfl) (by kernel_rfl) (by kernel_rfl) rfl rfl (fun _ h => h.drop (.cons_cons _ <| .cons_cons _ <| .refl _)) (fun _ _ _ h => h) (Ag (A3 rfl <| A6 rfl <| Ar rfl <| Ak rfl <| Am rfl <| Bm rfl <| A6 rfl <| Ar rfl <| Ad)) ?_
        refine A7 5 rfl (by kernel_rfl) (by kernel_rfl) (by kernel_rfl) (by kernel_rfl) rfl rfl (fun _ h => h.drop (.cons_cons _ <| .cons_cons _ <| .refl _)) (fun _ _ _ h => h) (By (Ad)) ?_
        refine A7 6 rfl (by kernel_rfl) (by kernel_rfl) (by kernel_rfl) (by kernel_rfl) rfl rfl (fun _ h => h.drop (.cons_cons _ <| .cons_cons _ <| .refl _)) (fun _ _ _ h => h) (Al B9 (Ad)) ?_
        refine A7 7 rfl (by kernel_rfl) (by kernel_rfl) (by kernel_rfl) (by kernel_rfl) rfl rfl (fun _ h => h.drop (.cons_cons _ <| .cons_cons _ <| .refl _)) (fun _ _ _ h => h) (Al Br (Ad)) ?_
        refine A7 8 rfl (by kernel_rfl) (by kernel_rfl) (by kernel_rfl) (by kernel_rfl) rfl rfl (fun _ h => h.drop (.cons_cons _ <| .cons_cons _ <| .refl _)) (fun _ _ _ h => h) (Ap Bz (Ad) (CellF.own hX.blk rfl).cell) ?_
        refine A7 9 rfl (by kernel_rfl) (by kernel_rfl) (by kernel_rfl) (by kernel_rfl) rfl rfl (fun _ h => h.drop (.cons_cons _ <| .cons_cons _ <| .refl _)) (fun _ _ _ h => h) (Ag (Bm rfl <| Am rfl <| Bm rfl <| A3 rfl <| A1 rfl <| Ar rfl <| Aj rfl)) ?_
        refine A7 10 rfl (by kernel_rfl) (by kernel_rfl) (by kernel_rfl) (by kernel_rfl) rfl rfl (fun _ h => h.drop (.cons_cons _ <| .cons_cons _ <| .refl _)) (fun _ _ _ h => h) (Bf (k := x) B5 (Ak rfl <| Ad) hX.r.eds.plain (Ad) rfl hxp) ?_
        refine A7 11 rfl (by kernel_rfl) (by kernel_rfl) (by kernel_rfl) (by kernel_rfl) rfl rfl (fun _ h => h.drop (.cons_cons _ <| .cons_cons _ <| .refl _)) (fun _ _ _ h => h) (Bs Cb (Ad)) ?_
        refine A7 12 rfl (by kernel_rfl) (by kernel_rfl) (by kernel_rfl) (by kernel_rfl) rfl rfl (fun _ h => h.drop (.cons_cons _ <| .cons_cons _ <| .refl _)) (fun _ _ _ h => h) (Ap Ce (Ad) (hX.r.eds.cell hxp rfl)) ?_
        refine WX_x 13 rfl (by kernel_rfl) rfl (x_callNf bd_76 Az (.cons (Ad) .nil) (cloneInt_own hrx (by omega)) fun v78 F79 R82 hr80 hF81 => ⟨fun _ _ _ h => (h.drop (List.sublist_append_of_sublist_right <| .cons_cons _ <| .cons_cons _ <| .refl _)).weak hF81 hleS, ?_⟩)
        replace hX := hX.mono hF81
        replace hFG := Heap.le_trans hFG hF81
        replace hz11 := hF81 _ _ hz11
        have hoR := hr80
        refine A7 14 rfl (by kernel_rfl) (by kernel_rfl) (by kernel_rfl) (by kernel_rfl) rfl rfl (fun _ h => (h.drop (List.sublist_append_of_sublist_right <| .cons_cons _ <| .cons_cons _ <| .refl _)).weak hF81 hleS) (fun _ _ _ h => h) (Bf (k := x) B5 (A6 rfl <| Ar rfl <| Ak rfl <| Ad) (hoE.plain (by omega)) (A6 rfl <| Ar rfl <| Ad) rfl hxp) ?_
        refine A7 15 rfl (by kernel_rfl) (by kernel_rfl) (by kernel_rfl) (by kernel_rfl) rfl rfl (fun _ h => (h.drop (List.sublist_append_of_sublist_right <| .cons_cons _ <| .cons_cons _ <| .refl _)).weak hF81 hleS) (fun _ _ _ h => h) (Bs Cb (Ad)) ?_
        refine WX_orderB (.one (.skip <| .here) <| .one (.skip <| .here) <| .blk (.skip <| .here) <| .blk (.lastS) <| .lastb (.last)) ?_
        refine WX_x0 16 rfl (by kernel_rfl) (x_storeR sz_26 (Ad) (Ar rfl <| Ad) hoE (by rw [Dr edE_len]; omega) (Own.one hoR) (.s <| .s <| .k <| .z) .more fun R83 ho84 => ⟨(fun h => nomatch h), ?_⟩)
        have hoE2 := ed_own_set (e := (s.ed x).setR p ((k : Int) + 1)) ho84 hxp (by rw [e1]; rfl) (by rw [e1]; rfl) (by rw [e1]; rfl)
        refine C4 (by kernel_rfl) ?_ _
        refine Ac <| Af <| Ai fun ds => Aa rfl (Al B9 (A3 rfl <| A6 rfl <| Ad)) ?_
        refine Aa rfl (Al Br (Ad)) ?_
        refine Aa rfl (Ap Bz (Ad) (Cell.own 0 rfl rfl)) ?_
        refine Aa rfl (Ag (Bm rfl <| A6 rfl <| Ar rfl <| Am rfl <| Bm rfl <| A3 rfl <| A1 rfl <| Ar rfl <| Aj rfl)) ?_
        refine Aa rfl (Bf (k := x) B5 (Ak rfl <| Ad) (hoE2.plain (by rw [List.length_set]; omega)) (Ad) rfl (by simp; omega)) ?_
        refine Aa rfl (Bs Cb (Ad)) ?_
        refine Aa rfl (Ap Ce (Ad) (own_cell hoE2 (fun p hp => .tail _ (.tail _ (List.mem_append_right _ (List.mem_append_left _ hp)))) (ed_set_get hxp))) ?_
        refine Aa rfl (Ag (Bm rfl <| A6 rfl <| A1 rfl <| Ar rfl <| Am rfl <| Bm rfl <| A3 rfl <| A1 rfl <| Ar rfl <| Aj rfl)) ?_
        refine Aa rfl (Ag (Bm rfl <| A6 rfl <| A1 rfl <| Ad)) ?_
        refine Aa rfl (Bv (Ad) Ab rfl (by omega) (by omega)) ?_
        refine Aa rfl (Bf (k := p) Bj (Ar rfl <| Ak rfl <| Ad) (hoR.plain (by omega)) (Ar rfl <| Ad) rfl hpx) ?_
        refine Cf (x_storeR sz_3 (Ad) (Ak rfl <| Ad) hoR (by rw [Dr (enc := intE) (s := 1) (fun _ => rfl)]; omega) rfl (.s <| .s <| .k <| .k <| .z) .last fun R85 ho86 => ?_)
        have hoR2 := ho86
        rw [show p * 1 = p * 1 + 0 from rfl, int_flat_set hpx] at hoR2
        replace hoR2 := hoR2.to (k' := ((s.ed x).rd.set p ((k : Int) + 1)).length) (by simp)
        refine Ah <| Ac <| Af <| Cs (σ := ⟨_, _⟩) (by rfl) hoR2 (.s <| .s <| .k <| .k <| .z) .last fun F87 hF88 hz89 => ?_
        replace hX := hX.mono hF88
        replace hFG := Heap.le_trans hFG hF88
        replace hz11 := hF88 _ _ hz11
        refine WC_pickB (.one (.here) <| .one (.here) <| .blk (.here) <| .lastb (.here)) ?_
        have hrn := hoR2.sl (fun _ => rfl) hz89 (by simp; omega)
        refine Cs (σ := ⟨_, _⟩) (by rfl) hoE2 (.s <| .s <| .k <| .z) .last fun F90 hF91 hz92 => ?_
        replace hX := hX.mono hF91
        replace hFG := Heap.le_trans hFG hF91
        replace hrn := hrn.mono hF91
        replace hz11 := hF91 _ _ hz11
        refine WC_pickB (.one (.here) <| .one (.here) <| .lastb (.here)) ?_
        have hen := hoE2.sl (fun _ => rfl) hz92 (by simp; omega)
        refine Cc (i := 0) rfl hb72 (.here) fun F93 hF94 hz15 => ?_
        replace hX := hX.mono hF94
        replace hFG := Heap.le_trans hFG hF94
        replace hrn := hrn.mono hF94
        replace hen := hen.mono hF94
        replace hz11 := hF94 _ _ hz11
        have hXm : StmX _ _ _ _ _ _ (setS s x p ((k : Int) + 1)) := ⟨hX.r.set hen hrn, hz15⟩
        by_cases hpl : decide (placeN (setS s x p ((k : Int) + 1)) l p = placeN s l p) = true
        ·
         have hrb : readB s l x p k = true := by unfold readB; rw [hkn, hpl]; rfl
         refine Ai fun ds => Aa rfl (A9 B0 (Bm rfl <| A3 rfl <| Ar rfl <| Am rfl <| Bm rfl <| A6 rfl <| Ar rfl <| Ak rfl <| Ad) rfl rfl (Cv hz11)) ?_
         refine Aa rfl (Ag (Bm rfl <| A3 rfl <| Ar rfl <| Ak rfl <| Am rfl <| Bm rfl <| A3 rfl <| A1 rfl <| Ar rfl <| Aj rfl)) ?_
         refine Bx rfl (Bb bd_82 Az (.cons (Bm rfl <| A1 rfl <| Ak rfl <| Ad) (.cons (Ak rfl <| Ad) (.cons (Ad) .nil))) (Dw hXm ht (by rw [Cy]; exact hll) hvm hp) (fun _ _ h => h)) ?_
         refine Aa rfl (Ag (Bm rfl <| A3 rfl <| A1 rfl <| Ak rfl <| Am rfl <| A6 rfl <| Ar rfl <| Ak rfl <| Ad)) ?_
         refine Aa rfl (Bu (Ak rfl <| Ad) (Ad)) ?_
         refine Ah <| Ac <| Aq (Ad) hpl ?_
         refine Ai fun ds => Aa rfl (Ag (Bm rfl <| A3 rfl <| A1 rfl <| Ar rfl <| Ak rfl <| At rfl hs8)) ?_
         refine Aa rfl (Ag (Bm rfl <| A3 rfl <| A1 rfl <| Ak rfl <| Ad)) ?_
         refine Aa rfl (Bv (Ad) Ab rfl (by omega) (by omega)) ?_
         refine Bg rfl (B6 Bj C6 rfl (.cons (Ad) .nil) rfl rfl (by decide) (by simp [Value.oneCell']) fun b95 hb95 nb95 => ?_)
         refine B4 (i := 0) rfl hb95 .here fun F96 hF97 hz98 => ?_
         replace hFG := Heap.le_trans hFG hF97
         have hsl99 := Ct hz98
         refine Bg rfl (Cl Bj el_3 (Ar rfl <| Ak rfl <| Ad) ho (Ad) hsl99.srcInt (by simp only [List.length_singleton]; omega) (by simp only [List.length_singleton]; omega) (.s <| .z) .last fun v100 R101 ho102 => ?_)
         have ho2 := ho102.snoc (x := (k : Int) + 1) rfl rfl
         refine Aa rfl (Ae (Ad)) ?_
         refine Ah <| Bc <| Ac <| Ai fun ds => Aa rfl (Bv (Bm rfl <| A3 rfl <| A6 rfl <| A1 rfl <| Ak rfl <| At rfl hs62) Ab rfl (by omega) (by omega)) ?_
         refine Aa rfl (Ag (Ad)) ?_
         refine Ah <| Ac ⟨_, m - 1, Off.eq (ou32 rfl <| Dc rfl <| D2 rfl <| ou4 rfl <| ou2 rfl <| D7 rfl <| Be), by omega, ?_⟩
         exact ⟨_, hFG, k + 1, by omega, (Ad), _, _, (Ar rfl <| Ad), by rw [readTo_succ, if_pos hrb]; exact ho2, rfl⟩
        ·
         replace hpl : decide (placeN (setS s x p ((k : Int) + 1)) l p = placeN s l p) = false := by simpa using hpl
         have hrb : readB s l x p k = false := by unfold readB; rw [hpl]; simp
         refine Ai fun ds => Aa rfl (A9 B0 (Bm rfl <| A3 rfl <| Ar rfl <| Am rfl <| Bm rfl <| A6 rfl <| Ar rfl <| Ak rfl <| Ad) rfl rfl (Cv hz11)) ?_
         refine Aa rfl (Ag (Bm rfl <| A3 rfl <| Ar rfl <| Ak rfl <| Am rfl <| Bm rfl <| A3 rfl <| A1 rfl <| Ar rfl <| Aj rfl)) ?_
         refine Bx rfl (Bb bd_82 Az (.cons (Bm rfl <| A1 rfl <| Ak rfl <| Ad) (.cons (Ak rfl <| Ad) (.cons (Ad) .nil))) (Dw hXm ht (by rw [Cy]; exact hll) hvm hp) (fun _ _ h => h)) ?_
         refine Aa rfl (Ag (Bm rfl <| A3 rfl <| A1 rfl <| Ak rfl <| Am rfl <| A6 rfl <| Ar rfl <| Ak rfl <| Ad)) ?_
         refine Aa rfl (Bu (Ak rfl <| Ad) (Ad)) ?_
         refine Ah <| Ac <| Ao (Ad) hpl ?_
         refine Ax <| Bc <| Ac <| Ai fun ds => Aa rfl (Bv (Bm rfl <| A3 rfl <| A1 rfl <| Ar rfl <| Ak rfl <| At rfl hs62) Ab rfl (by omega) (by omega)) ?_
         refine Aa rfl (Ag (Ad)) ?_
         refine Ah <| Ac ⟨_, m - 1, Off.eq (ou32 rfl <| Dc rfl <| D2 rfl <| D7 rfl <| Be), by omega, ?_⟩
         exact ⟨_, hFG, k + 1, by omega, (Ad), _, _, (Bm rfl <| A3 rfl <| A6 rfl <| Ak rfl <| At rfl hs8), by rw [readTo_succ, if_neg (by rw [hrb]; simp)]; exact ho, rfl⟩
      ·
       refine Af <| Ai fun ds => Aa rfl (Bw (At rfl hs62) Ab) ?_
       refine Ah <| Ac <| Af <| Ao (Ad) (by first | rfl | exact decide_eq_false (by omega)) ?_
       obtain rfl : k = 3 := by omega
       refine Cs (σ := ⟨_, _⟩) (by rfl) ho (.s <| .z) .last fun F103 hF104 hz105 => ?_
       have hn8 := ho.sl (fun _ => rfl) hz105 (by have := readTo_len (s := s) (l := l) (x := x) (p := p) (k := 3); omega)
       refine Bq ?_
       refine Bd <| Bd <| Bi <| Ac <| Af <| Ai fun ds => Aa rfl (Ag (Ak rfl <| At rfl hs8)) ?_
       refine Aa rfl (Ae (Ad)) ?_
       refine Aa rfl (Ae Ab) ?_
       refine Ah <| Ac <| A2 <| Au rfl (.tmp (Ak rfl <| Ad) (.tmp (Ad) .nil)) ?_
       rw [readE_ok hre, Int.toNat_natCast, Int.toNat_natCast]
       exact ⟨_, rfl, hn8⟩
   ·
    replace h2 : inB 0 (s.places.length - 1) q = false := by simpa using h2
    refine Aq (Ad) (by simp [h2]) ?_
    refine Af <| Ai fun ds => Aa rfl (Ae Ab) ?_
    refine Aa rfl (Ae Ab) ?_
    refine Ah <| Ac <| A2 <| Bh (A8 ?_)
    refine Au rfl (.tmp (Ak rfl <| Ad) (.tmp (Ad) .nil)) ?_
    rw [readE_bad (readErr_2 hok (by rw [h1, h2]; rfl)) (by decide)]
    exact ⟨_, rfl, Sl.nil⟩
  ·
   replace h1 : inB 0 (s.editions.length - 1) z = false := by simpa using h1
   refine Af <| Ai fun ds => Aa rfl (Al Br (A6 rfl <| A1 rfl <| Ar rfl <| Ak rfl <| Ad)) ?_
   refine Aa rfl (Ap Bz (Ad) (CellF.own hz4 rfl).cell) ?_
   refine Aa rfl (Bk B5 (Ad) hr.eds.plain) ?_
   refine Aa rfl (q_sub (Ad) Ab rfl (by omega) (by omega)) ?_
   refine Aa rfl (Ag (A3 rfl <| A1 rfl <| Aj rfl)) ?_
   refine Bg rfl (B6 Bj C6 rfl (.cons (Ad) .nil) rfl rfl (by decide) (by simp [Value.oneCell']) fun b106 hb106 nb106 => ?_)
   refine B4 (i := 0) rfl hb106 .here fun F107 hF108 hz109 => ?_
   have hsl110 := Ct hz109
   refine Bx rfl (Bb D4 Az (.cons Ab (.cons (Ar rfl <| Ad) (.cons (Ad) .nil))) (Cg _ _ hsl110) (fun _ _ h => h)) ?_
   refine Aa rfl (Ag (Ad)) ?_
   refine Aw rfl rfl (Ad) (.inl (congrArg Value.bool (by simp [hlen, h1]))) rfl ?_
   refine Aw rfl rfl (Ak rfl <| Ad) (.inl (congrArg Value.bool (by simp [hlen, h1]))) rfl ?_
   refine Aw rfl rfl (Ar rfl <| Ad) (.inl (congrArg Value.bool (by simp [hlen, h1]))) rfl ?_
   refine Aw rfl rfl (Ar rfl <| Ak rfl <| Ad) (.inl (congrArg Value.bool (by simp [hlen, h1]))) rfl ?_
   refine Aw rfl rfl (A1 rfl <| Ad) (.inl (congrArg Value.bool (by simp [hlen, h1]))) rfl ?_
   refine Aw rfl rfl (A1 rfl <| Ak rfl <| Ad) (.inl (congrArg Value.bool (by simp [hlen, h1]))) rfl ?_
   refine Aw rfl rfl (A1 rfl <| Ar rfl <| Ad) (.inl (congrArg Value.bool (by simp [hlen, h1]))) rfl ?_
   refine Aa rfl (A4 (A1 rfl <| Ar rfl <| Ak rfl <| Ad) (by simp [hlen, h1]) Ab) ?_
   refine Aa rfl (Ae (Ad)) ?_
   refine Ah <| Ac <| Aq (Ad) rfl ?_
   refine Af <| Ai fun ds => Aa rfl (Ae Ab) ?_
   refine Aa rfl (Ae Ab) ?_
   refine Ah <| Ac <| A2 <| Bh (A8 ?_)
   refine Au rfl (.tmp (Ak rfl <| Ad) (.tmp (Ad) .nil)) ?_
   rw [readE_bad (readErr_2 hok (by rw [h1]; rfl)) (by decide)]
   exact ⟨_, rfl, Sl.nil⟩
 ·
  refine Af <| Ai fun ds => Bg rfl (B1 (Aj rfl) rfl fun b111 hb111 nb111 => ?_)
  refine Aa rfl (Ae Ab) ?_
  refine Aa rfl (Ae Ab) ?_
  refine Ah <| Ac <| Af <| Ai fun ds => Aa rfl (A9 B7 (Ar rfl <| Ad) rfl rfl (A5 0 rfl)) ?_
  refine Aa rfl (Ag (A1 rfl <| Aj rfl)) ?_
  refine Bg rfl (Cj bd_68 Az (.cons (Ak rfl <| Ad) (.cons (Ad) .nil)) (enter_bad hr hl hok) fun v112 F113 hr114 hF115 => ?_)
  obtain ⟨l2, rfl⟩ := hr114
  refine Aa rfl (Ag (Ad)) ?_
  refine Aa rfl (Ay (Ad) rfl) ?_
  refine Aa rfl (Ay (Ak rfl <| Ad) rfl) ?_
  refine Aa rfl (Ay (Ar rfl <| Ad) rfl) ?_
  refine Bg rfl (B8 D1 rfl fun b116 hb116 nb116 => ?_)
  refine Aa rfl (Ae (Ar rfl <| Ak rfl <| Ad)) ?_
  refine Cf (Cd Ea (Ak rfl <| Ad) (Ar rfl <| Ak rfl <| Ad) (i := 0) rfl rfl rfl rfl C7 (.here) ?_)
  refine Aa rfl (Ae (Ar rfl <| Ad)) ?_
  refine Ah <| Ac <| Af <| A0 <| Af <| Ai fun ds => Aa rfl (Ag (Ad)) ?_
  refine Aa rfl (B2 (Ad) Ab) ?_
  refine Aa rfl (Ae (Ad)) ?_
  refine Ah <| Ac <| Aq (Ad) (decide_eq_true hok) ?_
  refine Af <| Ai fun ds => Aa rfl (Ag (Ar rfl <| Ak rfl <| Ad)) ?_
  refine Aa rfl (Ae Ab) ?_
  refine Aa rfl (Ae (Ak rfl <| Ad)) ?_
  refine Ah <| Ac <| A2 <| Bh (A8 ?_)
  refine Au rfl (.tmp (Ak rfl <| Ad) (.tmp (Ad) .nil)) ?_
  rw [readE_bad (readErr_1 hok) hok]
  exact ⟨_, rfl, Sl.nil⟩
end Go.Proofs.Ytccogmkhijgelaa
namespace Go.Proofs.Ytccogmkhijgelaa
open Go.RowKit
theorem zr_119 : ZeroT Try.prog 119 (.nilFunc) := C2 (by kernel_rfl)
theorem zr_26 : ZeroT Try.prog 26 (.slice none 0 0) := C2 (by kernel_rfl)
theorem zr_4 : ZeroT Try.prog 4 (.bool false) := C2 (by kernel_rfl)
theorem bd_84 : Body Try.prog 84 := Bp (by kernel_rfl)
theorem one_119 : OneT Try.prog 119 := Dm (by kernel_rfl)
theorem one_4 : OneT Try.prog 4 := Dm (by kernel_rfl)
theorem sz_119 : SizeT Try.prog 119 1 := Cu (by kernel_rfl)
theorem sz_4 : SizeT Try.prog 4 1 := Cu (by kernel_rfl)
theorem setTo_succ {s : Stm} {p k : Nat} : setTo s p (k + 1) = setTo s p k ||| 2 ^ (s.r k p).toNat := rfl
theorem kindTo_succ {s : Stm} {p k : Nat} : kindTo s p (k + 1) = kindTo s p k + if metB s p (k + 1) = true then 1 else 0 := rfl
theorem cleanS_none {s : Stm} {xs : List (List Int)} {t : List Int} (h : cleanR s xs = none) : cleanR s (xs ++ [t]) = some (uncleanL s t) := by rw [cleanR_snoc, h]; rfl
theorem cleanS_yes {s : Stm} {xs : List (List Int)} {t : List Int} {b : List Nat} (h : cleanR s xs = some b) (h2 : (uncleanL s t).length < b.length ∨ ((uncleanL s t).length = b.length ∧ cmpL (uncleanL s t) b < 0)) : cleanR s (xs ++ [t]) = some (uncleanL s t) := by rw [cleanR_snoc, h]; exact if_pos h2
theorem cleanS_no {s : Stm} {xs : List (List Int)} {t : List Int} {b : List Nat} (h : cleanR s xs = some b) (h2 : ¬ ((uncleanL s t).length < b.length ∨ ((uncleanL s t).length = b.length ∧ cmpL (uncleanL s t) b < 0))) : cleanR s (xs ++ [t]) = some b := by rw [cleanR_snoc, h]; exact if_neg h2
theorem bit_met {s : Stm} {p j : Nat} (hv : ValidT s) (hp : p < s.places.length) : (setTo s p s.editions.length / 2 ^ (j + 1) &&& 1 : Nat) = if metB s p (j + 1) = true then 1 else 0 := by
 have h := setTo_bit (v := j + 1) (fun i hi => (hv.rd i p hi hp).1) (Nat.le_refl s.editions.length)
 rw [Nat.testBit_eq_decide_div_mod_eq] at h
 rw [Nat.and_one_is_mod]
 unfold metB
 rw [← h]
 by_cases h2 : setTo s p s.editions.length / 2 ^ (j + 1) % 2 = 1
 · rw [if_pos (decide_eq_true h2)]; exact h2
 · rw [if_neg (by simpa using h2)]; omega
theorem opt_or {α : Type} (o : Option α) : o = none ∨ ∃ b, o = some b := by cases o with | none => exact .inl rfl | some b => exact .inr ⟨b, rfl⟩
theorem pow_le8T {n : Nat} (h : n ≤ 3) : 2 ^ n ≤ 8 := by
 have : n = 0 ∨ n = 1 ∨ n = 2 ∨ n = 3 := by omega
 rcases this with rfl | rfl | rfl | rfl <;> decide
set_option maxRecDepth 100000 in
theorem clean_top_ok {F : Heap} {vp ve : Value} {ps : List (Value × Edn)} {s : Stm} (hr : StmR F vp ve ps s) : Ok Try.prog 33 [.agg #[vp, ve]].toArray F fun u F' => NatsR F' u (cleanE s) := by
 have hle0 : F.le F := Heap.le_refl _
 refine Ok.intro Try.func33 rfl Try.ntmps33 rfl fun w0 => ?_
 have hL1 := hr.eds.plain.lt
 have hL2 := hr.places.plain.lt
 have hlen := hr.len
 by_cases h0 : (checkT s).2.2 = 0
 ·
  have hv := Dj h0
  have hne := hv.ne
  have hnp := hv.np
  refine Af <| Ai fun ds => Bg rfl (B1 (Aj rfl) rfl fun b1 hb1 nb1 => ?_)
  refine Bg rfl (B8 zr_26 rfl fun b2 hb2 nb2 => ?_)
  refine Aa rfl (Ae Ab) ?_
  refine Ah <| Ac <| Af <| Ai fun ds => Aa rfl (A9 B7 (Ar rfl <| Ad) rfl rfl (A5 1 rfl)) ?_
  refine Bg rfl (Dk bd_65 Az (.cons (Ad) .nil) (open_ok hr h0) fun v3 F4 R7 hr5 hF6 => ?_)
  replace hr := hr.mono hF6
  obtain ⟨ba, kb, rfl, hX, rfl⟩ := hr5
  refine Aa rfl (Ag (Ad)) ?_
  refine Aa rfl (Ay (Ad) rfl) ?_
  refine Aa rfl (Ay (Ak rfl <| Ad) rfl) ?_
  refine Aa rfl (Ae (Ak rfl <| Ad)) ?_
  refine Aa rfl (Ae (Ak rfl <| Ad)) ?_
  refine Ah <| Ac <| Af <| Af <| Ai fun ds => Aa rfl (Ag (Ad)) ?_
  refine Aa rfl (B2 (Ad) Ab) ?_
  refine Ah <| Ac <| Ao (Ad) (by decide) ?_
  refine Ax <| Ac <| Af <| Ai fun ds => Bg rfl (B8 zr_26 rfl fun b8 hb8 nb8 => ?_)
  refine Ah <| Ac <| Af <| Af <| Ai fun ds => Aa rfl (Al Cr (A6 rfl <| A1 rfl <| Ad)) ?_
  refine Aa rfl (Ap C0 (Ad) (Cell.own 2 rfl rfl)) ?_
  refine Aa rfl (Bk C5 (Ad) hr.places.plain) ?_
  refine Aa rfl (Ag Ab) ?_
  refine Ah <| Ac <| A0 <| Bt [6, 7, 9, 10, 11, 29, 30, 31, 32, 33, 34, 35, 36, 37, 38, 39, 40, 41, 42, 43, 44, 45, 46, 47, 48, 49, 50, 51, 52, 53, 54, 55, 56, 57, 58, 59, 60, 61, 62, 63, 64] (fun m e σ => ∃ p : Nat, m + p = s.places.length ∧ e 29 = .int .i64 (p : Int) ∧ ∃ v5 R5, Own 3 1 v5 (iL (needN s) p).length ((iL (needN s) p).flatMap intE) R5 ∧ σ = ⟨F4, (b8, bx 26 [v5]) :: (b2, bx 26 [.slice none 0 0]) :: (b1, bx 25 [vp, ve]) :: (kb, mapO []) :: R5⟩) (s.places.length) ?_ ?_
  · exact ⟨0, by omega, (Ad), _, [], Em, rfl⟩
  ·
   rintro m e _ ⟨p, hm, hs29, v5, R5, ho, rfl⟩; have hil9 := C3 (f := needN s) (n := p)
   by_cases hp : p < s.places.length
   ·
    refine Af <| Ai fun ds => Aa rfl (Bw (At rfl hs29) (Am rfl <| Ak rfl <| Ad)) ?_
    refine Ah <| Ac <| Af <| Aq (Ad) (by first | rfl | exact decide_eq_true (by omega)) ?_
    refine Ax <| Ac <| Af <| A0 <| Af <| Ai fun ds => Aa rfl (Ag (Ak rfl <| At rfl hs29)) ?_
    refine Aa rfl (Ae (Ad)) ?_
    refine Ah <| Ac <| Af <| Ai fun ds => Aa rfl (Ae Ab) ?_
    refine Ah <| Ac <| Af <| Af <| Ai fun ds => Aa rfl (Al Br (A1 rfl <| Am rfl <| A3 rfl <| Ad)) ?_
    refine Aa rfl (Ap Bz (Ad) (Cell.own 2 rfl rfl)) ?_
    refine Aa rfl (Bk B5 (Ad) hr.eds.plain) ?_
    refine Aa rfl (Ag Ab) ?_
    refine Ah <| Ac <| A0 <| Bt [7, 9, 35, 36, 37, 38, 39, 40, 41, 42, 43, 44, 45, 46, 47] (fun m e σ => ∃ i : Nat, m + i = ps.length ∧ e 35 = .int .i64 (i : Int) ∧ e 7 = .int .i64 ((setTo s p i : Nat) : Int) ∧ σ = ⟨F4, (b8, bx 26 [v5]) :: (b2, bx 26 [.slice none 0 0]) :: (b1, bx 25 [vp, ve]) :: (kb, mapO []) :: R5⟩) (ps.length) ?_ ?_
    · exact ⟨0, by omega, (Ad), (A1 rfl <| Ad), rfl⟩
    ·
     rintro m1 e1 _ ⟨i, hm1, ht35, ht7, rfl⟩
     by_cases hli : i < ps.length
     ·
      have hil : i < s.editions.length := by omega
      have hri := hr.rd hli
      have hpi : p < (s.ed i).rd.length := by rw [hv.rdl i hil]; exact hp
      have er := rdT_at hpi
      have hrb := hv.rd i p hil hp
      have hst := setTo_lt (s := s) (p := p) (fun i hi => hv.rd i p hi hp) (k := i) (by omega)
      have hp8 := pow_le8T (n := (s.r i p).toNat) (by omega)
      refine Af <| Ai fun ds => Aa rfl (Bw (At rfl ht35) (Am rfl <| Ak rfl <| Ad)) ?_
      refine Ah <| Ac <| Af <| Aq (Ad) (by first | rfl | exact decide_eq_true (by omega)) ?_
      refine Ax <| Ac <| Af <| A0 <| Af <| Ai fun ds => Aa rfl (Bf (k := i) B5 (Ak rfl <| Am rfl <| Ar rfl <| Ad) hr.eds.plain (Ak rfl <| At rfl ht35) rfl hli) ?_
      refine Aa rfl (A9 En (Ad) rfl rfl (hr.eds.whole hli)) ?_
      refine Bg rfl (B8 zr_64 rfl fun b11 hb11 nb11 => ?_)
      refine Cf (Cd sz_64 (Ad) (Ak rfl <| Ad) (i := 0) rfl rfl rfl rfl (edE_one (hr.one _ (List.getElem_mem hli))) (.here) ?_)
      refine Ah <| Ac <| Ai fun ds => Aa rfl (Ag (A1 rfl <| At rfl ht7)) ?_
      refine Aa rfl (Al Cb (Ak rfl <| Ad)) ?_
      refine Aa rfl (Ap Ce (Ad) (Cell.own 0 rfl rfl)) ?_
      refine Aa rfl (Ag (A1 rfl <| Ar rfl <| Ak rfl <| Am rfl <| A1 rfl <| Ak rfl <| Ad)) ?_
      refine Aa rfl (Bf (k := p) Bj (Ak rfl <| Ad) hri.plain (Ad) rfl hpi) ?_
      refine Aa rfl (Ap Bn (Ad) (hri.cell1 hpi rfl)) ?_
      refine Aa rfl (q_shl Ab (Ad) (k := (s.r i p).toNat) (by rw [er]; omega) (by omega) (show (1 : Int) * 2 ^ (s.r i p).toNat = ((2 ^ (s.r i p).toNat : Nat) : Int) by simp) (Int.le_trans (by decide) (Int.natCast_nonneg _)) (by omega)) ?_
      refine Aa rfl (q_or (A1 rfl <| Ar rfl <| Ad) (Ad) (m := setTo s p i) (k := 2 ^ (s.r i p).toNat) rfl rfl (by omega) (by omega) rfl) ?_
      refine Aa rfl (Ae (Ad)) ?_
      refine Ah <| Bc <| Ac <| Di (fun _ _ h => h.drop (.cons _ <| .cons_cons _ <| .cons_cons _ <| .cons_cons _ <| .cons_cons _ <| .refl _)) ?_
      refine Ai fun ds => Aa rfl (Bv (A6 rfl <| A1 rfl <| Ak rfl <| At rfl ht35) Ab rfl (by omega) (by omega)) ?_
      refine Aa rfl (Ag (Ad)) ?_
      refine Ah <| Ac ⟨_, m1 - 1, Off.eq (D2 rfl <| ou4 rfl <| ou2 rfl <| D7 rfl <| Be), by omega, ?_⟩
      exact ⟨i + 1, by omega, (Ad), ((Ar rfl <| Ad)).trans (by rw [setTo_succ]), rfl⟩
     ·
      refine Af <| Ai fun ds => Aa rfl (Bw (At rfl ht35) (Am rfl <| Ak rfl <| Ad)) ?_
      refine Ah <| Ac <| Af <| Ao (Ad) (by first | rfl | exact decide_eq_false (by omega)) ?_
      obtain rfl : i = ps.length := by omega
      have hst := setTo_lt (s := s) (p := p) (fun i hi => hv.rd i p hi hp) (k := ps.length) (by omega)
      refine Bq ?_
      refine Bd <| Bd <| Bi <| Ac <| Af <| Ai fun ds => Aa rfl (Ae Ab) ?_
      refine Ah <| Ac <| Af <| Af <| Ai fun ds => Aa rfl (Ag Ab) ?_
      refine Ah <| Ac <| A0 <| Bt [10, 11, 48, 49, 50, 51, 52, 53, 54, 55, 56, 57, 58] (fun m e σ => ∃ j : Nat, m + j = 3 ∧ e 48 = .int .i64 (j : Int) ∧ e 10 = .int .i64 (-1 + kindTo s p j) ∧ σ = ⟨F4, (b8, bx 26 [v5]) :: (b2, bx 26 [.slice none 0 0]) :: (b1, bx 25 [vp, ve]) :: (kb, mapO []) :: R5⟩) (3) ?_ ?_
      · exact ⟨0, rfl, (Ad), (Ak rfl <| Ad), rfl⟩
      ·
       rintro m2 e2 _ ⟨j, hm2, hu48, hu10, rfl⟩
       by_cases hl3 : j < 3
       ·
        have hkb := kindTo_bound (s := s) (p := p) j
        have hbt : (setTo s p ps.length / 2 ^ (j + 1) &&& 1 : Nat) = (if metB s p (j + 1) = true then 1 else 0 : Nat) := by have h9 := bit_met (j := j) hv hp; rw [← hlen] at h9; exact h9
        refine Af <| Ai fun ds => Aa rfl (Bw (At rfl hu48) Ab) ?_
        refine Ah <| Ac <| Af <| Aq (Ad) (by first | rfl | exact decide_eq_true (by omega)) ?_
        refine Ax <| Ac <| Af <| A0 <| Af <| Ai fun ds => Aa rfl (Ag (Ak rfl <| At rfl hu48)) ?_
        refine Aa rfl (Ae (Ad)) ?_
        refine Ah <| Ac <| Ai fun ds => Aa rfl (Ag (Ar rfl <| Ak rfl <| At rfl hu10)) ?_
        refine Aa rfl (Ag (A1 rfl <| Am rfl <| Ar rfl <| Ak rfl <| At rfl ht7)) ?_
        refine Aa rfl (Ag (Ar rfl <| Ad)) ?_
        refine Aa rfl (Bv (Ad) Ab rfl (by omega) (by omega)) ?_
        refine Aa rfl (q_shr (Ar rfl <| Ad) (Ad) (k := j + 1) (by omega) (by show j + 1 < 64; omega) (shr_nat (m := setTo s p ps.length))) ?_
        refine Aa rfl (q_and (Ad) Ab (m := setTo s p ps.length / 2 ^ (j + 1)) (k := 1) rfl rfl (by have := Nat.div_le_self (setTo s p ps.length) (2 ^ (j + 1)); omega) (by omega) rfl) ?_
        refine Aa rfl (Bv (A1 rfl <| Ak rfl <| Ad) (Ad) rfl (by rw [hbt]; split <;> omega) (by rw [hbt]; split <;> omega)) ?_
        refine Aa rfl (Ae (Ad)) ?_
        refine Ah <| Bc <| Ac <| Ai fun ds => Aa rfl (Bv (A6 rfl <| Ar rfl <| Ak rfl <| At rfl hu48) Ab rfl (by omega) (by omega)) ?_
        refine Aa rfl (Ag (Ad)) ?_
        refine Ah <| Ac ⟨_, m2 - 1, Off.eq (D2 rfl <| ou4 rfl <| D7 rfl <| Be), by omega, ?_⟩
        refine ⟨j + 1, by omega, (Ad), ((Ar rfl <| Ad)).trans ?_, rfl⟩
        rw [kindTo_succ, hbt]; congr 1; split <;> omega
       ·
        refine Af <| Ai fun ds => Aa rfl (Bw (At rfl hu48) Ab) ?_
        refine Ah <| Ac <| Af <| Ao (Ad) (by first | rfl | exact decide_eq_false (by omega)) ?_
        obtain rfl : j = 3 := by omega
        have hkb := kindTo_bound (s := s) (p := p) 3
        refine Bq ?_
        refine Bd <| Bd <| Bi <| Ac <| Ai fun ds => Aa rfl (Ap Ce (Ak rfl <| Am rfl <| Ar rfl <| Ak rfl <| Am rfl <| A6 rfl <| Am rfl <| A1 rfl <| Ad) (Cell.own 0 rfl rfl)) ?_
        refine Aa rfl (Ag (Ar rfl <| At rfl hu10)) ?_
        refine Aa rfl (q_max2 Ab (Ad)) ?_
        refine Bg rfl (B6 Bj C6 rfl (.cons (Ad) .nil) rfl rfl (by decide) (by simp [Value.oneCell']) fun b13 hb13 nb13 => ?_)
        refine Bg rfl (Cl Bj el_3 (Ar rfl <| Ak rfl <| Ad) ho (Ad) (Dl (s := 1) 0 rfl rfl (by simp [Value.oneCell'])) (by omega) (by omega) (.s <| .s <| .s <| .s <| .s <| .z) .last fun v14 R15 ho16 => ?_)
        have ho2 : Own 3 1 v14 (iL (needN s) (p + 1)).length ((iL (needN s) (p + 1)).flatMap intE) R15 := by have h9 := ho16; rw [iL_succ]; exact h9.snoc (x := needN s p) rfl (by unfold needN kindsN intE; congr 2; omega)
        refine Cf (Ci sz_26 (A1 rfl <| Ar rfl <| Am rfl <| Ar rfl <| Ak rfl <| Am rfl <| A6 rfl <| Am rfl <| A1 rfl <| Ad) (Ad) (i := 1) rfl (.here) (Own.one ho2) (.next <| .here) ?_)
        refine Ah <| Bc <| Ac <| Di (fun _ _ h => h.drop (.cons _ <| .cons_cons _ <| .cons_cons _ <| .cons_cons _ <| .cons_cons _ <| .refl _)) ?_
        refine Ai fun ds => Aa rfl (Bv (A1 rfl <| Ar rfl <| Am rfl <| Ar rfl <| Ak rfl <| Am rfl <| A6 rfl <| At rfl hs29) Ab rfl (by omega) (by omega)) ?_
        refine Aa rfl (Ag (Ad)) ?_
        refine Ah <| Ac ⟨_, m - 1, Off.eq (D2 rfl <| off_in rfl <| ou2 rfl <| D7 rfl <| off_in rfl <| D2 rfl <| Be), by omega, ?_⟩
        refine ⟨p + 1, by omega, (Ad), _, _, ho2, rfl⟩
   ·
    refine Af <| Ai fun ds => Aa rfl (Bw (At rfl hs29) (Am rfl <| Ak rfl <| Ad)) ?_
    refine Ah <| Ac <| Af <| Ao (Ad) (by first | rfl | exact decide_eq_false (by omega)) ?_
    obtain rfl : p = s.places.length := by omega
    refine Cs (σ := ⟨_, _⟩) (by rfl) ho (.s <| .s <| .s <| .s <| .z) .last fun F17 hF18 hz19 => ?_
    replace hX := hX.mono hF18
    have hnd := ho.sl (fun _ => rfl) hz19 (by rw [C3]; omega)
    refine Cc (i := 0) rfl hb8 (.here) fun F20 hF21 hz5 => ?_
    replace hX := hX.mono hF21
    replace hnd := hnd.mono hF21
    refine Bq ?_
    refine Bd <| Bd <| Bi <| Ac <| Af <| Ai fun ds => Bg rfl (B8 zr_4 rfl fun b22 hb22 nb22 => ?_)
    refine Cf (Ci sz_4 (Ad) Ab (i := 0) rfl (.here) rfl (.here) ?_)
    refine Ah <| Ac <| Af <| Ai fun ds => Aa rfl (Ag (Ar rfl <| Am rfl <| A6 rfl <| Ad)) ?_
    refine Aa rfl (q_makeFunc2 (.cons (Ad) .nil) .nil) ?_
    refine Bg rfl (B8 zr_119 rfl fun b23 hb23 nb23 => ?_)
    refine Cf (Ci sz_119 (Ad) (Ak rfl <| Ad) (i := 0) rfl (.here) rfl (.here) ?_)
    refine Ah <| Ac <| Af <| Af <| Cc (i := 0) rfl hb23 (.here) fun F24 hF25 hz13 => ?_
    replace hX := hX.mono hF25
    replace hnd := hnd.mono hF25
    replace hz5 := hF25 _ _ hz5
    refine Ai fun ds => Aa rfl (Ag (A1 rfl <| Ak rfl <| Am rfl <| A6 rfl <| Ad)) ?_
    refine Bg rfl (Cj bd_83 Az (.cons (Ad) .nil) (trees_ok hX) fun v26 F27 hr28 hF29 => ?_)
    replace hX := hX.mono hF29
    replace hnd := hnd.mono hF29
    replace hz5 := hF29 _ _ hz5
    replace hz13 := hF29 _ _ hz13
    obtain ⟨dz, rfl, hzd⟩ := hr28
    refine Ah <| Ac <| A0 <| WC_rangeG rfl (Ad) (bd_116) (trees1_iter hX hv hzd) (Heap.le_refl _) (fun pre G H => ∃ v2, Nats G v2 ((cleanR s pre).getD []) ∧ H = [(b22, bx 4 [.bool (cleanR s pre).isSome]), (b2, bx 26 [v2]), (b1, bx 25 [vp, ve]), (kb, mapO [])]) (fun _ _ _ => False) (fun _ _ _ _ hF h => by obtain ⟨v, h1, h2⟩ := h; exact ⟨v, h1.mono hF, h2⟩) (fun _ _ _ _ _ h => h) ⟨_, Sl.nil, rfl⟩ (fun L D fn tm pre x rest G H1 vs hxs hle hJ hA => ?_) (fun _ _ _ _ h => h.elim) (fun F2 H1 hF2 hJ => ?_)
    ·
     replace hX := hX.mono hle
     replace hnd := hnd.mono hle
     replace hz5 := hle _ _ hz5
     replace hz13 := hle _ _ hz13
     obtain ⟨v2, hv2, rfl⟩ := hJ
     obtain rfl : vs = [treeV x] := hA
     have hxm : x ∈ allTrees s := by rw [hxs]; simp
     obtain ⟨hll, ht, -⟩ := allTrees_mem.1 hxm
     refine ⟨rfl, rfl, fun w1 => ?_⟩
     refine WC_eq (e' := (upd _ 69 (treeV x))) rfl rfl ?_
     refine Ca (.inr (by kernel_rfl)) (fun _ _ h => h) fun ds => ?_
     refine Bg rfl (B8 D1 rfl fun b30 hb30 nb30 => ?_)
     refine WL_order (.cons (.next <| .here) <| .cons (.next <| .here) <| .cons (.here) <| .cons (.here) <| .cons (.here) <| .cons (.here) <| .cons (.here) <| .nil) ?_
     refine Cf (Cd Ea (Ad) (Ak rfl <| Ad) (i := 2) rfl rfl rfl rfl C7 (.next <| .next <| .here) ?_)
     refine Ah <| Ac ⟨_, rfl, ?_⟩
     refine A0 <| Af <| WC_name (i := 0) rfl (fun _ => .here) fun oL hoL => ?_
     refine Ca (.inr (by kernel_rfl)) (fun _ _ h => h) fun ds => ?_
     refine Aa rfl (Ae Ab) ?_
     refine Ah <| Ac <| Af <| Af <| Ca (.inr (by kernel_rfl)) (fun _ _ h => h) fun ds => ?_
     refine Aa rfl (Ap Ce (A6 rfl <| Ar rfl <| Am rfl <| A1 rfl <| Ad) (CellF.own hz5 rfl).cell) ?_
     refine Aa rfl (Bk Bj (Ad) hnd.plain) ?_
     refine Aa rfl (Ag Ab) ?_
     refine Ah <| Ac <| A0 <| Bt [15, 16, 17, 72, 73, 74, 75, 76, 77, 78, 79, 80, 81, 82, 83, 84, 85, 86, 87] (fun m e σ => ∃ q : Nat, m + q = s.places.length ∧ e 72 = .int .i64 (q : Int) ∧ ∃ v15 R15, e 15 = v15 ∧ Own 3 1 v15 (selN (uncleanB s x) q).length ((selN (uncleanB s x) q).flatMap natE) R15 ∧ σ = ⟨G, (L, oL) :: (D, openO) :: (b30, bx 100 (treeC x)) :: (b22, bx 4 [.bool (cleanR s pre).isSome]) :: (b2, bx 26 [v2]) :: (b1, bx 25 [vp, ve]) :: (kb, mapO []) :: R15⟩) (s.places.length) ?_ ?_
     · exact ⟨0, by omega, (Ad), _, _, (Ar rfl <| Ak rfl <| Ad), Own.nil, rfl⟩
     ·
      rintro m e _ ⟨q, hm, hs72, v15, R15, hs15, ho, rfl⟩; have hsl := Ed (p := (uncleanB s x)) (k := q)
      by_cases hlq : q < s.places.length
      ·
       refine Af <| Ca (.inr (by kernel_rfl)) (fun _ _ h => h) fun ds => ?_
       refine Aa rfl (Bw (At rfl hs72) (Am rfl <| Ak rfl <| Ad)) ?_
       refine Ah <| Ac <| Af <| Aq (Ad) (by first | rfl | exact decide_eq_true (by omega)) ?_
       have hnq : (iL (needN s) s.places.length)[q]'(by rw [C3]; exact hlq) = needN s q := iL_at _
       have hup := unclean_place ht hv hll (p := q)
       by_cases hub : uncleanB s x q = true
       ·
        refine Ax <| Ac <| Af <| A0 <| Af <| Ca (.inr (by kernel_rfl)) (fun _ _ h => h) fun ds => ?_
        refine Aa rfl (Ag (Ak rfl <| At rfl hs72)) ?_
        refine Aa rfl (Bf (k := q) Bj (Ar rfl <| Am rfl <| Ar rfl <| Ad) hnd.plain (Ar rfl <| At rfl hs72) rfl (by rw [C3]; exact hlq)) ?_
        refine Aa rfl (Ap Bn (Ad) (hnd.cell1 (by rw [C3]; exact hlq) rfl)) ?_
        refine Aa rfl (Ae (Ar rfl <| Ad)) ?_
        refine Aa rfl (Ae (Ak rfl <| Ad)) ?_
        refine Ah <| Ac <| Af <| Ca (.inr (by kernel_rfl)) (fun _ _ h => h) fun ds => ?_
        refine Aa rfl (Ap one_119 (A1 rfl <| Ar rfl <| Am rfl <| A6 rfl <| Ad) (CellF.own hz13 rfl).cell) ?_
        refine Aa rfl (A9 B0 (A1 rfl <| Ar rfl <| Ak rfl <| Am rfl <| A1 rfl <| Ad) rfl rfl (A5 2 rfl)) ?_
        refine Aa rfl (Ag (Ar rfl <| Ak rfl <| Ad)) ?_
        refine Bx rfl (q_callF bd_82 (Ar rfl <| Ad) (.cons (Ak rfl <| Ad) (.cons (Ad) .nil)) (Dw hX ht hll hv hlq) (fun _ _ h => h)) ?_
        refine Aa rfl (Ag (A1 rfl <| Ad)) ?_
        refine Aa rfl (B2 (Ak rfl <| Ad) (Ad)) ?_
        refine Ah <| Ac <| Aq (Ad) (decide_eq_true (by rw [hnq]; exact hup.2 hub)) ?_
        refine Ca (.inr (by kernel_rfl)) (fun _ _ h => h) fun ds => ?_
        refine Aa rfl (Ag (A6 rfl <| A1 rfl <| At rfl hs15)) ?_
        refine Aa rfl (Ag (A6 rfl <| Ad)) ?_
        refine Bg rfl (B6 Bj C6 rfl (.cons (Ad) .nil) rfl rfl (by decide) (by simp [Value.oneCell']) fun b32 hb32 nb32 => ?_)
        refine Bg rfl (Cl Bj el_3 (Ar rfl <| Ad) ho (Ad) (Dl (s := 1) 0 rfl rfl (by simp [Value.oneCell'])) (by omega) (by omega) (.s <| .s <| .s <| .s <| .s <| .s <| .s <| .s <| .z) .last fun v33 R34 ho35 => ?_)
        have ho2 := ho35.snoc (x := q) rfl rfl
        refine Aa rfl (Ae (Ad)) ?_
        refine Ah <| Bc <| Ac <| Di (fun _ _ h => h.drop (.cons _ <| .cons_cons _ <| .cons_cons _ <| .cons_cons _ <| .cons_cons _ <| .cons_cons _ <| .cons_cons _ <| .cons_cons _ <| .refl _)) ?_
        refine Ca (.inr (by kernel_rfl)) (fun _ _ h => h) fun ds => ?_
        refine Aa rfl (Bv (A3 rfl <| Ak rfl <| At rfl hs72) Ab rfl (by omega) (by omega)) ?_
        refine Aa rfl (Ag (Ad)) ?_
        refine Ah <| Ac ⟨_, m - 1, Off.eq (Dc rfl <| ou2 rfl <| D7 rfl <| Be), by omega, ?_⟩
        exact ⟨q + 1, by omega, (Ad), _, _, (Ar rfl <| Ad), by rw [Ec, if_pos hub]; exact ho2, rfl⟩
       ·
        replace hub : uncleanB s x q = false := by simpa using hub
        refine Ax <| Ac <| Af <| A0 <| Af <| Ca (.inr (by kernel_rfl)) (fun _ _ h => h) fun ds => ?_
        refine Aa rfl (Ag (Ak rfl <| At rfl hs72)) ?_
        refine Aa rfl (Bf (k := q) Bj (Ar rfl <| Am rfl <| Ar rfl <| Ad) hnd.plain (Ar rfl <| At rfl hs72) rfl (by rw [C3]; exact hlq)) ?_
        refine Aa rfl (Ap Bn (Ad) (hnd.cell1 (by rw [C3]; exact hlq) rfl)) ?_
        refine Aa rfl (Ae (Ar rfl <| Ad)) ?_
        refine Aa rfl (Ae (Ak rfl <| Ad)) ?_
        refine Ah <| Ac <| Af <| Ca (.inr (by kernel_rfl)) (fun _ _ h => h) fun ds => ?_
        refine Aa rfl (Ap one_119 (A1 rfl <| Ar rfl <| Am rfl <| A6 rfl <| Ad) (CellF.own hz13 rfl).cell) ?_
        refine Aa rfl (A9 B0 (A1 rfl <| Ar rfl <| Ak rfl <| Am rfl <| A1 rfl <| Ad) rfl rfl (A5 2 rfl)) ?_
        refine Aa rfl (Ag (Ar rfl <| Ak rfl <| Ad)) ?_
        refine Bx rfl (q_callF bd_82 (Ar rfl <| Ad) (.cons (Ak rfl <| Ad) (.cons (Ad) .nil)) (Dw hX ht hll hv hlq) (fun _ _ h => h)) ?_
        refine Aa rfl (Ag (A1 rfl <| Ad)) ?_
        refine Aa rfl (B2 (Ak rfl <| Ad) (Ad)) ?_
        refine Ah <| Ac <| Ao (Ad) (decide_eq_false (by rw [hnq]; exact fun h => by rw [hup.1 h] at hub; cases hub)) ?_
        refine Ax <| Bc <| Ac <| Ca (.inr (by kernel_rfl)) (fun _ _ h => h) fun ds => ?_
        refine Aa rfl (Bv (A6 rfl <| A1 rfl <| At rfl hs72) Ab rfl (by omega) (by omega)) ?_
        refine Aa rfl (Ag (Ad)) ?_
        refine Ah <| Ac ⟨_, m - 1, Off.eq (D2 rfl <| ou4 rfl <| ou2 rfl <| Be), by omega, ?_⟩
        exact ⟨q + 1, by omega, (Ad), _, _, (A6 rfl <| A1 rfl <| Ar rfl <| At rfl hs15), by rw [Ec, if_neg (by rw [hub]; simp)]; exact ho, rfl⟩
      ·
       refine Af <| Ca (.inr (by kernel_rfl)) (fun _ _ h => h) fun ds => ?_
       refine Aa rfl (Bw (At rfl hs72) (Am rfl <| Ak rfl <| Ad)) ?_
       refine Ah <| Ac <| Af <| Ao (Ad) (by first | rfl | exact decide_eq_false (by omega)) ?_
       obtain rfl : q = s.places.length := by omega
       refine WC_freezeRM (σ := ⟨_, _⟩) (by intro m hm; simp [keys] at hm ⊢; rcases hm with h | h | h | h | h | h <;> simp [h]) ho (.s <| .s <| .s <| .s <| .s <| .s <| .s <| .z) .last fun F36 hF37 hz38 => ?_
       replace hle := hle.mono hF37
       replace hv2 := hv2.mono hF37
       have hl15 := ho.sl (fun _ => rfl) hz38 (by omega)
       change Nats _ _ (uncleanL s x) at hl15
       rcases opt_or (cleanR s pre) with hcs | ⟨bb, hcs⟩
       ·
        refine Bq ?_
        refine Bd <| Bd <| Bi <| Ac <| Af <| Ca (.inr (by kernel_rfl)) (fun _ _ h => h) fun ds => ?_
        refine Aa rfl (Ap one_4 (Ak rfl <| Am rfl <| A6 rfl <| Ar rfl <| Ak rfl <| Ad) (Cell.own 3 rfl rfl)) ?_
        refine Aa rfl (Cm (Ad)) ?_
        refine Aa rfl (Ag (Ad)) ?_
        refine Aw rfl rfl (Ad) (.inl (congrArg Value.bool (by rw [hcs]; rfl))) rfl ?_
        refine Aw rfl rfl (Ak rfl <| Ad) (.inl (congrArg Value.bool (by rw [hcs]; rfl))) rfl ?_
        refine Aw rfl rfl (Ar rfl <| Ad) (.inl (congrArg Value.bool (by rw [hcs]; rfl))) rfl ?_
        refine Aw rfl rfl (Ar rfl <| Ak rfl <| Ad) (.inl (congrArg Value.bool (by rw [hcs]; rfl))) rfl ?_
        refine Aw rfl rfl (A1 rfl <| Ad) (.inl (congrArg Value.bool (by rw [hcs]; rfl))) rfl ?_
        refine Aa rfl (A4 (A1 rfl <| Ak rfl <| Ad) (by rw [hcs]; rfl) Ab) ?_
        refine Aa rfl (Ag (Ad)) ?_
        refine Aw rfl rfl (Ad) (.inl (congrArg Value.bool rfl)) rfl ?_
        refine Aw rfl rfl (Ak rfl <| Ad) (.inl (congrArg Value.bool rfl)) rfl ?_
        refine Aw rfl rfl (Ar rfl <| Ad) (.inl (congrArg Value.bool rfl)) rfl ?_
        refine Aw rfl rfl (Ar rfl <| Ak rfl <| Ad) (.inl (congrArg Value.bool rfl)) rfl ?_
        refine Aw rfl rfl (A1 rfl <| Ad) (.inl (congrArg Value.bool rfl)) rfl ?_
        refine Aw rfl rfl (A1 rfl <| Ak rfl <| Ad) (.inl (congrArg Value.bool rfl)) rfl ?_
        refine Aw rfl rfl (Ad) (.inr rfl) rfl ?_
        refine Aw rfl rfl (Ak rfl <| Ad) (.inr rfl) rfl ?_
        refine Aw rfl rfl (Ar rfl <| Ad) (.inr rfl) rfl ?_
        refine Aw rfl rfl (Ar rfl <| Ak rfl <| Ad) (.inr rfl) rfl ?_
        refine Aw rfl rfl (A6 rfl <| Ar rfl <| Ad) (.inl (congrArg Value.bool rfl)) rfl ?_
        refine Aa rfl (A4 (A6 rfl <| Ar rfl <| Ak rfl <| Ad) rfl Ab) ?_
        refine Ah <| Ac <| Aq (Ad) rfl ?_
        subst hoL
        refine Ca (.inr (by kernel_rfl)) (fun _ _ h => h) fun ds => ?_
        refine Aa rfl (Ag (A3 rfl <| A1 rfl <| Ar rfl <| Ak rfl <| At rfl hs15)) ?_
        refine Cf (Ci sz_26 (A3 rfl <| A6 rfl <| Am rfl <| A6 rfl <| A1 rfl <| Ak rfl <| Am rfl <| A6 rfl <| A1 rfl <| Ar rfl <| Ak rfl <| Ad) (Ad) (i := 4) rfl (.here) (by first | rfl | exact hl15.plain.one) (.next <| .next <| .next <| .next <| .here) ?_)
        refine Cf (Ci sz_4 (A3 rfl <| A6 rfl <| Am rfl <| A6 rfl <| Ar rfl <| Ak rfl <| Ad) Ab (i := 3) rfl (.here) (by first | rfl | exact hl15.plain.one) (.next <| .next <| .next <| .here) ?_)
        refine Ah <| Bc ?_
        refine Ej (.one (.here) <| .one (.here) <| .one (.next <| .here) <| .one (.next <| .here) <| .one (.next <| .here) <| .one (.next <| .here) <| .nil) ?_
        refine .inl ⟨rfl, _, rfl, hle, ?_⟩
        exact ⟨_, by rw [cleanS_none hcs]; exact hl15, by rw [cleanS_none hcs]; first | done | rfl⟩
       ·
        have hv2b := hv2
        rw [hcs] at hv2b
        replace hv2b : Nats _ v2 bb := hv2b
        have hbl := hv2b.plain.lt
        refine Bq ?_
        refine Bd <| Bd <| Bi <| Ac <| Af <| Ca (.inr (by kernel_rfl)) (fun _ _ h => h) fun ds => ?_
        refine Aa rfl (Ap one_4 (Ak rfl <| Am rfl <| A6 rfl <| Ar rfl <| Ak rfl <| Ad) (Cell.own 3 rfl rfl)) ?_
        refine Aa rfl (Cm (Ad)) ?_
        refine Aa rfl (Ag (Ad)) ?_
        refine As rfl rfl (Ad) (by rw [hcs]; rfl) ?_
        refine Aa rfl (Ag (A1 rfl <| At rfl hs15)) ?_
        refine As rfl rfl (Ak rfl <| Ad) (by rw [hcs]; rfl) ?_
        refine Aa rfl (Bk Bj (Ad) hl15.plain) ?_
        refine As rfl rfl (Ar rfl <| Ad) (by rw [hcs]; rfl) ?_
        refine Aa rfl (Ap Ce (A1 rfl <| Ar rfl <| Am rfl <| A6 rfl <| A1 rfl <| Ak rfl <| Am rfl <| A6 rfl <| A1 rfl <| Ar rfl <| Ak rfl <| Ad) (Cell.own 4 rfl rfl)) ?_
        refine As rfl rfl (Ar rfl <| Ak rfl <| Ad) (by rw [hcs]; rfl) ?_
        refine Aa rfl (Bk Bj (Ad) hv2.plain) ?_
        refine As rfl rfl (A1 rfl <| Ad) (by rw [hcs]; rfl) ?_
        refine Aa rfl (Bw (Ar rfl <| Ad) (Ad)) ?_
        refine Aa rfl (Ba (A1 rfl <| Ak rfl <| Ad) (by rw [hcs]; rfl) (Ad)) ?_
        refine Aa rfl (Ag (Ad)) ?_
        by_cases h1 : (uncleanL s x).length < bb.length
        ·
         refine Aw rfl rfl (Ad) (.inl (congrArg Value.bool (decide_eq_true (by rw [hcs]; show (_ : Int) < (bb.length : Int); omega)))) rfl ?_
         refine Aw rfl rfl (Ak rfl <| Ad) (.inl (congrArg Value.bool (decide_eq_true (by rw [hcs]; show (_ : Int) < (bb.length : Int); omega)))) rfl ?_
         refine Aw rfl rfl (Ar rfl <| Ad) (.inl (congrArg Value.bool (decide_eq_true (by rw [hcs]; show (_ : Int) < (bb.length : Int); omega)))) rfl ?_
         refine Aw rfl rfl (Ar rfl <| Ak rfl <| Ad) (.inl (congrArg Value.bool (decide_eq_true (by rw [hcs]; show (_ : Int) < (bb.length : Int); omega)))) rfl ?_
         refine Aw rfl rfl (A1 rfl <| Ad) (.inl (congrArg Value.bool (decide_eq_true (by rw [hcs]; show (_ : Int) < (bb.length : Int); omega)))) rfl ?_
         refine Aw rfl rfl (A1 rfl <| Ak rfl <| Ad) (.inl (congrArg Value.bool (decide_eq_true (by rw [hcs]; show (_ : Int) < (bb.length : Int); omega)))) rfl ?_
         refine Aw rfl rfl (Ad) (.inr rfl) rfl ?_
         refine Aw rfl rfl (Ak rfl <| Ad) (.inr rfl) rfl ?_
         refine Aw rfl rfl (Ar rfl <| Ad) (.inr rfl) rfl ?_
         refine Aw rfl rfl (Ar rfl <| Ak rfl <| Ad) (.inr rfl) rfl ?_
         refine Aw rfl rfl (A6 rfl <| Ar rfl <| Ad) (.inl (congrArg Value.bool (decide_eq_true (by rw [hcs]; show (_ : Int) < (bb.length : Int); omega)))) rfl ?_
         refine Aa rfl (A4 (A6 rfl <| Ar rfl <| Ak rfl <| Ad) (decide_eq_true (by rw [hcs]; show (_ : Int) < (bb.length : Int); omega)) Ab) ?_
         refine Ah <| Ac <| Aq (Ad) rfl ?_
         subst hoL
         refine Ca (.inr (by kernel_rfl)) (fun _ _ h => h) fun ds => ?_
         refine Aa rfl (Ag (A3 rfl <| A1 rfl <| Ar rfl <| Ak rfl <| At rfl hs15)) ?_
         refine Cf (Ci sz_26 (A3 rfl <| A6 rfl <| Am rfl <| A6 rfl <| A1 rfl <| Ak rfl <| Am rfl <| A6 rfl <| A1 rfl <| Ar rfl <| Ak rfl <| Ad) (Ad) (i := 4) rfl (.here) (by first | rfl | exact hl15.plain.one) (.next <| .next <| .next <| .next <| .here) ?_)
         refine Cf (Ci sz_4 (A3 rfl <| A6 rfl <| Am rfl <| A6 rfl <| Ar rfl <| Ak rfl <| Ad) Ab (i := 3) rfl (.here) (by first | rfl | exact hl15.plain.one) (.next <| .next <| .next <| .here) ?_)
         refine Ah <| Bc ?_
         refine Ej (.one (.here) <| .one (.here) <| .one (.next <| .here) <| .one (.next <| .here) <| .one (.next <| .here) <| .one (.next <| .here) <| .nil) ?_
         refine .inl ⟨rfl, _, rfl, hle, ?_⟩
         exact ⟨_, by rw [cleanS_yes hcs (.inl h1)]; exact hl15, by rw [cleanS_yes hcs (.inl h1)]; first | done | rfl⟩
        ·
         refine As rfl rfl (Ad) (decide_eq_false (by rw [hcs]; show ¬ (_ : Int) < (bb.length : Int); omega)) ?_
         refine Aa rfl (Ag (A6 rfl <| Ar rfl <| Ak rfl <| At rfl hs15)) ?_
         refine As rfl rfl (Ak rfl <| Ad) (decide_eq_false (by rw [hcs]; show ¬ (_ : Int) < (bb.length : Int); omega)) ?_
         refine Aa rfl (Bk Bj (Ad) hl15.plain) ?_
         refine As rfl rfl (Ar rfl <| Ad) (decide_eq_false (by rw [hcs]; show ¬ (_ : Int) < (bb.length : Int); omega)) ?_
         refine Aa rfl (Ap Ce (A6 rfl <| A1 rfl <| Ak rfl <| Am rfl <| A6 rfl <| A1 rfl <| Ak rfl <| Am rfl <| A6 rfl <| A1 rfl <| Ar rfl <| Ak rfl <| Ad) (Cell.own 4 rfl rfl)) ?_
         refine As rfl rfl (Ar rfl <| Ak rfl <| Ad) (decide_eq_false (by rw [hcs]; show ¬ (_ : Int) < (bb.length : Int); omega)) ?_
         refine Aa rfl (Bk Bj (Ad) hv2.plain) ?_
         refine As rfl rfl (A1 rfl <| Ad) (decide_eq_false (by rw [hcs]; show ¬ (_ : Int) < (bb.length : Int); omega)) ?_
         refine Aa rfl (Bu (Ar rfl <| Ad) (Ad)) ?_
         refine As rfl rfl (A1 rfl <| Ak rfl <| Ad) (decide_eq_false (by rw [hcs]; show ¬ (_ : Int) < (bb.length : Int); omega)) ?_
         refine Aa rfl (Ag (Ad)) ?_
         by_cases h2 : (uncleanL s x).length = bb.length
         ·
          refine As rfl rfl (Ad) (decide_eq_true (by rw [hcs]; show (_ : Int) = (bb.length : Int); omega)) ?_
          refine Aa rfl (Ag (A3 rfl <| Ak rfl <| At rfl hs15)) ?_
          refine As rfl rfl (Ak rfl <| Ad) (decide_eq_true (by rw [hcs]; show (_ : Int) = (bb.length : Int); omega)) ?_
          refine Aa rfl (Ap Ce (A3 rfl <| Ar rfl <| Am rfl <| A6 rfl <| A1 rfl <| Ak rfl <| Am rfl <| A6 rfl <| A1 rfl <| Ar rfl <| Ak rfl <| Ad) (Cell.own 4 rfl rfl)) ?_
          refine As rfl rfl (Ar rfl <| Ad) (decide_eq_true (by rw [hcs]; show (_ : Int) = (bb.length : Int); omega)) ?_
          refine Bx rfl (Bb bd_84 Az (.cons (Ak rfl <| Ad) (.cons (Ad) .nil)) (compare_ok hl15 hv2) (fun _ _ h => h)) ?_
          refine As rfl rfl (Ar rfl <| Ak rfl <| Ad) (decide_eq_true (by rw [hcs]; show (_ : Int) = (bb.length : Int); omega)) ?_
          refine Aa rfl (Bw (Ad) Ab) ?_
          refine As rfl rfl (A6 rfl <| Ar rfl <| Ad) (decide_eq_false (by rw [hcs]; show ¬ (_ : Int) < (bb.length : Int); omega)) ?_
          refine Aa rfl (A4 (A1 rfl <| Ad) (decide_eq_true (by rw [hcs]; show (_ : Int) = (bb.length : Int); omega)) (Ad)) ?_
          refine Aa rfl (Ba (A6 rfl <| Ar rfl <| Ak rfl <| Ad) (decide_eq_false (by rw [hcs]; show ¬ (_ : Int) < (bb.length : Int); omega)) (Ad)) ?_
          refine Ah <| Ac ?_
          by_cases h3 : cmpL (uncleanL s x) bb < 0
          ·
           refine Aq (Ad) (by rw [hcs]; exact decide_eq_true h3) ?_
           subst hoL
           refine Ca (.inr (by kernel_rfl)) (fun _ _ h => h) fun ds => ?_
           refine Aa rfl (Ag (A3 rfl <| A1 rfl <| Ar rfl <| Ak rfl <| At rfl hs15)) ?_
           refine Cf (Ci sz_26 (A3 rfl <| A6 rfl <| Am rfl <| A6 rfl <| A1 rfl <| Ak rfl <| Am rfl <| A6 rfl <| A1 rfl <| Ar rfl <| Ak rfl <| Ad) (Ad) (i := 4) rfl (.here) (by first | rfl | exact hl15.plain.one) (.next <| .next <| .next <| .next <| .here) ?_)
           refine Cf (Ci sz_4 (A3 rfl <| A6 rfl <| Am rfl <| A6 rfl <| Ar rfl <| Ak rfl <| Ad) Ab (i := 3) rfl (.here) (by first | rfl | exact hl15.plain.one) (.next <| .next <| .next <| .here) ?_)
           refine Ah <| Bc ?_
           refine Ej (.one (.here) <| .one (.here) <| .one (.next <| .here) <| .one (.next <| .here) <| .one (.next <| .here) <| .one (.next <| .here) <| .nil) ?_
           refine .inl ⟨rfl, _, rfl, hle, ?_⟩
           exact ⟨_, by rw [cleanS_yes hcs (.inr ⟨h2, h3⟩)]; exact hl15, by rw [cleanS_yes hcs (.inr ⟨h2, h3⟩)]; first | done | rfl⟩
          ·
           refine Ao (Ad) (by rw [hcs]; exact decide_eq_false h3) ?_
           subst hoL
           refine Ax <| Bc ?_
           refine Ej (.one (.here) <| .one (.here) <| .one (.next <| .here) <| .one (.next <| .here) <| .one (.next <| .here) <| .one (.next <| .here) <| .nil) ?_
           refine .inl ⟨rfl, _, rfl, hle, ?_⟩
           exact ⟨_, by rw [cleanS_no hcs (fun h => h.elim h1 (fun h => h3 h.2))]; exact hv2b, by rw [cleanS_no hcs (fun h => h.elim h1 (fun h => h3 h.2)), hcs]; first | done | rfl⟩
         ·
          refine Aw rfl rfl (Ad) (.inl (congrArg Value.bool (decide_eq_false (by rw [hcs]; show ¬ (_ : Int) = (bb.length : Int); omega)))) rfl ?_
          refine Aw rfl rfl (Ak rfl <| Ad) (.inl (congrArg Value.bool (decide_eq_false (by rw [hcs]; show ¬ (_ : Int) = (bb.length : Int); omega)))) rfl ?_
          refine Aw rfl rfl (Ar rfl <| Ad) (.inl (congrArg Value.bool (decide_eq_false (by rw [hcs]; show ¬ (_ : Int) = (bb.length : Int); omega)))) rfl ?_
          refine Aw rfl rfl (Ar rfl <| Ak rfl <| Ad) (.inl (congrArg Value.bool (decide_eq_false (by rw [hcs]; show ¬ (_ : Int) = (bb.length : Int); omega)))) rfl ?_
          refine As rfl rfl (A6 rfl <| Ar rfl <| Ad) (decide_eq_false (by rw [hcs]; show ¬ (_ : Int) < (bb.length : Int); omega)) ?_
          refine Aa rfl (Ba (A1 rfl <| Ad) (decide_eq_false (by rw [hcs]; show ¬ (_ : Int) = (bb.length : Int); omega)) Ab) ?_
          refine Aa rfl (Ba (A6 rfl <| Ar rfl <| Ak rfl <| Ad) (decide_eq_false (by rw [hcs]; show ¬ (_ : Int) < (bb.length : Int); omega)) (Ad)) ?_
          refine Ah <| Ac <| Ao (Ad) rfl ?_
          subst hoL
          refine Ax <| Bc ?_
          refine Ej (.one (.here) <| .one (.here) <| .one (.next <| .here) <| .one (.next <| .here) <| .one (.next <| .here) <| .one (.next <| .here) <| .nil) ?_
          refine .inl ⟨rfl, _, rfl, hle, ?_⟩
          exact ⟨_, by rw [cleanS_no hcs (fun h => h.elim h1 (fun h => h2 h.1))]; exact hv2b, by rw [cleanS_no hcs (fun h => h.elim h1 (fun h => h2 h.1)), hcs]; first | done | rfl⟩
    obtain ⟨v2, hv2, rfl⟩ := hJ
    refine Bc <| Ac ?_
    rcases opt_or (cleanR s (allTrees s)) with hcs | ⟨bb, hcs⟩
    ·
     refine Af <| Af <| Ai fun ds => Aa rfl (Ap one_4 (A1 rfl <| Ak rfl <| Ad) (Cell.own 0 rfl rfl)) ?_
     refine Aa rfl (Cm (Ad)) ?_
     refine Ah <| Ac <| Aq (Ad) (by rw [hcs]; rfl) ?_
     refine Af <| Ai fun ds => Cf (Ci sz_26 (A6 rfl <| Ak rfl <| Am rfl <| A6 rfl <| A1 rfl <| Ar rfl <| Ak rfl <| Ad) Ab (i := 1) rfl (.here) rfl (.next <| .here) ?_)
     refine Aa rfl (Ae Ab) ?_
     refine Ah <| Ac <| A2 <| A8 ?_
     refine Au rfl (.one Ce (A6 rfl <| Ar rfl <| Am rfl <| A6 rfl <| A1 rfl <| Ar rfl <| Ak rfl <| Ad) (Cell.own 1 rfl rfl) (.tmp (Ad) .nil)) ?_
     rw [cleanE_none h0 hcs]
     exact ⟨_, rfl, Sl.nil⟩
    ·
     refine Af <| Af <| Ai fun ds => Aa rfl (Ap one_4 (A1 rfl <| Ak rfl <| Ad) (Cell.own 0 rfl rfl)) ?_
     refine Aa rfl (Cm (Ad)) ?_
     refine Ah <| Ac <| Ao (Ad) (by rw [hcs]; rfl) ?_
     refine Ax <| Ac <| Af <| Ai fun ds => Aa rfl (Ap Ce (A6 rfl <| Ak rfl <| Am rfl <| A6 rfl <| A1 rfl <| Ar rfl <| Ak rfl <| Ad) (Cell.own 1 rfl rfl)) ?_
     refine Cf (Ci sz_26 (A6 rfl <| Ar rfl <| Am rfl <| A6 rfl <| A1 rfl <| Ar rfl <| Ak rfl <| Ad) (Ad) (i := 1) rfl (.here) hv2.plain.one (.next <| .here) ?_)
     refine Aa rfl (Ae Ab) ?_
     refine Ah <| Ac <| A2 <| Au rfl (.one Ce (A6 rfl <| Ar rfl <| Ak rfl <| Am rfl <| A6 rfl <| A1 rfl <| Ar rfl <| Ak rfl <| Ad) (Cell.own 1 rfl rfl) (.tmp (Ad) .nil)) ?_
     rw [cleanE_some h0 hcs]
     rw [hcs] at hv2
     exact ⟨_, rfl, hv2⟩
 ·
  refine Af <| Ai fun ds => Bg rfl (B1 (Aj rfl) rfl fun b39 hb39 nb39 => ?_)
  refine Bg rfl (B8 zr_26 rfl fun b40 hb40 nb40 => ?_)
  refine Aa rfl (Ae Ab) ?_
  refine Ah <| Ac <| Af <| Ai fun ds => Aa rfl (A9 B7 (Ar rfl <| Ad) rfl rfl (A5 1 rfl)) ?_
  refine Bx rfl (Bb bd_65 Az (.cons (Ad) .nil) (open_bad hr h0) (fun _ _ h => h)) ?_
  refine Aa rfl (Ag (Ad)) ?_
  refine Aa rfl (Ay (Ad) rfl) ?_
  refine Aa rfl (Ay (Ak rfl <| Ad) rfl) ?_
  refine Aa rfl (Ae (Ak rfl <| Ad)) ?_
  refine Aa rfl (Ae (Ak rfl <| Ad)) ?_
  refine Ah <| Ac <| Af <| Af <| Ai fun ds => Aa rfl (Ag (Ad)) ?_
  refine Aa rfl (B2 (Ad) Ab) ?_
  refine Ah <| Ac <| Aq (Ad) (decide_eq_true h0) ?_
  refine Af <| Ai fun ds => Aa rfl (Ag (Ar rfl <| Ad)) ?_
  refine Cf (Ci sz_26 (A6 rfl <| Ar rfl <| Ak rfl <| Ad) Ab (i := 0) rfl (.here) rfl (.here) ?_)
  refine Aa rfl (Ae (Ad)) ?_
  refine Ah <| Ac <| A2 <| A8 ?_
  refine Au rfl (.one Ce (A6 rfl <| A1 rfl <| Ad) (Cell.own 0 rfl rfl) (.tmp (Ad) .nil)) ?_
  rw [cleanE_bad h0]
  exact ⟨_, rfl, Sl.nil⟩
end Go.Proofs.Ytccogmkhijgelaa
namespace Go.Proofs.Ytccogmkhijgelaa
open Go.RowKit
def plA : Plc := ⟨⟨#[97]⟩, 0⟩
def plB : Plc := ⟨⟨#[98]⟩, 1⟩
def plC : Plc := ⟨⟨#[99]⟩, 0⟩
def edQ1 : Edn := ⟨⟨#[113, 49]⟩, 1600, 1600, [1, 1, 1]⟩
def edQ2 : Edn := ⟨⟨#[113, 50]⟩, 1605, 1610, [2, 1, 1]⟩
def edF1 : Edn := ⟨⟨#[102, 49]⟩, 1623, 1623, [2, 2, 1]⟩
def edQ3 : Edn := ⟨⟨#[113, 51]⟩, 1608, 1630, [0, 1, 2]⟩
def stemX : Stm := ⟨[plA, plB, plC], [edQ1, edQ2, edF1, edQ3]⟩
def bestX : List Int := [-1, 0, 1, 0]
def starX : List Int := [-1, 0, 0, 0]
def lineX : List Int := [-1, 0, 1, 2]
def twoX : List Int := [-1, 0, 1, 1]
theorem ev_p1 : apartE stemX 0 2 = ([0, 1], 0) := by kernel_rfl
theorem ev_c1 : changesE stemX starX = (4, 0) := by kernel_rfl
theorem ev_c2 : changesE stemX lineX = (0, 9) := by kernel_rfl
theorem ev_y1 : yearsE stemX twoX = ([(1600, 1600), (1605, 1610), (1623, 1623), (1608, 1630)], 0) := by kernel_rfl
theorem ev_b1 : bestTE stemX = (bestX, 3, 2, 0) := by kernel_rfl
theorem ev_f1 : firstTE stemX = ([0], 0) := by kernel_rfl
theorem ev_m1 : fromE stemX 1 2 = (1, 0) := by kernel_rfl
theorem ev_r1 : readE stemX bestX 3 0 = ([1], 0) := by kernel_rfl
theorem ev_l1 : cleanE stemX = ([], 0) := by kernel_rfl
theorem ev_s1 : secE stemX starX 2 = (1, 1, 0) := by kernel_rfl
theorem ev_s2 : secE stemX bestX 2 = (0, 0, 8) := by kernel_rfl
end Go.Proofs.Ytccogmkhijgelaa
namespace Go.Proofs.Ytccogmkhijgelaa
open Go.RowKit
theorem zr_25 : ZeroT Try.prog 25 (.agg #[.slice none 0 0, .slice none 0 0]) := C2 (by kernel_rfl)
theorem bd_20 : Body Try.prog 20 := Bp (by kernel_rfl)
theorem bd_21 : Body Try.prog 21 := Bp (by kernel_rfl)
theorem bd_23 : Body Try.prog 23 := Bp (by kernel_rfl)
theorem bd_25 : Body Try.prog 25 := Bp (by kernel_rfl)
theorem bd_26 : Body Try.prog 26 := Bp (by kernel_rfl)
theorem bd_27 : Body Try.prog 27 := Bp (by kernel_rfl)
theorem bd_29 : Body Try.prog 29 := Bp (by kernel_rfl)
theorem bd_31 : Body Try.prog 31 := Bp (by kernel_rfl)
theorem bd_33 : Body Try.prog 33 := Bp (by kernel_rfl)
theorem bd_35 : Body Try.prog 35 := Bp (by kernel_rfl)
theorem bd_37 : Body Try.prog 37 := Bp (by kernel_rfl)
theorem bd_39 : Body Try.prog 39 := Bp (by kernel_rfl)
theorem bd_95 : Body Try.prog 95 := Bp (by kernel_rfl)
theorem bt_25 : BuildT Try.prog 25 [.slice none 0 0, .slice none 0 0] [(0, 1), (1, 1)] := buildT_of zr_25 (by kernel_rfl) (by decide)
theorem bt_60 : BuildT Try.prog 60 [.int .i64 0, .int .i64 0] [(0, 1), (1, 1)] := buildT_of zr_60 (by kernel_rfl) (by decide)
theorem bt_64 : BuildT Try.prog 64 [.string ⟨#[]⟩, .int .i64 0, .int .i64 0, .slice none 0 0] [(0, 1), (1, 2), (3, 1)] := buildT_of zr_64 (by kernel_rfl) (by decide)
theorem bt_70 : BuildT Try.prog 70 [.string ⟨#[]⟩, .int .i64 0] [(0, 1), (1, 1)] := buildT_of zr_70 (by kernel_rfl) (by decide)
theorem sz_25 : SizeT Try.prog 25 2 := Cu (by kernel_rfl)
theorem ints_box3 {F : Heap} {b T : Nat} {x y z : Int} (h : F b = some (bx T [.int .i64 x, .int .i64 y, .int .i64 z])) : Ints F (.slice (some ⟨b, 0, none⟩) 3 3) [x, y, z] :=
 sl_box (xs := [x, y, z]) h rfl rfl (fun _ => rfl) (by decide)
theorem ints_box4 {F : Heap} {b T : Nat} {x y z w : Int} (h : F b = some (bx T [.int .i64 x, .int .i64 y, .int .i64 z, .int .i64 w])) : Ints F (.slice (some ⟨b, 0, none⟩) 4 4) [x, y, z, w] :=
 sl_box (xs := [x, y, z, w]) h rfl rfl (fun _ => rfl) (by decide)
theorem plcX_box3 {F : Heap} {b T : Nat} (h : F b = some (bx T [.string ⟨#[97]⟩, .int .i64 0, .string ⟨#[98]⟩, .int .i64 1, .string ⟨#[99]⟩, .int .i64 0])) : Sl F (.slice (some ⟨b, 0, none⟩) 3 3) 2 Plc.enc [plA, plB, plC] :=
 sl_box (xs := [plA, plB, plC]) h rfl rfl (fun _ => rfl) (by decide)
theorem ednX_box4 {F : Heap} {b T : Nat} {v1 v2 v3 v4 : Value} (h : F b = some (bx T [.string ⟨#[113, 49]⟩, .int .i64 1600, .int .i64 1600, v1, .string ⟨#[113, 50]⟩, .int .i64 1605, .int .i64 1610, v2, .string ⟨#[102, 49]⟩, .int .i64 1623, .int .i64 1623, v3, .string ⟨#[113, 51]⟩, .int .i64 1608, .int .i64 1630, v4])) : Sl F (.slice (some ⟨b, 0, none⟩) 4 4) 4 edE [(v1, edQ1), (v2, edQ2), (v3, edF1), (v4, edQ3)] :=
 sl_box (xs := [(v1, edQ1), (v2, edQ2), (v3, edF1), (v4, edQ3)]) h rfl rfl (fun _ => rfl) (by decide)
theorem spansX_box4 {F : Heap} {b T : Nat} (h : F b = some (bx T [.int .i64 1600, .int .i64 1600, .int .i64 1605, .int .i64 1610, .int .i64 1623, .int .i64 1623, .int .i64 1608, .int .i64 1630])) : Sl F (.slice (some ⟨b, 0, none⟩) 4 4) 2 spanE [(1600, 1600), (1605, 1610), (1623, 1623), (1608, 1630)] :=
 sl_box (xs := ([(1600, 1600), (1605, 1610), (1623, 1623), (1608, 1630)] : List (Int × Int))) h rfl rfl (fun _ => rfl) (by decide)
set_option maxRecDepth 100000 in
theorem printed_ok {F : Heap} (nm : ByteArray) (lo hi a b c : Int) : Ok Try.prog 95 [.string nm, .int .i64 lo, .int .i64 hi, .int .i64 a, .int .i64 b, .int .i64 c].toArray F fun u F' => ∃ v, u = .agg #[.string nm, .int .i64 lo, .int .i64 hi, v] ∧ Ints F' v [a, b, c] := by
 refine Ok.intro Try.func95 rfl Try.ntmps95 rfl fun w0 => ?_
 refine Af <| Ai fun ds => Bg rfl (B8 zr_64 rfl fun b1 hb1 nb1 => ?_)
 refine Ah <| Ac <| Af <| Ai fun ds => Aa rfl (Ag (Ak rfl <| Aj rfl)) ?_
 refine Aa rfl (Ag (Ar rfl <| Aj rfl)) ?_
 refine Aa rfl (Ag (Ar rfl <| Ak rfl <| Aj rfl)) ?_
 refine Aa rfl (El bt_60 (.cons (Ak rfl <| Ad) rfl (.cons (Ad) rfl .nil)) (.cons rfl rfl (Nat.le_of_ble_eq_true rfl) (.cons (.here) .nil) (.cons rfl rfl (Nat.le_of_ble_eq_true rfl) (.cons (.next <| .here) .nil) .nil))) ?_
 refine Aa rfl (Ag (A1 rfl <| Ak rfl <| Aj rfl)) ?_
 refine Aa rfl (Ag (A1 rfl <| Ar rfl <| Aj rfl)) ?_
 refine Aa rfl (Ag (A1 rfl <| Ar rfl <| Ak rfl <| Aj rfl)) ?_
 refine Bg rfl (B6 Bj C6 rfl (.cons (Ar rfl <| Ad) (.cons (Ak rfl <| Ad) (.cons (Ad) .nil))) rfl rfl (by decide) (by simp [Value.oneCell']) fun b2 hb2 nb2 => ?_)
 refine B4 (i := 0) rfl hb2 .here fun F3 hF4 hz5 => ?_
 have hsl6 := ints_box3 hz5
 refine Aa rfl (El bt_64 (.cons (A1 rfl <| Ar rfl <| Ak rfl <| Ad) rfl (.cons (A1 rfl <| Ad) rfl (.cons (Ad) rfl .nil))) (.cons rfl rfl (Nat.le_of_ble_eq_true rfl) (.cons (.here) .nil) (.cons rfl rfl (Nat.le_of_ble_eq_true rfl) (.cons (.next <| .here) (.cons (.next <| .next <| .here) .nil)) (.cons rfl rfl (Nat.le_of_ble_eq_true rfl) (.cons (.next <| .next <| .next <| .here) .nil) .nil)))) ?_
 refine Cf (Cd sz_64 (A6 rfl <| Ak rfl <| Ad) (Ad) (i := 0) rfl rfl rfl rfl (by simp [Value.oneCell']) (.here) ?_)
 refine Ah <| Ac <| A2 <| Au rfl (.agg En (A6 rfl <| Ak rfl <| Ad) rfl rfl (A5 0 rfl) .nil) ?_
 exact ⟨_, rfl, hsl6⟩
set_option maxRecDepth 100000 in
theorem stemX_ok {F : Heap} : Ok Try.prog 39 [].toArray F fun u F' => ∃ vp ve ps, u = .agg #[vp, ve] ∧ StmR F' vp ve ps stemX := by
 refine Ok.intro Try.func39 rfl Try.ntmps39 rfl fun w0 => ?_
 refine Af <| Ai fun ds => Bg rfl (B8 zr_25 rfl fun b1 hb1 nb1 => ?_)
 refine Ah <| Ac <| Af <| Ai fun ds => Aa rfl (El bt_70 (.cons Ab rfl .nil) (.cons rfl rfl (Nat.le_of_ble_eq_true rfl) (.cons (.here) .nil) .nil)) ?_
 refine Aa rfl (El bt_70 (.cons Ab rfl (.cons Ab rfl .nil)) (.cons rfl rfl (Nat.le_of_ble_eq_true rfl) (.cons (.here) .nil) (.cons rfl rfl (Nat.le_of_ble_eq_true rfl) (.cons (.next <| .here) .nil) .nil))) ?_
 refine Aa rfl (El bt_70 (.cons Ab rfl .nil) (.cons rfl rfl (Nat.le_of_ble_eq_true rfl) (.cons (.here) .nil) .nil)) ?_
 refine Bg rfl (x_buildN (offs := [(0, 2), (2, 2), (4, 2)]) (zl := [.string ⟨#[]⟩, .int .i64 0, .string ⟨#[]⟩, .int .i64 0, .string ⟨#[]⟩, .int .i64 0]) C5 zr_70 rfl (.cons (Ar rfl <| Ad) rfl (.cons (Ak rfl <| Ad) rfl (.cons (Ad) rfl .nil))) (by intro i p h; rcases i with _ | _ | _ | i <;> simp at h <;> subst h <;> rfl) (.cons rfl rfl (Nat.le_of_ble_eq_true rfl) (.cons (.here) (.cons (.next <| .here) .nil)) (.cons rfl rfl (Nat.le_of_ble_eq_true rfl) (.cons (.next <| .next <| .here) (.cons (.next <| .next <| .next <| .here) .nil)) (.cons rfl rfl (Nat.le_of_ble_eq_true rfl) (.cons (.next <| .next <| .next <| .next <| .here) (.cons (.next <| .next <| .next <| .next <| .next <| .here) .nil)) .nil))) (by decide) (by decide) fun b2 hb2 nb2 => ?_)
 refine B4 (i := 0) rfl hb2 .here fun F3 hF4 hz5 => ?_
 have hsl6 := plcX_box3 hz5
 refine Bg rfl (Cj bd_95 Az (.cons Ab (.cons Ab (.cons Ab (.cons Ab (.cons Ab (.cons Ab .nil)))))) (printed_ok _ _ _ _ _ _) fun v7 F8 hr9 hF10 => ?_)
 replace hsl6 := hsl6.mono hF10
 obtain ⟨vq1, rfl, hq1⟩ := hr9
 refine Bg rfl (Cj bd_95 Az (.cons Ab (.cons Ab (.cons Ab (.cons Ab (.cons Ab (.cons Ab .nil)))))) (printed_ok _ _ _ _ _ _) fun v11 F12 hr13 hF14 => ?_)
 replace hsl6 := hsl6.mono hF14
 replace hq1 := hq1.mono hF14
 obtain ⟨vq2, rfl, hq2⟩ := hr13
 refine Bg rfl (Cj bd_95 Az (.cons Ab (.cons Ab (.cons Ab (.cons Ab (.cons Ab (.cons Ab .nil)))))) (printed_ok _ _ _ _ _ _) fun v15 F16 hr17 hF18 => ?_)
 replace hsl6 := hsl6.mono hF18
 replace hq1 := hq1.mono hF18
 replace hq2 := hq2.mono hF18
 obtain ⟨vf1, rfl, hf1⟩ := hr17
 refine Bg rfl (Cj bd_95 Az (.cons Ab (.cons Ab (.cons Ab (.cons Ab (.cons Ab (.cons Ab .nil)))))) (printed_ok _ _ _ _ _ _) fun v19 F20 hr21 hF22 => ?_)
 replace hsl6 := hsl6.mono hF22
 replace hq1 := hq1.mono hF22
 replace hq2 := hq2.mono hF22
 replace hf1 := hf1.mono hF22
 obtain ⟨vq3, rfl, hq3⟩ := hr21
 refine Bg rfl (x_buildN (offs := [(0, 4), (4, 4), (8, 4), (12, 4)]) (zl := [.string ⟨#[]⟩, .int .i64 0, .int .i64 0, .slice none 0 0, .string ⟨#[]⟩, .int .i64 0, .int .i64 0, .slice none 0 0, .string ⟨#[]⟩, .int .i64 0, .int .i64 0, .slice none 0 0, .string ⟨#[]⟩, .int .i64 0, .int .i64 0, .slice none 0 0]) B5 zr_64 rfl (.cons (Ar rfl <| Ak rfl <| Ad) rfl (.cons (Ar rfl <| Ad) rfl (.cons (Ak rfl <| Ad) rfl (.cons (Ad) rfl .nil)))) (by intro i p h; rcases i with _ | _ | _ | _ | i <;> simp at h <;> subst h <;> rfl) (.cons rfl rfl (Nat.le_of_ble_eq_true rfl) (.cons (.here) (.cons (.next <| .here) (.cons (.next <| .next <| .here) (.cons (.next <| .next <| .next <| .here) .nil)))) (.cons rfl rfl (Nat.le_of_ble_eq_true rfl) (.cons (.next <| .next <| .next <| .next <| .here) (.cons (.next <| .next <| .next <| .next <| .next <| .here) (.cons (.next <| .next <| .next <| .next <| .next <| .next <| .here) (.cons (.next <| .next <| .next <| .next <| .next <| .next <| .next <| .here) .nil)))) (.cons rfl rfl (Nat.le_of_ble_eq_true rfl) (.cons (.next <| .next <| .next <| .next <| .next <| .next <| .next <| .next <| .here) (.cons (.next <| .next <| .next <| .next <| .next <| .next <| .next <| .next <| .next <| .here) (.cons (.next <| .next <| .next <| .next <| .next <| .next <| .next <| .next <| .next <| .next <| .here) (.cons (.next <| .next <| .next <| .next <| .next <| .next <| .next <| .next <| .next <| .next <| .next <| .here) .nil)))) (.cons rfl rfl (Nat.le_of_ble_eq_true rfl) (.cons (.next <| .next <| .next <| .next <| .next <| .next <| .next <| .next <| .next <| .next <| .next <| .next <| .here) (.cons (.next <| .next <| .next <| .next <| .next <| .next <| .next <| .next <| .next <| .next <| .next <| .next <| .next <| .here) (.cons (.next <| .next <| .next <| .next <| .next <| .next <| .next <| .next <| .next <| .next <| .next <| .next <| .next <| .next <| .here) (.cons (.next <| .next <| .next <| .next <| .next <| .next <| .next <| .next <| .next <| .next <| .next <| .next <| .next <| .next <| .next <| .here) .nil)))) .nil)))) (by decide) (by decide) fun b23 hb23 nb23 => ?_)
 refine B4 (i := 0) rfl hb23 .here fun F24 hF25 hz26 => ?_
 replace hsl6 := hsl6.mono hF25
 replace hq1 := hq1.mono hF25
 replace hq2 := hq2.mono hF25
 replace hf1 := hf1.mono hF25
 replace hq3 := hq3.mono hF25
 have hsl27 := ednX_box4 hz26
 refine Aa rfl (El bt_25 (.cons (A1 rfl <| Ak rfl <| Ad) rfl (.cons (Ad) rfl .nil)) (.cons rfl rfl (Nat.le_of_ble_eq_true rfl) (.cons (.here) .nil) (.cons rfl rfl (Nat.le_of_ble_eq_true rfl) (.cons (.next <| .here) .nil) .nil))) ?_
 refine Cf (Cd sz_25 (A6 rfl <| Ar rfl <| Ad) (Ad) (i := 0) rfl rfl rfl rfl (by simp [Value.oneCell']) (.here) ?_)
 refine Ah <| Ac <| A2 <| Au rfl (.agg B7 (A6 rfl <| Ar rfl <| Ad) rfl rfl (A5 0 rfl) .nil) ?_
 refine ⟨_, _, [(vq1, edQ1), (vq2, edQ2), (vf1, edF1), (vq3, edQ3)], rfl, ⟨hsl6, hsl27, ?_, rfl⟩⟩
 intro p hp
 simp only [List.mem_cons, List.not_mem_nil, or_false] at hp
 rcases hp with rfl | rfl | rfl | rfl
 · exact hq1
 · exact hq2
 · exact hf1
 · exact hq3
set_option maxRecDepth 100000 in
theorem awake_ok {F : Heap} : Ok Try.prog 26 [].toArray F fun u _ => u = .bool true := by
 refine Ok.intro Try.func26 rfl Try.ntmps26 rfl fun w0 => ?_
 refine Af <| Ai fun ds => Aa rfl (Ae Ab) ?_
 refine Ah <| Ac <| Af <| Ai fun ds => Bg rfl (Cj bd_39 Az .nil stemX_ok fun v1 F2 hr3 hF4 => ?_)
 obtain ⟨vp, ve, ps, rfl, hr⟩ := hr3
 refine Bg rfl (B8 zr_25 rfl fun b5 hb5 nb5 => ?_)
 refine Cf (Cd sz_25 (Ad) (Ak rfl <| Ad) (i := 0) rfl rfl rfl rfl hr.ones (.here) ?_)
 refine Ah <| Ac <| Af <| Ai fun ds => Bg rfl (B6 Bj C6 rfl (.cons Ab (.cons Ab (.cons Ab (.cons Ab .nil)))) rfl rfl (by decide) (by simp [Value.oneCell']) fun b6 hb6 nb6 => ?_)
 refine B4 (i := 0) rfl hb6 .here fun F7 hF8 hz9 => ?_
 replace hr := hr.mono hF8
 have hsl10 := ints_box4 hz9
 refine Aa rfl (Ae (Ad)) ?_
 refine Ah <| Ac <| Af <| Ai fun ds => Aa rfl (A9 B7 (Ar rfl <| Ad) rfl rfl (A5 0 rfl)) ?_
 refine Bg rfl (Cj bd_18 Az (.cons (Ad) (.cons Ab (.cons Ab .nil))) ((apart_top_ok hr 0 2).mono fun u F2 _ h => (by rw [ev_p1] at h; exact h : ∃ ws, u = .tuple #[ws, .int .i64 0] ∧ Nats F2 ws [0, 1])) fun v11 F12 hr13 hF14 => ?_)
 replace hr := hr.mono hF14
 replace hsl10 := hsl10.mono hF14
 obtain ⟨hq1_, rfl, hq1⟩ := hr13
 refine Aa rfl (Ag (Ad)) ?_
 refine Aa rfl (Ay (Ad) rfl) ?_
 refine Aa rfl (Ay (Ak rfl <| Ad) rfl) ?_
 refine Aa rfl (Ae (Ak rfl <| Ad)) ?_
 refine Aa rfl (Ae (Ak rfl <| Ad)) ?_
 refine Ah <| Ac <| Af <| Ai fun ds => Aa rfl (A9 B7 (A6 rfl <| Ak rfl <| Ad) rfl rfl (A5 0 rfl)) ?_
 refine Bg rfl (B6 Bj C6 rfl (.cons Ab (.cons Ab (.cons Ab (.cons Ab .nil)))) rfl rfl (by decide) (by simp [Value.oneCell']) fun b15 hb15 nb15 => ?_)
 refine B4 (i := 0) rfl hb15 .here fun F16 hF17 hz18 => ?_
 replace hr := hr.mono hF17
 replace hsl10 := hsl10.mono hF17
 replace hq1 := hq1.mono hF17
 have hsl19 := ints_box4 hz18
 refine Bx rfl (Bb bd_21 Az (.cons (Ak rfl <| Ad) (.cons (Ad) .nil)) (De hr (l := starX) hsl19) (fun _ _ h => h.trans (show _ = Value.tuple #[.int .i64 4, .int .i64 0] by unfold changesEV; rw [ev_c1]))) ?_
 refine Aa rfl (Ag (Ad)) ?_
 refine Aa rfl (Ay (Ad) rfl) ?_
 refine Aa rfl (Ay (Ak rfl <| Ad) rfl) ?_
 refine Aa rfl (Ae (Ak rfl <| Ad)) ?_
 refine Aa rfl (Ae (Ak rfl <| Ad)) ?_
 refine Ah <| Ac <| Af <| Ai fun ds => Aa rfl (A9 B7 (A3 rfl <| Ak rfl <| Ad) rfl rfl (A5 0 rfl)) ?_
 refine Bg rfl (B6 Bj C6 rfl (.cons Ab (.cons Ab (.cons Ab (.cons Ab .nil)))) rfl rfl (by decide) (by simp [Value.oneCell']) fun b20 hb20 nb20 => ?_)
 refine B4 (i := 0) rfl hb20 .here fun F21 hF22 hz23 => ?_
 replace hr := hr.mono hF22
 replace hsl10 := hsl10.mono hF22
 replace hq1 := hq1.mono hF22
 have hsl24 := ints_box4 hz23
 refine Bx rfl (Bb bd_21 Az (.cons (Ak rfl <| Ad) (.cons (Ad) .nil)) (De hr (l := lineX) hsl24) (fun _ _ h => h.trans (show _ = Value.tuple #[.int .i64 0, .int .i64 9] by unfold changesEV; rw [ev_c2]))) ?_
 refine Aa rfl (Ag (Ad)) ?_
 refine Aa rfl (Ay (Ad) rfl) ?_
 refine Aa rfl (Ay (Ak rfl <| Ad) rfl) ?_
 refine Aa rfl (Ae (Ak rfl <| Ad)) ?_
 refine Aa rfl (Ae (Ak rfl <| Ad)) ?_
 refine Ah <| Ac <| Af <| Ai fun ds => Aa rfl (A9 B7 (A3 rfl <| A6 rfl <| Ak rfl <| Ad) rfl rfl (A5 0 rfl)) ?_
 refine Bg rfl (B6 Bj C6 rfl (.cons Ab (.cons Ab (.cons Ab (.cons Ab .nil)))) rfl rfl (by decide) (by simp [Value.oneCell']) fun b25 hb25 nb25 => ?_)
 refine B4 (i := 0) rfl hb25 .here fun F26 hF27 hz28 => ?_
 replace hr := hr.mono hF27
 replace hsl10 := hsl10.mono hF27
 replace hq1 := hq1.mono hF27
 have hsl29 := ints_box4 hz28
 refine Bg rfl (Cj bd_23 Az (.cons (Ak rfl <| Ad) (.cons (Ad) .nil)) ((years_top_ok hr (l := twoX) hsl29).mono fun u F2 _ h => (by rw [ev_y1] at h; exact h : ∃ ws, u = .tuple #[ws, .int .i64 0] ∧ (fun F v l => Sl F v 2 spanE l) F2 ws [(1600, 1600), (1605, 1610), (1623, 1623), (1608, 1630)])) fun v30 F31 hr32 hF33 => ?_)
 replace hr := hr.mono hF33
 replace hsl10 := hsl10.mono hF33
 replace hq1 := hq1.mono hF33
 obtain ⟨hq2_, rfl, hq2⟩ := hr32
 refine Aa rfl (Ag (Ad)) ?_
 refine Aa rfl (Ay (Ad) rfl) ?_
 refine Aa rfl (Ay (Ak rfl <| Ad) rfl) ?_
 refine Aa rfl (Ae (Ak rfl <| Ad)) ?_
 refine Aa rfl (Ae (Ak rfl <| Ad)) ?_
 refine Ah <| Ac <| Af <| Ai fun ds => Aa rfl (A9 B7 (Bm rfl <| Ak rfl <| Ad) rfl rfl (A5 0 rfl)) ?_
 refine Bg rfl (Cj bd_27 Az (.cons (Ad) .nil) ((best_top_ok hr).mono fun u F2 _ h => (by rw [ev_b1] at h; exact h : ∃ ws, u = .tuple #[ws, .int .i64 3, .int .i64 2, .int .i64 0] ∧ Ints F2 ws bestX)) fun v34 F35 hr36 hF37 => ?_)
 replace hr := hr.mono hF37
 replace hsl10 := hsl10.mono hF37
 replace hq1 := hq1.mono hF37
 replace hq2 := hq2.mono hF37
 obtain ⟨hq3_, rfl, hq3⟩ := hr36
 refine Aa rfl (Ag (Ad)) ?_
 refine Aa rfl (Ay (Ad) rfl) ?_
 refine Aa rfl (Ay (Ak rfl <| Ad) rfl) ?_
 refine Aa rfl (Ay (Ar rfl <| Ad) rfl) ?_
 refine Aa rfl (Ay (Ar rfl <| Ak rfl <| Ad) rfl) ?_
 refine Aa rfl (Ae (Ar rfl <| Ak rfl <| Ad)) ?_
 refine Aa rfl (Ae (Ar rfl <| Ak rfl <| Ad)) ?_
 refine Aa rfl (Ae (Ar rfl <| Ak rfl <| Ad)) ?_
 refine Aa rfl (Ae (Ar rfl <| Ak rfl <| Ad)) ?_
 refine Ah <| Ac <| Af <| Ai fun ds => Aa rfl (A9 B7 (Bm rfl <| A6 rfl <| A1 rfl <| Ad) rfl rfl (A5 0 rfl)) ?_
 refine Bg rfl (Cj bd_29 Az (.cons (Ad) .nil) ((first_top_ok hr).mono fun u F2 _ h => (by rw [ev_f1] at h; exact h : ∃ ws, u = .tuple #[ws, .int .i64 0] ∧ Nats F2 ws [0])) fun v38 F39 hr40 hF41 => ?_)
 replace hr := hr.mono hF41
 replace hsl10 := hsl10.mono hF41
 replace hq1 := hq1.mono hF41
 replace hq2 := hq2.mono hF41
 replace hq3 := hq3.mono hF41
 obtain ⟨hq4_, rfl, hq4⟩ := hr40
 refine Aa rfl (Ag (Ad)) ?_
 refine Aa rfl (Ay (Ad) rfl) ?_
 refine Aa rfl (Ay (Ak rfl <| Ad) rfl) ?_
 refine Aa rfl (Ae (Ak rfl <| Ad)) ?_
 refine Aa rfl (Ae (Ak rfl <| Ad)) ?_
 refine Ah <| Ac <| Af <| Ai fun ds => Aa rfl (A9 B7 (Bm rfl <| A3 rfl <| Ar rfl <| Ak rfl <| Ad) rfl rfl (A5 0 rfl)) ?_
 refine Bx rfl (Bb bd_31 Az (.cons (Ad) (.cons Ab (.cons Ab .nil))) (from_top_ok hr 1 2) (fun _ _ h => h.trans (show _ = Value.tuple #[.int .i64 1, .int .i64 0] by unfold fromV; rw [ev_m1]))) ?_
 refine Aa rfl (Ag (Ad)) ?_
 refine Aa rfl (Ay (Ad) rfl) ?_
 refine Aa rfl (Ay (Ak rfl <| Ad) rfl) ?_
 refine Aa rfl (Ae (Ak rfl <| Ad)) ?_
 refine Aa rfl (Ae (Ak rfl <| Ad)) ?_
 refine Ah <| Ac <| Af <| Ai fun ds => Aa rfl (A9 B7 (Bm rfl <| A3 rfl <| A6 rfl <| Ar rfl <| Ad) rfl rfl (A5 0 rfl)) ?_
 refine Aa rfl (Ag (Bm rfl <| A3 rfl <| A6 rfl <| Ak rfl <| Ad)) ?_
 refine Bg rfl (Cj bd_35 Az (.cons (Ak rfl <| Ad) (.cons (Ad) (.cons Ab (.cons Ab .nil)))) ((reading_top_ok hr (l := bestX) hsl10 3 0).mono fun u F2 _ h => (by rw [ev_r1] at h; exact h : ∃ ws, u = .tuple #[ws, .int .i64 0] ∧ Ints F2 ws [1])) fun v42 F43 hr44 hF45 => ?_)
 replace hr := hr.mono hF45
 replace hsl10 := hsl10.mono hF45
 replace hq1 := hq1.mono hF45
 replace hq2 := hq2.mono hF45
 replace hq3 := hq3.mono hF45
 replace hq4 := hq4.mono hF45
 obtain ⟨hq5_, rfl, hq5⟩ := hr44
 refine Aa rfl (Ag (Ad)) ?_
 refine Aa rfl (Ay (Ad) rfl) ?_
 refine Aa rfl (Ay (Ak rfl <| Ad) rfl) ?_
 refine Aa rfl (Ae (Ak rfl <| Ad)) ?_
 refine Aa rfl (Ae (Ak rfl <| Ad)) ?_
 refine Ah <| Ac <| Af <| Ai fun ds => Aa rfl (A9 B7 (Bm rfl <| Bm rfl <| Ar rfl <| Ad) rfl rfl (A5 0 rfl)) ?_
 refine Bg rfl (Cj bd_33 Az (.cons (Ad) .nil) ((clean_top_ok hr).mono fun u F2 _ h => (by rw [ev_l1] at h; exact h : ∃ ws, u = .tuple #[ws, .int .i64 0] ∧ Nats F2 ws [])) fun v46 F47 hr48 hF49 => ?_)
 replace hr := hr.mono hF49
 replace hsl10 := hsl10.mono hF49
 replace hq1 := hq1.mono hF49
 replace hq2 := hq2.mono hF49
 replace hq3 := hq3.mono hF49
 replace hq4 := hq4.mono hF49
 replace hq5 := hq5.mono hF49
 obtain ⟨hq6_, rfl, hq6⟩ := hr48
 refine Aa rfl (Ag (Ad)) ?_
 refine Aa rfl (Ay (Ad) rfl) ?_
 refine Aa rfl (Ay (Ak rfl <| Ad) rfl) ?_
 refine Aa rfl (Ae (Ak rfl <| Ad)) ?_
 refine Aa rfl (Ae (Ak rfl <| Ad)) ?_
 refine Ah <| Ac <| Af <| Ai fun ds => Aa rfl (A9 B7 (Bm rfl <| Bm rfl <| A6 rfl <| Ak rfl <| Ad) rfl rfl (A5 0 rfl)) ?_
 refine Bg rfl (B6 Bj C6 rfl (.cons Ab (.cons Ab (.cons Ab (.cons Ab .nil)))) rfl rfl (by decide) (by simp [Value.oneCell']) fun b50 hb50 nb50 => ?_)
 refine B4 (i := 0) rfl hb50 .here fun F51 hF52 hz53 => ?_
 replace hr := hr.mono hF52
 replace hsl10 := hsl10.mono hF52
 replace hq1 := hq1.mono hF52
 replace hq2 := hq2.mono hF52
 replace hq3 := hq3.mono hF52
 replace hq4 := hq4.mono hF52
 replace hq5 := hq5.mono hF52
 replace hq6 := hq6.mono hF52
 have hsl54 := ints_box4 hz53
 refine Bx rfl (Bb bd_37 Az (.cons (Ak rfl <| Ad) (.cons (Ad) (.cons Ab .nil))) (second_top_ok hr (l := starX) hsl54 2) (fun _ _ h => h.trans (show _ = Value.tuple #[.int .i64 1, .int .i64 1, .int .i64 0] by unfold secV; rw [ev_s1]))) ?_
 refine Aa rfl (Ag (Ad)) ?_
 refine Aa rfl (Ay (Ad) rfl) ?_
 refine Aa rfl (Ay (Ak rfl <| Ad) rfl) ?_
 refine Aa rfl (Ay (Ar rfl <| Ad) rfl) ?_
 refine Aa rfl (Ae (Ar rfl <| Ad)) ?_
 refine Aa rfl (Ae (Ar rfl <| Ad)) ?_
 refine Aa rfl (Ae (Ar rfl <| Ad)) ?_
 refine Ah <| Ac <| Af <| Ai fun ds => Aa rfl (A9 B7 (Bm rfl <| Bm rfl <| A3 rfl <| Ar rfl <| Ak rfl <| Ad) rfl rfl (A5 0 rfl)) ?_
 refine Aa rfl (Ag (Bm rfl <| Bm rfl <| A3 rfl <| Ar rfl <| Ad)) ?_
 refine Bx rfl (Bb bd_37 Az (.cons (Ak rfl <| Ad) (.cons (Ad) (.cons Ab .nil))) (second_top_ok hr (l := bestX) hsl10 2) (fun _ _ h => h.trans (show _ = Value.tuple #[.int .i64 0, .int .i64 0, .int .i64 8] by unfold secV; rw [ev_s2]))) ?_
 refine Aa rfl (Ag (Ad)) ?_
 refine Aa rfl (Ay (Ad) rfl) ?_
 refine Aa rfl (Ay (Ak rfl <| Ad) rfl) ?_
 refine Aa rfl (Ay (Ar rfl <| Ad) rfl) ?_
 refine Aa rfl (Ae (Ar rfl <| Ad)) ?_
 refine Aa rfl (Ae (Ar rfl <| Ad)) ?_
 refine Aa rfl (Ae (Ar rfl <| Ad)) ?_
 refine Ah <| Ac <| Af <| Ai fun ds => Aa rfl (Ag (Bm rfl <| Bm rfl <| A3 rfl <| A1 rfl <| Ad)) ?_
 refine Aa rfl (Bu (Ad) Ab) ?_
 refine Aa rfl (Ag (Ad)) ?_
 refine As rfl rfl (Ad) (by first | rfl | decide) ?_
 refine Aa rfl (Ag (Bm rfl <| Bm rfl <| A6 rfl <| A1 rfl <| Ar rfl <| Ak rfl <| Ad)) ?_
 refine As rfl rfl (Ak rfl <| Ad) (by first | rfl | decide) ?_
 refine Aa rfl (Bu (Ad) Ab) ?_
 refine Aa rfl (A4 (Ar rfl <| Ad) (by first | rfl | decide) (Ad)) ?_
 refine Aa rfl (Ag (Ad)) ?_
 refine As rfl rfl (Ad) (by first | rfl | decide) ?_
 refine Aa rfl (Ag (Bm rfl <| Bm rfl <| Ar rfl <| Ak rfl <| Ad)) ?_
 refine As rfl rfl (Ak rfl <| Ad) (by first | rfl | decide) ?_
 refine Aa rfl (Bu (Ad) Ab) ?_
 refine Aa rfl (A4 (Ar rfl <| Ad) (by first | rfl | decide) (Ad)) ?_
 refine Aa rfl (Ag (Ad)) ?_
 refine As rfl rfl (Ad) (by first | rfl | decide) ?_
 refine Aa rfl (Ag (Bm rfl <| A3 rfl <| A6 rfl <| A1 rfl <| Ad)) ?_
 refine As rfl rfl (Ak rfl <| Ad) (by first | rfl | decide) ?_
 refine Aa rfl (Bu (Ad) Ab) ?_
 refine Aa rfl (A4 (Ar rfl <| Ad) (by first | rfl | decide) (Ad)) ?_
 refine Aa rfl (Ag (Ad)) ?_
 refine As rfl rfl (Ad) (by first | rfl | decide) ?_
 refine Aa rfl (Ag (Bm rfl <| A3 rfl <| A6 rfl <| Ak rfl <| Ad)) ?_
 refine As rfl rfl (Ak rfl <| Ad) (by first | rfl | decide) ?_
 refine Aa rfl (Bu (Ad) Ab) ?_
 refine Aa rfl (A4 (Ar rfl <| Ad) (by first | rfl | decide) (Ad)) ?_
 refine Aa rfl (Ag (Ad)) ?_
 refine As rfl rfl (Ad) (by first | rfl | decide) ?_
 refine Aa rfl (Ag (Bm rfl <| A3 rfl <| A1 rfl <| Ar rfl <| Ad)) ?_
 refine As rfl rfl (Ak rfl <| Ad) (by first | rfl | decide) ?_
 refine Aa rfl (Bu (Ad) Ab) ?_
 refine Aa rfl (A4 (Ar rfl <| Ad) (by first | rfl | decide) (Ad)) ?_
 refine Aa rfl (Ag (Ad)) ?_
 refine As rfl rfl (Ad) (by first | rfl | decide) ?_
 refine Aa rfl (Ag (Bm rfl <| A3 rfl <| Ar rfl <| Ad)) ?_
 refine As rfl rfl (Ak rfl <| Ad) (by first | rfl | decide) ?_
 refine Aa rfl (Bu (Ad) Ab) ?_
 refine Aa rfl (A4 (Ar rfl <| Ad) (by first | rfl | decide) (Ad)) ?_
 refine Aa rfl (Ag (Ad)) ?_
 refine As rfl rfl (Ad) (by first | rfl | decide) ?_
 refine Aa rfl (Ag (Bm rfl <| A6 rfl <| A1 rfl <| Ar rfl <| Ak rfl <| Ad)) ?_
 refine As rfl rfl (Ak rfl <| Ad) (by first | rfl | decide) ?_
 refine Aa rfl (Bu (Ad) Ab) ?_
 refine Aa rfl (A4 (Ar rfl <| Ad) (by first | rfl | decide) (Ad)) ?_
 refine Aa rfl (Ag (Ad)) ?_
 refine As rfl rfl (Ad) (by first | rfl | decide) ?_
 refine Aa rfl (Ag (Bm rfl <| A6 rfl <| Ak rfl <| Ad)) ?_
 refine As rfl rfl (Ak rfl <| Ad) (by first | rfl | decide) ?_
 refine Aa rfl (Bu (Ad) Ab) ?_
 refine Aa rfl (A4 (Ar rfl <| Ad) (by first | rfl | decide) (Ad)) ?_
 refine Aa rfl (Ag (Ad)) ?_
 refine As rfl rfl (Ad) (by first | rfl | decide) ?_
 refine Aa rfl (Ag (Bm rfl <| Bm rfl <| Bm rfl <| A1 rfl <| Ar rfl <| Ak rfl <| Ad)) ?_
 refine As rfl rfl (Ak rfl <| Ad) (by first | rfl | decide) ?_
 refine Aa rfl (Bu (Ad) Ab) ?_
 refine Aa rfl (A4 (Ar rfl <| Ad) (by first | rfl | decide) (Ad)) ?_
 refine Aa rfl (Ag (Ad)) ?_
 refine As rfl rfl (Ad) (by first | rfl | decide) ?_
 refine Aa rfl (Ag (Bm rfl <| A1 rfl <| Ar rfl <| Ak rfl <| Ad)) ?_
 refine As rfl rfl (Ak rfl <| Ad) (by first | rfl | decide) ?_
 refine Aa rfl (Bu (Ad) Ab) ?_
 refine Aa rfl (A4 (Ar rfl <| Ad) (by first | rfl | decide) (Ad)) ?_
 refine Aa rfl (Ag (Ad)) ?_
 refine As rfl rfl (Ad) (by first | rfl | decide) ?_
 refine Aa rfl (Ag (Bm rfl <| Bm rfl <| Bm rfl <| Bm rfl <| Ad)) ?_
 refine As rfl rfl (Ak rfl <| Ad) (by first | rfl | decide) ?_
 refine Bg rfl (B6 Bj C6 rfl (.cons Ab (.cons Ab .nil)) rfl rfl (by decide) (by simp [Value.oneCell']) fun b55 hb55 nb55 => ?_)
 refine B4 (i := 0) rfl hb55 .here fun F56 hF57 hz58 => ?_
 replace hsl10 := hsl10.mono hF57
 replace hq1 := hq1.mono hF57
 replace hq2 := hq2.mono hF57
 replace hq3 := hq3.mono hF57
 replace hq4 := hq4.mono hF57
 replace hq5 := hq5.mono hF57
 replace hq6 := hq6.mono hF57
 have hsl59 := ints_box2 hz58
 refine As rfl rfl (Ar rfl <| Ad) (by first | rfl | decide) ?_
 refine Bx rfl (Bb bd_20 Az (.cons (Ak rfl <| Ad) (.cons (Ad) .nil)) (refInts_ok (Nats.ints hq1) hsl59) (fun _ _ h => h)) ?_
 refine Aa rfl (A4 (Ar rfl <| Ak rfl <| Ad) (by first | rfl | decide) (Ad)) ?_
 refine Aa rfl (Ag (Ad)) ?_
 refine As rfl rfl (Ad) (by first | rfl | decide) ?_
 refine Aa rfl (Ag (Bm rfl <| Bm rfl <| Bm rfl <| A3 rfl <| A6 rfl <| A1 rfl <| Ak rfl <| Ad)) ?_
 refine As rfl rfl (Ak rfl <| Ad) (by first | rfl | decide) ?_
 refine Aa rfl (Bu (Ad) Ab) ?_
 refine Aa rfl (A4 (Ar rfl <| Ad) (by first | rfl | decide) (Ad)) ?_
 refine Aa rfl (Ag (Ad)) ?_
 refine As rfl rfl (Ad) (by first | rfl | decide) ?_
 refine Aa rfl (Ag (Bm rfl <| Bm rfl <| Bm rfl <| A3 rfl <| Ak rfl <| Ad)) ?_
 refine As rfl rfl (Ak rfl <| Ad) (by first | rfl | decide) ?_
 refine Aa rfl (El bt_60 (.cons Ab rfl (.cons Ab rfl .nil)) (.cons rfl rfl (Nat.le_of_ble_eq_true rfl) (.cons (.here) .nil) (.cons rfl rfl (Nat.le_of_ble_eq_true rfl) (.cons (.next <| .here) .nil) .nil))) ?_
 refine As rfl rfl (Ar rfl <| Ad) (by first | rfl | decide) ?_
 refine Aa rfl (El bt_60 (.cons Ab rfl (.cons Ab rfl .nil)) (.cons rfl rfl (Nat.le_of_ble_eq_true rfl) (.cons (.here) .nil) (.cons rfl rfl (Nat.le_of_ble_eq_true rfl) (.cons (.next <| .here) .nil) .nil))) ?_
 refine As rfl rfl (Ar rfl <| Ak rfl <| Ad) (by first | rfl | decide) ?_
 refine Aa rfl (El bt_60 (.cons Ab rfl (.cons Ab rfl .nil)) (.cons rfl rfl (Nat.le_of_ble_eq_true rfl) (.cons (.here) .nil) (.cons rfl rfl (Nat.le_of_ble_eq_true rfl) (.cons (.next <| .here) .nil) .nil))) ?_
 refine As rfl rfl (A1 rfl <| Ad) (by first | rfl | decide) ?_
 refine Aa rfl (El bt_60 (.cons Ab rfl (.cons Ab rfl .nil)) (.cons rfl rfl (Nat.le_of_ble_eq_true rfl) (.cons (.here) .nil) (.cons rfl rfl (Nat.le_of_ble_eq_true rfl) (.cons (.next <| .here) .nil) .nil))) ?_
 refine As rfl rfl (A1 rfl <| Ak rfl <| Ad) (by first | rfl | decide) ?_
 refine Bg rfl (x_buildN (offs := [(0, 2), (2, 2), (4, 2), (6, 2)]) (zl := [.int .i64 0, .int .i64 0, .int .i64 0, .int .i64 0, .int .i64 0, .int .i64 0, .int .i64 0, .int .i64 0]) Ei zr_60 rfl (.cons (Ar rfl <| Ak rfl <| Ad) rfl (.cons (Ar rfl <| Ad) rfl (.cons (Ak rfl <| Ad) rfl (.cons (Ad) rfl .nil)))) (by intro i p h; rcases i with _ | _ | _ | _ | i <;> simp at h <;> subst h <;> rfl) (.cons rfl rfl (Nat.le_of_ble_eq_true rfl) (.cons (.here) (.cons (.next <| .here) .nil)) (.cons rfl rfl (Nat.le_of_ble_eq_true rfl) (.cons (.next <| .next <| .here) (.cons (.next <| .next <| .next <| .here) .nil)) (.cons rfl rfl (Nat.le_of_ble_eq_true rfl) (.cons (.next <| .next <| .next <| .next <| .here) (.cons (.next <| .next <| .next <| .next <| .next <| .here) .nil)) (.cons rfl rfl (Nat.le_of_ble_eq_true rfl) (.cons (.next <| .next <| .next <| .next <| .next <| .next <| .here) (.cons (.next <| .next <| .next <| .next <| .next <| .next <| .next <| .here) .nil)) .nil)))) (by decide) (by decide) fun b60 hb60 nb60 => ?_)
 refine B4 (i := 0) rfl hb60 .here fun F61 hF62 hz63 => ?_
 replace hsl10 := hsl10.mono hF62
 replace hq2 := hq2.mono hF62
 replace hq3 := hq3.mono hF62
 replace hq4 := hq4.mono hF62
 replace hq5 := hq5.mono hF62
 replace hq6 := hq6.mono hF62
 have hsl64 := spansX_box4 hz63
 refine As rfl rfl (A1 rfl <| Ar rfl <| Ad) (by first | rfl | decide) ?_
 refine Bx rfl (Bb bd_25 Az (.cons (A1 rfl <| Ak rfl <| Ad) (.cons (Ad) .nil)) (refSpans_ok hq2 hsl64) (fun _ _ h => h)) ?_
 refine Aa rfl (A4 (A1 rfl <| Ar rfl <| Ak rfl <| Ad) (by first | rfl | decide) (Ad)) ?_
 refine Aa rfl (Ag (Ad)) ?_
 refine As rfl rfl (Ad) (by first | rfl | decide) ?_
 refine Aa rfl (Ag (Bm rfl <| Bm rfl <| Bm rfl <| A3 rfl <| Ak rfl <| Ad)) ?_
 refine As rfl rfl (Ak rfl <| Ad) (by first | rfl | decide) ?_
 refine Aa rfl (Ag (Bm rfl <| Bm rfl <| Bm rfl <| Bm rfl <| A3 rfl <| A6 rfl <| Ak rfl <| Ad)) ?_
 refine As rfl rfl (Ar rfl <| Ad) (by first | rfl | decide) ?_
 refine Bx rfl (Bb bd_20 Az (.cons (Ak rfl <| Ad) (.cons (Ad) .nil)) (refInts_ok hq3 hsl10) (fun _ _ h => h)) ?_
 refine Aa rfl (A4 (Ar rfl <| Ak rfl <| Ad) (by first | rfl | decide) (Ad)) ?_
 refine Aa rfl (Ag (Ad)) ?_
 refine As rfl rfl (Ad) (by first | rfl | decide) ?_
 refine Aa rfl (Ag (Bm rfl <| Bm rfl <| Bm rfl <| A3 rfl <| A1 rfl <| Ak rfl <| Ad)) ?_
 refine As rfl rfl (Ak rfl <| Ad) (by first | rfl | decide) ?_
 refine Aa rfl (Bu (Ad) Ab) ?_
 refine Aa rfl (A4 (Ar rfl <| Ad) (by first | rfl | decide) (Ad)) ?_
 refine Aa rfl (Ag (Ad)) ?_
 refine As rfl rfl (Ad) (by first | rfl | decide) ?_
 refine Aa rfl (Ag (Bm rfl <| Bm rfl <| Bm rfl <| A3 rfl <| A6 rfl <| Ad)) ?_
 refine As rfl rfl (Ak rfl <| Ad) (by first | rfl | decide) ?_
 refine Aa rfl (Bu (Ad) Ab) ?_
 refine Aa rfl (A4 (Ar rfl <| Ad) (by first | rfl | decide) (Ad)) ?_
 refine Aa rfl (Ag (Ad)) ?_
 refine As rfl rfl (Ad) (by first | rfl | decide) ?_
 refine Aa rfl (Ag (Bm rfl <| Bm rfl <| Bm rfl <| A3 rfl <| A1 rfl <| Ak rfl <| Ad)) ?_
 refine As rfl rfl (Ak rfl <| Ad) (by first | rfl | decide) ?_
 refine Bg rfl (B6 Bj C6 rfl (.cons Ab .nil) rfl rfl (by decide) (by simp [Value.oneCell']) fun b65 hb65 nb65 => ?_)
 refine B4 (i := 0) rfl hb65 .here fun F66 hF67 hz68 => ?_
 replace hq4 := hq4.mono hF67
 replace hq5 := hq5.mono hF67
 replace hq6 := hq6.mono hF67
 have hsl69 := Ct hz68
 refine As rfl rfl (Ar rfl <| Ad) (by first | rfl | decide) ?_
 refine Bx rfl (Bb bd_20 Az (.cons (Ak rfl <| Ad) (.cons (Ad) .nil)) (refInts_ok (Nats.ints hq4) hsl69) (fun _ _ h => h)) ?_
 refine Aa rfl (A4 (Ar rfl <| Ak rfl <| Ad) (by first | rfl | decide) (Ad)) ?_
 refine Aa rfl (Ag (Ad)) ?_
 refine As rfl rfl (Ad) (by first | rfl | decide) ?_
 refine Aa rfl (Ag (Bm rfl <| Bm rfl <| Bm rfl <| A3 rfl <| Ar rfl <| Ak rfl <| Ad)) ?_
 refine As rfl rfl (Ak rfl <| Ad) (by first | rfl | decide) ?_
 refine Aa rfl (Bu (Ad) Ab) ?_
 refine Aa rfl (A4 (Ar rfl <| Ad) (by first | rfl | decide) (Ad)) ?_
 refine Aa rfl (Ag (Ad)) ?_
 refine As rfl rfl (Ad) (by first | rfl | decide) ?_
 refine Aa rfl (Ag (Bm rfl <| Bm rfl <| Bm rfl <| A6 rfl <| A1 rfl <| Ar rfl <| Ak rfl <| Ad)) ?_
 refine As rfl rfl (Ak rfl <| Ad) (by first | rfl | decide) ?_
 refine Bg rfl (B6 Bj C6 rfl (.cons Ab .nil) rfl rfl (by decide) (by simp [Value.oneCell']) fun b70 hb70 nb70 => ?_)
 refine B4 (i := 0) rfl hb70 .here fun F71 hF72 hz73 => ?_
 replace hq5 := hq5.mono hF72
 replace hq6 := hq6.mono hF72
 have hsl74 := Ct hz73
 refine As rfl rfl (Ar rfl <| Ad) (by first | rfl | decide) ?_
 refine Bx rfl (Bb bd_20 Az (.cons (Ak rfl <| Ad) (.cons (Ad) .nil)) (refInts_ok hq5 hsl74) (fun _ _ h => h)) ?_
 refine Aa rfl (A4 (Ar rfl <| Ak rfl <| Ad) (by first | rfl | decide) (Ad)) ?_
 refine Aa rfl (Ag (Ad)) ?_
 refine As rfl rfl (Ad) (by first | rfl | decide) ?_
 refine Aa rfl (Ag (Bm rfl <| Bm rfl <| Bm rfl <| A6 rfl <| A1 rfl <| Ak rfl <| Ad)) ?_
 refine As rfl rfl (Ak rfl <| Ad) (by first | rfl | decide) ?_
 refine Aa rfl (Bk Bj (Ad) hq6.plain) ?_
 refine As rfl rfl (Ar rfl <| Ad) (by first | rfl | decide) ?_
 refine Aa rfl (Bu (Ad) Ab) ?_
 refine Aa rfl (A4 (Ar rfl <| Ak rfl <| Ad) (by first | rfl | decide) (Ad)) ?_
 refine Aa rfl (Ag (Ad)) ?_
 refine As rfl rfl (Ad) (by first | rfl | decide) ?_
 refine Aa rfl (Ag (Bm rfl <| Bm rfl <| Bm rfl <| A6 rfl <| Ak rfl <| Ad)) ?_
 refine As rfl rfl (Ak rfl <| Ad) (by first | rfl | decide) ?_
 refine Aa rfl (Bu (Ad) Ab) ?_
 refine Aa rfl (A4 (Ar rfl <| Ad) (by first | rfl | decide) (Ad)) ?_
 refine Aa rfl (Ag (Ad)) ?_
 refine As rfl rfl (Ad) (by first | rfl | decide) ?_
 refine Aa rfl (Ag (Bm rfl <| Bm rfl <| Bm rfl <| A6 rfl <| A1 rfl <| Ad)) ?_
 refine As rfl rfl (Ak rfl <| Ad) (by first | rfl | decide) ?_
 refine Aa rfl (Bu (Ad) Ab) ?_
 refine Aa rfl (A4 (Ar rfl <| Ad) (by first | rfl | decide) (Ad)) ?_
 refine Aa rfl (Ae (Ad)) ?_
 refine Ah <| Ac <| A2 <| Au rfl (.tmp (Ad) .nil) ?_
 show _ = _
 first | rfl | decide
end Go.Proofs.Ytccogmkhijgelaa
namespace Go.Proofs.Ytccogmkhijgelaa
def turnN (xs : List Nat) (n : Nat) : Nat := xs[n % xs.length]?.getD 0
theorem turnN_lt {xs : List Nat} (h : ∀ x ∈ xs, x < 256) {n : Nat} : turnN xs n < 256 := by
 unfold turnN
 cases hx : xs[n % xs.length]? with
 | none => decide
 | some x => exact h x (List.mem_of_getElem? hx)
theorem turnN_nil {n : Nat} : turnN [] n = 0 := by simp [turnN]
theorem turnN_at {xs : List Nat} {n : Nat} (h : n % xs.length < xs.length) : turnN xs n = xs[n % xs.length] := by simp [turnN, h]
/-- What was taken so far, and what is left. -/
structure TreeI (n : Nat) (g : Nat → Int) (taken left : List Nat) : Prop where
 nodup : (taken ++ left).Nodup
 len : taken.length + left.length = n
 all : ∀ i, i < n ↔ i ∈ taken ++ left
 root : ∀ (h : 0 < taken.length), g taken[0] = -1
 up : ∀ j (h : j < taken.length), 0 < j → ∃ k, ∃ hk : k < j, g taken[j] = (taken[k] : Int)
theorem TreeI.start {n : Nat} {g : Nat → Int} : TreeI n g [] (List.range n) := ⟨by simpa using List.nodup_range, by simp, fun i => by simp, fun h => absurd h (by simp), fun j h => absurd h (by simp)⟩
theorem erase_perm {α : Type} {l : List α} {k : Nat} (hk : k < l.length) : l.Perm (l[k] :: l.eraseIdx k) := by
 rw [List.eraseIdx_eq_take_drop_succ]
 have h : l = l.take k ++ l[k] :: l.drop (k + 1) := by rw [← List.drop_eq_getElem_cons hk, List.take_append_drop]
 conv => lhs; rw [h]
 exact List.perm_middle
section
variable {n : Nat} {g : Nat → Int} {taken left : List Nat} {k : Nat}
theorem TreeI.perm (hk : k < left.length) : (taken ++ left).Perm ((taken ++ [left[k]]) ++ left.eraseIdx k) := by
 rw [List.append_assoc]
 exact (erase_perm hk).append_left taken
theorem TreeI.fresh (h : TreeI n g taken left) (hk : k < left.length) {j : Nat} (hj : j < taken.length) : taken[j] ≠ left[k] := fun he => by
 have := (List.nodup_append.1 h.nodup).2.2 _ (List.getElem_mem hj) _ (List.getElem_mem hk)
 exact this he
theorem TreeI.lt (h : TreeI n g taken left) (hk : k < left.length) : left[k] < n := (h.all _).2 (List.mem_append_right _ (List.getElem_mem hk))
theorem TreeI.step (h : TreeI n g taken left) (hk : k < left.length) {g' : Nat → Int} (hg : ∀ i, i ≠ left[k] → g' i = g i) (h0 : taken.length = 0 → g' left[k] = -1) (h1 : 0 < taken.length → ∃ q, ∃ hq : q < taken.length, g' left[k] = (taken[q] : Int)) :
   TreeI n g' (taken ++ [left[k]]) (left.eraseIdx k) := by
 have hp := TreeI.perm (taken := taken) hk
 refine ⟨hp.nodup_iff.1 h.nodup, by have := h.len; rw [List.length_append, List.length_eraseIdx_of_lt hk, List.length_singleton]; omega, fun i => (h.all i).trans hp.mem_iff, fun hl => ?_, fun j hj hj0 => ?_⟩
 · by_cases ht : 0 < taken.length
   · rw [List.getElem_append_left ht, hg _ (h.fresh hk ht)]; exact h.root ht
   · rw [List.getElem_append_right (by omega)]
     simp only [List.getElem_singleton]
     exact h0 (by omega)
 · by_cases ht : j < taken.length
   · obtain ⟨q, hq, he⟩ := h.up j ht hj0
     refine ⟨q, hq, ?_⟩
     rw [List.getElem_append_left ht, List.getElem_append_left (by omega), hg _ (h.fresh hk ht)]; exact he
   · have hj2 : j = taken.length := by simp at hj; omega
     subst hj2
     obtain ⟨q, hq, he⟩ := h1 hj0
     refine ⟨q, hq, ?_⟩
     rw [List.getElem_append_right (Nat.le_refl _), List.getElem_append_left hq]
     simp only [List.getElem_singleton]
     exact he
end
theorem reach_le {l : List Int} {i f : Nat} (h : reach l f i = true) : ∀ d, reach l (f + d) i = true
 | 0 => h
 | d + 1 => reach_succ (reach_le h d)
theorem firsts_uniq {l : List Int} {r : Nat} (hr : upN l r = -1) : ∀ {k : Nat}, (∀ i, i < k → upN l i = -1 → i = r) → firstsN l k = if r < k then 1 else 0
 | 0, _ => by simp [firstsN]
 | k + 1, h => by
   unfold firstsN
   rw [firsts_uniq hr (fun i hi => h i (by omega))]
   by_cases hk : upN l k = -1
   · have := h k (by omega) hk
     subst this
     rw [if_pos hk, if_neg (by omega), if_pos (by omega)]; rfl
   · rw [if_neg hk]
     have : r ≠ k := fun e => hk (by rw [← e]; exact hr)
     by_cases hrk : r < k
     · rw [if_pos hrk, if_pos (by omega)]
     · rw [if_neg hrk, if_neg (by omega)]
def listG (g : Nat → Int) (n : Nat) : List Int := (List.range n).map g
theorem TreeI.tree {n : Nat} {g : Nat → Int} {taken : List Nat} (h : TreeI n g taken []) (hn : 0 < n) : IsTree (listG g n) := by
 have hlen : (listG g n).length = n := by simp [listG]
 have hup : ∀ i, i < n → upN (listG g n) i = g i := fun i hi => upN_map hi
 have hall : ∀ i, i < n ↔ i ∈ taken := fun i => by rw [h.all i, List.append_nil]
 have htl : taken.length = n := by have := h.len; simpa using this
 have hlt : ∀ j (hj : j < taken.length), taken[j] < n := fun j hj => (hall _).2 (List.getElem_mem hj)
 refine ⟨fun i hi => ?_, fun i hi => ?_, ?_⟩
 · rw [hlen] at hi ⊢
   rw [hup i hi]
   obtain ⟨j, hj, rfl⟩ := List.getElem_of_mem ((hall i).1 hi)
   by_cases hj0 : j = 0
   · subst hj0; rw [h.root hj]; omega
   · obtain ⟨k, hk, he⟩ := h.up j hj (by omega)
     rw [he]
     have := hlt k (by omega)
     omega
 · rw [hlen] at hi ⊢
   obtain ⟨j, hj, rfl⟩ := List.getElem_of_mem ((hall i).1 hi)
   have key : ∀ j (hj : j < taken.length), reach (listG g n) j taken[j] = true := by
     intro j
     induction j using Nat.strongRecOn with
     | _ j ih =>
       intro hj
       by_cases hj0 : j = 0
       · subst hj0; exact reach_end (by rw [hup _ (hlt 0 hj)]; exact h.root hj)
       · obtain ⟨k, hk, he⟩ := h.up j hj (by omega)
         obtain ⟨j', rfl⟩ : ∃ j', j = j' + 1 := ⟨j - 1, by omega⟩
         rw [reach_step (j := taken[k]) (by rw [hup _ (hlt _ hj)]; exact he)]
         have := reach_le (ih k hk (by omega)) (j' - k)
         rw [show k + (j' - k) = j' by omega] at this
         exact this
   have := reach_le (key j hj) (n - j)
   rw [show j + (n - j) = n by omega] at this
   exact this
 · rw [hlen]
   have h0 : 0 < taken.length := by omega
   rw [firsts_uniq (r := taken[0]) (by rw [hup _ (hlt 0 h0)]; exact h.root h0) fun i hi hu => ?_, if_pos (hlt 0 h0)]
   rw [hup i hi] at hu
   obtain ⟨j, hj, rfl⟩ := List.getElem_of_mem ((hall i).1 hi)
   by_cases hj0 : j = 0
   · subst hj0; rfl
   · obtain ⟨k, hk, he⟩ := h.up j hj (by omega)
     omega
end Go.Proofs.Ytccogmkhijgelaa
namespace Go.Proofs.Ytccogmkhijgelaa
open Go.RowKit
theorem bd_96 : Body Try.prog 96 := Bp (by kernel_rfl)
theorem one_5 : OneT Try.prog 5 := Dm (by kernel_rfl)
theorem sl_50 : SliceT Try.prog 50 5 1 := sliceT_of (by kernel_rfl)
set_option maxRecDepth 100000 in
theorem valid_ok {F : Heap} {vp ve : Value} {ps : List (Value × Edn)} {s : Stm} (hr : StmR F vp ve ps s) : Ok Try.prog 40 [.agg #[vp, ve]].toArray F fun u _ => u = .bool (decide ((checkT s).2.2 = 0)) := by
 refine Ok.intro Try.func40 rfl Try.ntmps40 rfl fun w0 => ?_
 refine Af <| Ai fun ds => Bg rfl (B1 (Aj rfl) rfl fun b1 hb1 nb1 => ?_)
 refine Aa rfl (Ae Ab) ?_
 refine Ah <| Ac <| Af <| Ai fun ds => Aa rfl (A9 B7 (Ak rfl <| Ad) rfl rfl (A5 0 rfl)) ?_
 refine Bx rfl (Bb bd_17 Az (.cons (Ad) .nil) (refCheckT_ok hr) (fun _ _ h => h.trans (show checkTV s = .tuple #[.int .i64 (checkT s).1, .int .i64 (checkT s).2.1, .int .i64 (checkT s).2.2] from rfl))) ?_
 refine Aa rfl (Ag (Ad)) ?_
 refine Aa rfl (Ay (Ad) rfl) ?_
 refine Aa rfl (Ay (Ak rfl <| Ad) rfl) ?_
 refine Aa rfl (Ay (Ar rfl <| Ad) rfl) ?_
 refine Aa rfl (Ae (Ar rfl <| Ad)) ?_
 refine Aa rfl (Ae (Ar rfl <| Ad)) ?_
 refine Aa rfl (Ae (Ar rfl <| Ad)) ?_
 refine Ah <| Ac <| Af <| Ai fun ds => Aa rfl (Ag (Ad)) ?_
 refine Aa rfl (Bu (Ad) Ab) ?_
 refine Aa rfl (Ae (Ad)) ?_
 refine Ah <| Ac <| A2 <| Au rfl (.tmp (Ad) .nil) ?_
 rfl
set_option maxRecDepth 100000 in
theorem turn_ok {F : Heap} {vx : Value} {xs : List Nat} (hxs : Sl F vx 1 u8E xs) (hxb : ∀ x ∈ xs, x < 256) {n : Nat} {z : Int} (hz : z = (n : Int)) : Ok Try.prog 96 [vx, .int .i64 z].toArray F fun u _ => u = .int .i64 (turnN xs n : Int) := by
 subst hz
 refine Ok.intro Try.func96 rfl Try.ntmps96 rfl fun w0 => ?_
 have hL := hxs.plain.lt
 by_cases h0 : xs.length = 0
 ·
  refine Af <| Ai fun ds => Aa rfl (Ae Ab) ?_
  refine Ah <| Ac <| Af <| Af <| Ai fun ds => Aa rfl (Ag (Ak rfl <| Aj rfl)) ?_
  refine Aa rfl (Bk sl_50 (Ad) hxs.plain) ?_
  refine Aa rfl (Bu (Ad) Ab) ?_
  refine Ah <| Ac <| Aq (Ad) (by first | rfl | exact decide_eq_true (by omega)) ?_
  refine Af <| Ai fun ds => Aa rfl (Ae Ab) ?_
  refine Ah <| Ac <| A2 <| A8 ?_
  refine Au rfl (.tmp (Ad) .nil) ?_
  show _ = _
  have : xs = [] := List.eq_nil_of_length_eq_zero h0
  subst this
  rw [turnN_nil]; rfl
 ·
  refine Af <| Ai fun ds => Aa rfl (Ae Ab) ?_
  refine Ah <| Ac <| Af <| Af <| Ai fun ds => Aa rfl (Ag (Ak rfl <| Aj rfl)) ?_
  refine Aa rfl (Bk sl_50 (Ad) hxs.plain) ?_
  refine Aa rfl (Bu (Ad) Ab) ?_
  refine Ah <| Ac <| Ao (Ad) (by first | rfl | exact decide_eq_false (by omega)) ?_
  have hlt : n % xs.length < xs.length := Nat.mod_lt _ (by omega)
  have hb := hxb _ (List.getElem_mem hlt)
  refine Ax <| Ac <| Af <| Ai fun ds => Aa rfl (Ag (A1 rfl <| Aj rfl)) ?_
  refine Aa rfl (Ag (A1 rfl <| Ak rfl <| Aj rfl)) ?_
  refine Aa rfl (Ag (A1 rfl <| Ar rfl <| Aj rfl)) ?_
  refine Aa rfl (Bk sl_50 (Ad) hxs.plain) ?_
  refine Aa rfl (q_rem (Ar rfl <| Ad) (Ad) (Int.natCast_nonneg _) (by omega)) ?_
  refine Aa rfl (Bf (k := n % xs.length) sl_50 (A1 rfl <| Ad) hxs.plain (Ad) (by omega) hlt) ?_
  refine Aa rfl (Ap one_5 (Ad) (hxs.cell1 hlt rfl)) ?_
  refine Aa rfl (q_convert ⟨_, Try.underlying5⟩ Try.underlying3 (Ad) (IntWalk.i64_in _ ⟨by omega, by omega⟩)) ?_
  refine Aa rfl (Ae (Ad)) ?_
  refine Ah <| Ac <| A2 <| Au rfl (.tmp (Ad) .nil) ?_
  show _ = _
  rw [turnN_at hlt]; rfl
theorem iL_zero {n : Nat} : List.replicate n (Value.int .i64 0) = (iL (fun _ => 0) n).flatMap intE := by
 induction n with
 | zero => rfl
 | succ n ih => rw [List.replicate_succ', iL_succ, List.flatMap_append, ih]; rfl
theorem nat_get {xs : List Nat} {i : Nat} (h : i < xs.length) : (xs.flatMap natE)[i * 1]? = some (.int .i64 (xs[i] : Int)) := flat_at (enc := natE) (s := 1) (fun _ => rfl) (j := 0) xs i h rfl
theorem set_one {g : Nat → Int} {i : Nat} {v w : Int} : updI (updI g i v) i w = updI g i w := by funext j; unfold updI; split <;> rfl
theorem row_addr {b n c : Nat} : addc (base (.slice (some ⟨b, 0, none⟩) n n)) (c * 1) = ⟨b, c * 1, none⟩ := by simp [base, addc]
theorem updI_ne {g : Nat → Int} {i : Nat} {v : Int} : ∀ j, j ≠ i → updI g i v j = g j := fun j h => by unfold updI; rw [if_neg h]
theorem updI_eq {g : Nat → Int} {i : Nat} {v : Int} : updI g i v i = v := by unfold updI; rw [if_pos rfl]
set_option maxRecDepth 100000 in
theorem tree_ok7 {F : Heap} {vx : Value} {xs : List Nat} (hxs : Sl F vx 1 u8E xs) (hxb : ∀ x ∈ xs, x < 256) {many : Nat} (hm0 : 0 < many) (hm5 : many ≤ 5) : Ok Try.prog 41 [.int .i64 (many : Int), vx].toArray F fun u F' => ∃ l, Ints F' u l ∧ l.length = many ∧ IsTree l := by
 have hle0 : F.le F := Heap.le_refl _
 refine Ok.intro Try.func41 rfl Try.ntmps41 rfl fun w0 => ?_
 have hxl := hxs.plain.lt
 refine Af <| Ai fun ds => Aa rfl (Ae Ab) ?_
 refine Ah <| Ac <| Af <| Ai fun ds => Aa rfl (Ag (Ak rfl <| Aj rfl)) ?_
 refine Bg rfl (x_make (k := many) Bj el_3 rfl rfl (Ad) (Ad) rfl (by omega) (by omega) fun b1 hb1 nb1 => ?_)
 refine Aa rfl (Ae (Ad)) ?_
 refine Ah <| Ac <| Af <| Ai fun ds => Aa rfl (Ae Ab) ?_
 refine Aa rfl (Ae Ab) ?_
 refine Ah <| Ac <| Af <| Af <| Ai fun ds => Aa rfl (Ae Ab) ?_
 refine Ah <| Ac <| A0 <| Bt [6, 8, 13, 14, 15, 16, 17, 18, 19, 20, 21] (fun m e σ => ∃ k : Nat, m + k = many ∧ e 8 = .int .i64 (k : Int) ∧ ∃ v6 R6, e 6 = v6 ∧ Own 3 1 v6 (List.range k).length ((List.range k).flatMap natE) R6 ∧ σ = ⟨F, (b1, bx 3 ((iL (fun _ => 0) many).flatMap intE)) :: R6⟩) (many) ?_ ?_
 · exact ⟨0, by omega, (Ad), _, _, (Ar rfl <| Ad), Own.nil, by rw [iL_zero]⟩
 ·
  rintro m e _ ⟨k, hm9, hs8, v6, R6, hs6, ho, rfl⟩; have hrl : (List.range k).length = k := List.length_range
  by_cases hlt : k < many
  ·
   refine Af <| Af <| Ai fun ds => Aa rfl (Ag (At rfl hs8)) ?_
   refine Aa rfl (Ag (Ak rfl <| Am rfl <| A1 rfl <| Ar rfl <| Ak rfl <| Aj rfl)) ?_
   refine Aa rfl (Bw (Ak rfl <| Ad) (Ad)) ?_
   refine Ah <| Ac <| Aq (Ad) (by first | rfl | exact decide_eq_true (by omega)) ?_
   refine Ax <| Ac <| Af <| A0 <| Ai fun ds => Aa rfl (Ag (Ar rfl <| Ak rfl <| At rfl hs6)) ?_
   refine Aa rfl (Ag (A1 rfl <| At rfl hs8)) ?_
   refine Bg rfl (B6 Bj C6 rfl (.cons (Ad) .nil) rfl rfl (by decide) (by simp [Value.oneCell']) fun b3 hb3 nb3 => ?_)
   refine Bg rfl (Cl Bj el_3 (Ar rfl <| Ad) ho (Ad) (Dl (s := 1) 0 rfl rfl (by simp [Value.oneCell'])) (by omega) (by omega) (.s <| .s <| .z) .last fun v4 R5 ho6 => ?_)
   have ho2 := ho6.snoc (x := k) rfl rfl
   refine Aa rfl (Ae (Ad)) ?_
   refine Ah <| Bc <| Ac <| Di (fun _ _ h => h.drop (.cons _ <| .cons_cons _ <| .refl _)) ?_
   refine Ai fun ds => Aa rfl (Ag (A6 rfl <| At rfl hs8)) ?_
   refine Aa rfl (Bv (Ad) Ab rfl (by omega) (by omega)) ?_
   refine Aa rfl (Ae (Ad)) ?_
   refine Ah <| Ac ⟨_, m - 1, Off.eq (D2 rfl <| ou2 rfl <| D7 rfl <| Be), by omega, ?_⟩
   exact ⟨k + 1, by omega, (Ad), _, _, (Ar rfl <| Ak rfl <| Ad), by rw [List.range_succ]; exact ho2, rfl⟩
  ·
   refine Af <| Af <| Ai fun ds => Aa rfl (Ag (At rfl hs8)) ?_
   refine Aa rfl (Ag (Ak rfl <| Am rfl <| A1 rfl <| Ar rfl <| Ak rfl <| Aj rfl)) ?_
   refine Aa rfl (Bw (Ak rfl <| Ad) (Ad)) ?_
   refine Ah <| Ac <| Ao (Ad) (by first | rfl | exact decide_eq_false (by omega)) ?_
   obtain rfl : many = k := by omega
   refine Cs (σ := ⟨_, _⟩) (by rfl) ho (.s <| .z) .last fun F7 hF8 hz9 => ?_
   replace hxs := hxs.mono hF8
   replace hle0 := Heap.le_trans hle0 hF8
   have hlf := ho.sl (fun _ => rfl) hz9 (by omega)
   refine Bq ?_
   refine Bd <| Bd <| Bi <| Ac <| Af <| A0 <| Bt [6, 7, 9, 10, 22, 23, 24, 25, 26, 27, 28, 29, 30, 31, 32, 33, 34, 35, 36, 37, 38, 39, 40, 41, 42, 43, 44, 45, 46, 47, 48, 49, 50, 51, 52, 53, 54, 55, 56, 57, 58, 59, 60, 61, 62, 63, 64, 65, 66, 67, 68, 69, 70, 71] (fun m e σ => ∃ G, F7.le G ∧ ∃ (g : Nat → Int) (taken left : List Nat) (v6 v7 : Value) (R7 : List (Nat × Obj)), m = left.length ∧ e 6 = v6 ∧ e 7 = v7 ∧ Nats G v6 left ∧ Own 3 1 v7 taken.length (taken.flatMap natE) R7 ∧ TreeI many g taken left ∧ σ = ⟨G, (b1, bx 3 ((iL g many).flatMap intE)) :: R7⟩) (many) ?_ ?_
   · exact ⟨_, Heap.le_refl _, fun _ => 0, [], _, _, _, _, List.length_range.symm, (Ar rfl <| Ak rfl <| At rfl hs6), (Ar rfl <| Ak rfl <| Am rfl <| Ak rfl <| Ad), hlf, Em, TreeI.start, rfl⟩
   ·
    rintro m2 e2 _ ⟨G, hFG, g, taken, left, v6, v7, R7, rfl, ht6, ht7, hlf, ho, hI, rfl⟩; replace hxs := hxs.mono hFG; replace hle0 := Heap.le_trans hle0 hFG; have hlf9 := hlf.plain.lt; have hlen0 := hI.len
    by_cases hl0 : left.length = 0
    ·
     refine Af <| Af <| Ai fun ds => Aa rfl (Ag (At rfl ht6)) ?_
     refine Aa rfl (Bk Bj (Ad) hlf.plain) ?_
     refine Aa rfl (C9 (Ad) Ab) ?_
     refine Ah <| Ac <| Ao (Ad) (decide_eq_false (by omega)) ?_
     have hle := List.eq_nil_of_length_eq_zero hl0
     subst hle
     refine Bq ?_
     refine Bd <| Bd <| Bi <| Ac <| Af <| Cc (i := 0) rfl hb1 (.here) fun F11 hF12 hz5 => ?_
     refine Ai fun ds => Aa rfl (Ag (Ar rfl <| Ak rfl <| Am rfl <| Ar rfl <| Ak rfl <| Am rfl <| Ar rfl <| Ak rfl <| Ad)) ?_
     refine Aa rfl (Ae (Ad)) ?_
     refine Ah <| Ac <| A2 <| Au rfl (.tmp (Ad) .nil) ?_
     refine ⟨iL g many, sl_box hz5 rfl C3 (fun _ => rfl) (by omega), C3, ?_⟩
     exact hI.tree hm0
    ·
     refine Af <| Af <| Ai fun ds => Aa rfl (Ag (At rfl ht6)) ?_
     refine Aa rfl (Bk Bj (Ad) hlf.plain) ?_
     refine Aa rfl (C9 (Ad) Ab) ?_
     refine Ah <| Ac <| Aq (Ad) (decide_eq_true (by omega)) ?_
     have hkk : (turnN xs taken.length % left.length) < left.length := Nat.mod_lt _ (by omega)
     have hil := hI.lt hkk
     have hlen := hI.len
     have ht1 : turnN xs taken.length < 256 := turnN_lt hxb
     have ht2 : turnN xs (many + taken.length) < 256 := turnN_lt hxb
     refine Ax <| Ac <| A0 <| Af <| Ai fun ds => Aa rfl (Ag (Ar rfl <| Ak rfl <| Am rfl <| Ar rfl <| Ak rfl <| Am rfl <| A1 rfl <| Ar rfl <| Ak rfl <| Aj rfl)) ?_
     refine Aa rfl (Ag (A1 rfl <| At rfl ht7)) ?_
     refine Aa rfl (Bk Bj (Ad) (ho.plain (by omega))) ?_
     refine Bx rfl (Bb bd_96 Az (.cons (Ar rfl <| Ad) (.cons (Ad) .nil)) (turn_ok hxs hxb rfl) (fun _ _ h => h)) ?_
     refine Aa rfl (Ag (A1 rfl <| Ar rfl <| Ak rfl <| At rfl ht6)) ?_
     refine Aa rfl (Bk Bj (Ad) hlf.plain) ?_
     refine Aa rfl (q_rem (Ar rfl <| Ad) (Ad) (Int.natCast_nonneg _) (by omega)) ?_
     refine Aa rfl (Ae (Ad)) ?_
     refine Ah <| Ac <| Af <| Ai fun ds => Aa rfl (Ag (A6 rfl <| Ar rfl <| Ak rfl <| At rfl ht6)) ?_
     refine Aa rfl (Ag (Ak rfl <| Ad)) ?_
     refine Aa rfl (Bf (k := (turnN xs taken.length % left.length)) Bj (Ak rfl <| Ad) hlf.plain (Ad) (by omega) hkk) ?_
     refine Aa rfl (Ap Bn (Ad) (hlf.cell1 hkk rfl)) ?_
     refine Aa rfl (Ae (Ad)) ?_
     refine Ah <| Ac <| Af ?_
     have hleS := hle0
     refine Cz (.inl rfl) (fun _ _ h => h) (.cons_cons _ <| .refl _) [] (by kernel_rfl) fun ds => ?_
     refine A7 1 rfl (by kernel_rfl) (by kernel_rfl) (by kernel_rfl) (by kernel_rfl) rfl rfl (fun _ h => h.drop (.cons_cons _ <| .refl _)) (fun _ _ _ h => h) (Ag (A3 rfl <| At rfl ht6)) ?_
     refine A7 2 rfl (by kernel_rfl) (by kernel_rfl) (by kernel_rfl) (by kernel_rfl) rfl rfl (fun _ h => h.drop (.cons_cons _ <| .refl _)) (fun _ _ _ h => h) (Ag (A1 rfl <| Ar rfl <| Ad)) ?_
     refine A7 3 rfl (by kernel_rfl) (by kernel_rfl) (by kernel_rfl) (by kernel_rfl) rfl rfl (fun _ h => h.drop (.cons_cons _ <| .refl _)) (fun _ _ _ h => h) (q_sliceTo Bj (Ak rfl <| Ad) hlf.plain (Ad) (k := (turnN xs taken.length % left.length)) (by omega) (by omega)) ?_
     refine A7 5 rfl (by kernel_rfl) (by kernel_rfl) (by kernel_rfl) (by kernel_rfl) rfl rfl (fun _ h => h.drop (.cons_cons _ <| .refl _)) (fun _ _ _ h => h) (Ag (A3 rfl <| Ar rfl <| Ak rfl <| At rfl ht6)) ?_
     refine A7 6 rfl (by kernel_rfl) (by kernel_rfl) (by kernel_rfl) (by kernel_rfl) rfl rfl (fun _ h => h.drop (.cons_cons _ <| .refl _)) (fun _ _ _ h => h) (Ag (A6 rfl <| Ak rfl <| Ad)) ?_
     refine A7 7 rfl (by kernel_rfl) (by kernel_rfl) (by kernel_rfl) (by kernel_rfl) rfl rfl (fun _ h => h.drop (.cons_cons _ <| .refl _)) (fun _ _ _ h => h) (Bv (Ad) Ab rfl (by omega) (by omega)) ?_
     refine A7 8 rfl (by kernel_rfl) (by kernel_rfl) (by kernel_rfl) (by kernel_rfl) rfl rfl (fun _ h => h.drop (.cons_cons _ <| .refl _)) (fun _ _ _ h => h) (q_sliceFrom Bj (Ar rfl <| Ad) hlf.plain (Ad) (k := (turnN xs taken.length % left.length) + 1) (by omega) (by omega)) ?_
     refine WX_x 0 rfl (by kernel_rfl) rfl (x_build0 Bj fun b13 hb13 nb13 => ⟨fun _ _ => (fun _ h => h.drop (.cons _ <| .cons_cons _ <| .refl _)), ?_⟩)
     refine WX_x 4 rfl (by kernel_rfl) rfl (Cl Bj el_3 (Ad) (own_box rfl) (A1 rfl <| Ak rfl <| Ad) ((hlf.to (k := (turnN xs taken.length % left.length)) (by omega)).src (fun _ => rfl) natE_one) (by rw [List.length_take]; omega) (by rw [List.length_take]; omega) (.z) .box fun v14 R15 ho16 => ⟨fun _ _ => (fun _ h => h.drop (List.sublist_append_of_sublist_right <| .cons_cons _ <| .refl _)), ?_⟩)
     refine WX_x 9 rfl (by kernel_rfl) rfl (Cl Bj el_3 (Ad) ho16 (Ar rfl <| Ad) ((hlf.from (k := (turnN xs taken.length % left.length) + 1) (by omega)).src (fun _ => rfl) natE_one) (by rw [List.length_take, List.length_drop]; omega) (by rw [List.length_take, List.length_drop]; omega) (.z) .more fun v17 R18 ho19 => ⟨fun _ _ => (fun _ h => h.drop (List.sublist_append_of_sublist_right <| .cons_cons _ <| .refl _)), ?_⟩)
     have ho45 : Own 3 1 v17 (left.eraseIdx (turnN xs taken.length % left.length)).length ((left.eraseIdx (turnN xs taken.length % left.length)).flatMap natE) R18 := by rw [List.eraseIdx_eq_take_drop_succ]; simpa using ho19
     refine A7 10 rfl (by kernel_rfl) (by kernel_rfl) (by kernel_rfl) (by kernel_rfl) rfl rfl (fun _ h => h.drop (List.sublist_append_of_sublist_right <| .cons_cons _ <| .refl _)) (fun _ _ _ h => h) (Ae (Ad)) ?_
     refine C4 (by kernel_rfl) ?_ _
     refine Ac <| Af <| Cs (σ := ⟨_, _⟩) (by rfl) ho45 (.z) .more fun F20 hF21 hz22 => ?_
     replace hxs := hxs.mono hF21
     replace hFG := Heap.le_trans hFG hF21
     refine WC_pickB (.one (.skip <| .here) <| .lastb (.lastS)) ?_
     have hlf2 := ho45.sl (fun _ => rfl) hz22 (by rw [List.length_eraseIdx_of_lt hkk]; omega)
     refine Ai fun ds => Aa rfl (Ag (A3 rfl <| A6 rfl <| Ar rfl <| Ak rfl <| Am rfl <| Ar rfl <| Ak rfl <| Am rfl <| Ar rfl <| Ak rfl <| Ad)) ?_
     refine Aa rfl (Ag (A6 rfl <| A1 rfl <| Ad)) ?_
     refine Aa rfl (Bf (k := left[(turnN xs taken.length % left.length)]) Bj (Ak rfl <| Ad) (plain_row (Nat.le_refl _) (by omega)) (Ad) rfl hil) ?_
     refine Cf (x_storeK sz_3 (Ad) row_addr Ab (i := 0) rfl (by rw [iL_len1]; omega) rfl (.here) ?_)
     refine Ah <| Ac <| Af <| Af ?_
     rw [iL_set hil]
     by_cases ht0 : taken.length = 0
     ·
      refine Ai fun ds => Aa rfl (Ag (A3 rfl <| A6 rfl <| A1 rfl <| Ar rfl <| At rfl ht7)) ?_
      refine Aa rfl (Bk Bj (Ad) (ho.plain (by omega))) ?_
      refine Aa rfl (C9 (Ad) Ab) ?_
      refine Ah <| Ac <| Ao (Ad) (decide_eq_false (by omega)) ?_
      refine Ax <| Ac <| Ai fun ds => Aa rfl (Ag (Bm rfl <| Ak rfl <| At rfl ht7)) ?_
      refine Aa rfl (Ag (A3 rfl <| Ar rfl <| Ad)) ?_
      refine Bg rfl (B6 Bj C6 rfl (.cons (Ad) .nil) rfl rfl (by decide) (by simp [Value.oneCell']) fun b23 hb23 nb23 => ?_)
      refine Bg rfl (Cl Bj el_3 (Ar rfl <| Ad) ho (Ad) (Dl (s := 1) 0 rfl rfl (by simp [Value.oneCell'])) (by omega) (by omega) (.s <| .s <| .z) .last fun v24 R25 ho26 => ?_)
      have ho9 := ho26.snoc (x := left[(turnN xs taken.length % left.length)]) rfl rfl
      refine Dz (.one (.next <| .here) <| .lastb (.next <| .last)) ?_
      refine Aa rfl (Ae (Ad)) ?_
      refine Ah <| Bc ?_
      refine Ac ⟨_, (left.eraseIdx (turnN xs taken.length % left.length)).length, Off.eq (ou32 rfl <| ou4 rfl <| ou2 rfl <| Be), (by rw [List.length_eraseIdx_of_lt hkk]; omega), ?_⟩
      refine ⟨_, hFG, updI g left[(turnN xs taken.length % left.length)] (-1), _, _, _, _, _, rfl, (A6 rfl <| Ar rfl <| Ak rfl <| Ad), (Ad), hlf2, ho9, hI.step hkk updI_ne (fun h => updI_eq) (fun h => absurd h (by omega)), rfl⟩
     ·
      have hqq : (turnN xs (many + taken.length) / 2 % taken.length) < taken.length := Nat.mod_lt _ (by omega)
      refine Ai fun ds => Aa rfl (Ag (A3 rfl <| A6 rfl <| A1 rfl <| Ar rfl <| At rfl ht7)) ?_
      refine Aa rfl (Bk Bj (Ad) (ho.plain (by omega))) ?_
      refine Aa rfl (C9 (Ad) Ab) ?_
      refine Ah <| Ac <| Aq (Ad) (decide_eq_true (by omega)) ?_
      refine Ai fun ds => Aa rfl (Ag (Bm rfl <| Ak rfl <| Am rfl <| Ar rfl <| Ak rfl <| Am rfl <| Ar rfl <| Ak rfl <| Ad)) ?_
      refine Aa rfl (Ag (A3 rfl <| Ar rfl <| Ad)) ?_
      refine Aa rfl (Ag (Bm rfl <| Ar rfl <| Ak rfl <| At rfl ht7)) ?_
      refine Aa rfl (Ag (Bm rfl <| A1 rfl <| Am rfl <| Ar rfl <| Ak rfl <| Am rfl <| A1 rfl <| Ar rfl <| Ak rfl <| Aj rfl)) ?_
      refine Aa rfl (Ag (Bm rfl <| A1 rfl <| Ak rfl <| Am rfl <| Ar rfl <| Ak rfl <| Am rfl <| A1 rfl <| Ar rfl <| Ak rfl <| Aj rfl)) ?_
      refine Aa rfl (Ag (Bm rfl <| A1 rfl <| Ar rfl <| At rfl ht7)) ?_
      refine Aa rfl (Bk Bj (Ad) (ho.plain (by omega))) ?_
      refine Aa rfl (Bv (Ar rfl <| Ad) (Ad) rfl (by omega) (by omega)) ?_
      refine Bx rfl (Bb bd_96 Az (.cons (A1 rfl <| Ad) (.cons (Ad) .nil)) (turn_ok hxs hxb (n := many + taken.length) (by push_cast; rfl)) (fun _ _ h => h)) ?_
      refine Aa rfl (q_quo (Ad) Ab (Int.natCast_nonneg _) (by omega) (by decide)) ?_
      refine Aa rfl (Ag (Bm rfl <| A6 rfl <| Ar rfl <| Ak rfl <| At rfl ht7)) ?_
      refine Aa rfl (Bk Bj (Ad) (ho.plain (by omega))) ?_
      refine Aa rfl (q_rem (Ar rfl <| Ad) (Ad) (by omega) (by omega)) ?_
      refine Aa rfl (Bf (k := (turnN xs (many + taken.length) / 2 % taken.length)) Bj (A6 rfl <| Ar rfl <| Ad) (ho.plain (by omega)) (Ad) (by push_cast; rfl) hqq) ?_
      refine Aa rfl (Ap Bn (Ad) (own_cell ho (fun p hp => .tail _ (hp)) (nat_get hqq))) ?_
      refine Aa rfl (Bf (k := left[(turnN xs taken.length % left.length)]) Bj (A6 rfl <| A1 rfl <| Ar rfl <| Ad) (plain_row (Nat.le_refl _) (by omega)) (A6 rfl <| A1 rfl <| Ak rfl <| Ad) rfl hil) ?_
      refine Cf (x_storeK sz_3 (Ad) row_addr (Ak rfl <| Ad) (i := 0) rfl (by rw [iL_len1]; omega) rfl (.here) ?_)
      refine Ah <| Ac ?_
      rw [iL_set hil, set_one]
      refine Ai fun ds => Aa rfl (Ag (Bm rfl <| A3 rfl <| Ak rfl <| At rfl ht7)) ?_
      refine Aa rfl (Ag (Bm rfl <| Ar rfl <| Ad)) ?_
      refine Bg rfl (B6 Bj C6 rfl (.cons (Ad) .nil) rfl rfl (by decide) (by simp [Value.oneCell']) fun b27 hb27 nb27 => ?_)
      refine Bg rfl (Cl Bj el_3 (Ar rfl <| Ad) ho (Ad) (Dl (s := 1) 0 rfl rfl (by simp [Value.oneCell'])) (by omega) (by omega) (.s <| .s <| .z) .last fun v28 R29 ho30 => ?_)
      have ho9 := ho30.snoc (x := left[(turnN xs taken.length % left.length)]) rfl rfl
      refine Dz (.one (.next <| .here) <| .lastb (.next <| .last)) ?_
      refine Aa rfl (Ae (Ad)) ?_
      refine Ah <| Bc ?_
      refine Ac ⟨_, (left.eraseIdx (turnN xs taken.length % left.length)).length, Off.eq (ou32 rfl <| Dc rfl <| ou4 rfl <| ou2 rfl <| Be), (by rw [List.length_eraseIdx_of_lt hkk]; omega), ?_⟩
      refine ⟨_, hFG, updI g left[(turnN xs taken.length % left.length)] (taken[(turnN xs (many + taken.length) / 2 % taken.length)] : Int), _, _, _, _, _, rfl, (A3 rfl <| A6 rfl <| Ar rfl <| Ak rfl <| Ad), (Ad), hlf2, ho9, hI.step hkk updI_ne (fun h => absurd h ht0) (fun h => ⟨_, hqq, updI_eq⟩), rfl⟩
end Go.Proofs.Ytccogmkhijgelaa
namespace Go.Proofs.Ytccogmkhijgelaa
theorem tree_err0 {s : Stm} {l : List Int} (h0 : (checkT s).2.2 = 0) (hl : l.length = s.editions.length) (ht : IsTree l) : treeErr s l = 0 := by
 have h1 : trTo s l l.length = 0 := by
   unfold trTo
   rw [gTo_ok (treeZ_ok h0 hl), List.take_length, if_neg]
   intro h
   rw [List.any_eq_true] at h
   obtain ⟨x, hx, hb⟩ := h
   obtain ⟨i, hi, rfl⟩ := List.getElem_of_mem hx
   have := ht.in_ i hi
   rw [up_at hi] at hb
   simp [inT, inB] at hb
   omega
 rw [treeErr_in h1, ht.isT]; rfl
theorem cost_nofit {s : Stm} {l : List Int} (h : fitsT s l = false) : costL s l = 1000 := by unfold costL; unfold fitsT at h; rw [h]; rfl
theorem fit_of_cost {s : Stm} {l : List Int} (h : costL s l < 1000) : fitsT s l = true := by
 cases hf : fitsT s l with
 | true => rfl
 | false => rw [cost_nofit hf] at h; omega
section
variable {s : Stm} {l : List Int}
end
theorem cost_sum {s : Stm} {l : List Int} (h : costL s l < 1000) : costL s l = sumN s.places.length (leastL s l) ∧ ∀ p, p < s.places.length → leastL s l p < 1000 := by
 have hf := fit_of_cost h
 unfold fitsT at hf
 unfold costL at h ⊢
 rw [if_pos hf] at h ⊢
 refine ⟨by omega, fun p hp => ?_⟩
 have := sumN_mem (n := s.places.length) (i := p) (f := leastL s l) (fun i _ => Dq.1) hp
 omega
theorem least_some {s : Stm} {l : List Int} {p : Nat} (hl : l.length = s.editions.length) (h : leastL s l p < 1000) : ∃ g, Filling s l p g ∧ Possible s l p g ∧ changesOf l g = leastL s l p := by
 rcases foldmin_or (f := countL s l p) (l := allFill s p) (m := 1000) with h1 | ⟨x, hx, h1⟩
 · have : leastL s l p = 1000 := h1
   omega
 · have h2 : leastL s l p = countL s l p x := h1
   have h3 := ((allFill_mem hl).1 hx).2
   rw [h2] at h
   unfold countL at h h2
   split at h
   · rename_i h4
     rw [if_pos h4] at h2
     exact ⟨_, h3, possB_iff.1 h4, h2.symm⟩
   · omega
end Go.Proofs.Ytccogmkhijgelaa
namespace Go.Proofs.Ytccogmkhijgelaa
open Go.RowKit
theorem bd_40 : Body Try.prog 40 := Bp (by kernel_rfl)
theorem bd_41 : Body Try.prog 41 := Bp (by kernel_rfl)
end Go.Proofs.Ytccogmkhijgelaa
namespace Go.Proofs.Ytccogmkhijgelaa
def EarR (F : Heap) (u : Go.Value) (s : Stm) (E : Edges) : Prop := fitsE s E = true ∧ Ints F u (iL (firstY s E) s.editions.length) ∨ fitsE s E = false ∧ u = .slice none 0 0
theorem EarR.mono {F F' : Heap} {u : Go.Value} {s : Stm} {E : Edges} (h : EarR F u s E) (hF : F.le F') : EarR F' u s E := h.elim (fun h => .inl ⟨h.1, h.2.mono hF⟩) .inr
theorem EarR.nil {F : Heap} {u : Go.Value} {s : Stm} {E : Edges} (h : EarR F u s E) (hn : 0 < s.editions.length) : ∃ a k c, u = .slice a k c ∧ (decide (a = none)) = !(fitsE s E) := by
 rcases h with ⟨h1, h2⟩ | ⟨h1, rfl⟩
 · obtain ⟨a, c, rfl, -, g2, -, -⟩ := h2.plain
   refine ⟨a, _, c, rfl, ?_⟩
   rw [h1]
   refine decide_eq_false fun h => ?_
   have := (g2 h).1
   rw [C3] at this
   omega
 · exact ⟨none, 0, 0, rfl, by rw [h1]; rfl⟩
section
variable {s : Stm} {l : List Int} {M : Edges} {r i q : Nat} {cur : Nat → Int}
end
end Go.Proofs.Ytccogmkhijgelaa
namespace Go.Proofs.Ytccogmkhijgelaa
open Go.RowKit
theorem q_remN {P : Program} {B : Base} {e : Env} {σ : St} {d : Option Nat} {ty : TypeId} {pos : String} {af : Array Edge} {gd : Option (Nat × Bool)} {x y : Operand} {a b : Nat} {k : IntKind} {t u : TypeId} (hx : ev e x = .int k (a : Int)) (hy : ev e y = .int k (b : Int)) (hb : 0 < b) :
   OpR P B ⟨d, .binOp .rem t x y u, ty, pos, af, gd⟩ e σ (.int k ((a % b : Nat) : Int)) := by
 have := q_rem (P := P) (B := B) (σ := σ) (d := d) (ty := ty) (pos := pos) (af := af) (gd := gd) (t := t) (u := u) hx hy (Int.natCast_nonneg a) (by omega)
 rwa [← Int.natCast_emod] at this
end Go.Proofs.Ytccogmkhijgelaa
namespace Go.Proofs.Ytccogmkhijgelaa
open Go.RowKit
theorem ar_62 : ArrT Try.prog 62 2 5 1 := arrT_of (by kernel_rfl)
end Go.Proofs.Ytccogmkhijgelaa
namespace Go.Proofs.Ytccogmkhijgelaa
def diffN (l : List ByteArray) : Prop := l.Pairwise fun a b => sameS a b = false
theorem diffN_iff {α : Type} {f : α → ByteArray} {l : List α} : diffN (l.map f) ↔ ∀ j (hj : j < l.length), (l.take j).any (fun y => sameS (f y) (f l[j])) = false := by
 unfold diffN
 rw [List.pairwise_map, List.pairwise_iff_getElem]
 constructor
 · intro h j hj
   rw [List.any_eq_false]
   intro y hy
   obtain ⟨i, hi, rfl⟩ := List.getElem_of_mem hy
   rw [List.length_take] at hi
   rw [List.getElem_take]
   rw [h i j (by omega) hj (by omega)]; simp
 · intro h i j hi hj hij
   have := List.any_eq_false.1 (h j hj) l[i] (by rw [List.mem_iff_getElem]; exact ⟨i, by rw [List.length_take]; omega, by rw [List.getElem_take]⟩)
   simpa using this
structure CheckOk (s : Stm) : Prop where
 np : inB 1 6 s.places.length = true
 pl : ∀ x ∈ s.places, nameOk x.name = true ∧ inB 0 1 x.kind = true
 pn : diffN (s.places.map (·.name))
 ne : inB 1 5 s.editions.length = true
 ed : ∀ x ∈ s.editions, nameOk x.name = true ∧ ednErr s x = 0
 en : diffN (s.editions.map (·.name))
theorem check_ok {s : Stm} : (checkT s).2.2 = 0 ↔ CheckOk s := by
 constructor
 · intro h
   obtain ⟨h1, h2, h3, h4⟩ := checkT_none h
   have hp : ∀ k (hk : k < s.places.length), nameOk s.places[k].name = true ∧ (s.places.take k).any (fun y => sameS y.name s.places[k].name) = false ∧ inB 0 1 s.places[k].kind = true := fun k hk => by
     have := h2 k hk
     rw [Ef hk] at this
     split at this
     · cases this
     · split at this
       · cases this
       · split at this
         · cases this
         · rename_i a b c; exact ⟨by simpa using a, by simpa using b, by simpa using c⟩
   have he : ∀ k (hk : k < s.editions.length), nameOk s.editions[k].name = true ∧ (s.editions.take k).any (fun y => sameS y.name s.editions[k].name) = false ∧ ednErr s s.editions[k] = 0 := fun k hk => by
     have := h4 k hk
     rw [Ds hk] at this
     rw [ed_at hk]
     split at this
     · cases this
     · split at this
       · cases this
       · rename_i a b; exact ⟨by simpa using a, by simpa using b, this⟩
   refine ⟨h1, fun x hx => ?_, diffN_iff.2 fun j hj => (hp j hj).2.1, h3, fun x hx => ?_, diffN_iff.2 fun j hj => (he j hj).2.1⟩
   · obtain ⟨k, hk, rfl⟩ := List.getElem_of_mem hx
     exact ⟨(hp k hk).1, (hp k hk).2.2⟩
   · obtain ⟨k, hk, rfl⟩ := List.getElem_of_mem hx
     exact ⟨(he k hk).1, (he k hk).2.2⟩
 · intro h
   have hp : firstQ s.places.length (plcErr s) = (0, 0) := firstQ_ok fun k hk => by
     have h1 := h.pl _ (List.getElem_mem hk)
     have h2 := diffN_iff.1 h.pn k hk
     rw [Ef hk, h1.1, h2, h1.2]; rfl
   have he : firstQ s.editions.length (edErr s) = (0, 0) := firstQ_ok fun k hk => by
     have h1 := h.ed _ (List.getElem_mem hk)
     have h2 := diffN_iff.1 h.en k hk
     rw [Ds hk, ← ed_at hk, h1.1, h2, h1.2]; rfl
   unfold checkT
   rw [if_neg (by rw [h.np]; simp), hp, if_neg (by simp), if_neg (by rw [h.ne]; simp), he, if_neg (by simp)]
/-- With another reading it is without faults, too. -/
theorem check_set {s : Stm} (h0 : (checkT s).2.2 = 0) {x p : Nat} {v : Int} (hx : x < s.editions.length) (hv : 0 ≤ v ∧ v ≤ 3) : (checkT (setS s x p v)).2.2 = 0 := by
 have h := check_ok.1 h0
 rw [check_ok]
 have hnm : (setS s x p v).editions.map (·.name) = s.editions.map (·.name) := by
   unfold setS
   rw [List.map_set]
   apply List.ext_getElem
   · simp
   · intro j h1 h2
     rw [List.getElem_set]
     split
     · rename_i hj; subst hj; simp [Edn.setR, ed_at hx]
     · rfl
 refine ⟨h.np, h.pl, h.pn, by rw [Cy]; exact h.ne, fun y hy => ?_, by rw [hnm]; exact h.en⟩
 rcases List.mem_or_eq_of_mem_set hy with hy | rfl
 · exact h.ed y hy
 · have h1 := h.ed (s.ed x) (by rw [← ed_at hx]; exact List.getElem_mem hx)
   refine ⟨h1.1, ?_⟩
   have h2 := h1.2
   unfold ednErr at h2 ⊢
   split at h2
   · cases h2
   · rename_i k1
     split at h2
     · cases h2
     · rename_i k2
       split at h2
       · cases h2
       · rename_i k3
         split at h2
         · cases h2
         · rename_i k4
           rw [if_neg (show ¬ (inB 1450 1850 ((s.ed x).setR p v).lo && inB 1450 1850 ((s.ed x).setR p v).hi) = false from k1), if_neg (show ¬ ((s.ed x).setR p v).hi < ((s.ed x).setR p v).lo from k2), if_neg (show ¬ ((s.ed x).setR p v).rd.length ≠ (setS s x p v).places.length by show ¬ ((s.ed x).rd.set p v).length ≠ s.places.length; rw [List.length_set]; exact k3), if_neg]
           intro h5
           rw [List.any_eq_true] at h5
           obtain ⟨z, hz, hb⟩ := h5
           rcases List.mem_or_eq_of_mem_set (show z ∈ (s.ed x).rd.set p v from hz) with hz | rfl
           · have : ((s.ed x).rd.any fun z => !(inB 0 3 z)) = false := by simpa using k4
             exact absurd hb (List.any_eq_false.1 this z hz)
           · simp [inB] at hb; omega
section
variable {s s' : Stm} {l : List Int}
theorem least_len (hl : l.length = s.editions.length) {p : Nat} (h : leastL s l p < 1000) : leastL s l p ≤ l.length := by
 obtain ⟨g, -, -, h1⟩ := least_some hl h
 rw [← h1]; exact D8.2
theorem sum_le_mul {n : Nat} {f : Nat → Int} {c : Int} (h : ∀ i, i < n → f i ≤ c) : sumN n f ≤ n * c := by
 induction n with
 | zero => simp [sumN]
 | succ n ih =>
   have h1 := ih fun i hi => h i (by omega)
   have h2 := h n (by omega)
   simp only [sumN]
   have h3 : ((n + 1 : Nat) : Int) * c = (n : Int) * c + c := by push_cast; rw [Int.add_mul, Int.one_mul]
   rw [h3]; omega
theorem cost_iff (hv : ValidT s) (hl : l.length = s.editions.length) : costL s l < 1000 ↔ fitsT s l = true ∧ ∀ p, p < s.places.length → leastL s l p < 1000 := by
 constructor
 · exact fun h => ⟨fit_of_cost h, (cost_sum h).2⟩
 · rintro ⟨h1, h2⟩
   unfold fitsT at h1
   unfold costL
   rw [if_pos h1]
   have h3 := sum_le_mul (n := s.places.length) (f := leastL s l) (c := 5) fun p hp => by
     have := least_len hl (h2 p hp)
     have := hv.ne
     omega
   have h4 := hv.np
   have h5 : (s.places.length : Int) * 5 ≤ 6 * 5 := Int.mul_le_mul_of_nonneg_right (by omega) (by omega)
   omega
theorem least_mono {p p' : Nat} (hl : l.length = s.editions.length) (hl' : l.length = s'.editions.length) (hin : TreeIn l) (h : ∀ g, Filling s' l p' g → Possible s' l p' g → Filling s l p g ∧ Possible s l p g) : leastL s l p ≤ leastL s' l p' :=
 le_least Dq.2 hl' fun g h1 h2 => leastL_le hin hl (h g h1 h2).1 (h g h1 h2).2
theorem least_same {p p' : Nat} (hl : l.length = s.editions.length) (hl' : l.length = s'.editions.length) (hin : TreeIn l) (h : ∀ g, (Filling s' l p' g ∧ Possible s' l p' g) ↔ (Filling s l p g ∧ Possible s l p g)) : leastL s l p = leastL s' l p' :=
 Int.le_antisymm (least_mono hl hl' hin fun g h1 h2 => (h g).1 ⟨h1, h2⟩) (least_mono hl' hl hin fun g h1 h2 => (h g).2 ⟨h1, h2⟩)
theorem climb_base_congr {E : Edges} {b b' : Nat → Int} {n : Nat} (hE : ∀ e ∈ E, e.1 < n ∧ e.2 < n) (h : ∀ i, i < n → b i = b' i) : ∀ f i, i < n → climb E b f i = climb E b' f i := by
 intro f
 induction f with
 | zero => exact h
 | succ f ih =>
   intro i hi
   have one : ∀ c c' : Nat → Int, (∀ i, i < n → c i = c' i) → (∀ i, i < n → climb E c f i = climb E c' f i) → climb E c (f + 1) i ≤ climb E c' (f + 1) i := fun c c' h ih => by
     refine D3.2 ⟨by rw [h i hi]; exact C1, fun e he hei => ?_⟩
     rw [ih _ (hE e he).1]
     have := climb_edge (f := f) (base := c') he
     rw [hei] at this
     exact this
   exact Int.le_antisymm (one _ _ h ih) (one _ _ (fun i hi => (h i hi).symm) fun i hi => (ih i hi).symm)
theorem fits_years (ht : IsTree l) (hl : l.length = s.editions.length) (hl' : l.length = s'.editions.length) (h : ∀ i, i < l.length → (s'.ed i).lo = (s.ed i).lo ∧ (s'.ed i).hi = (s.ed i).hi) : fitsT s' l = fitsT s l := by
 unfold fitsT
 rw [Bool.eq_iff_iff, fitsE_iff, fitsE_iff]
 have hd := ht.dag
 have e : ∀ i, i < l.length → firstY s' (treeE l) i = firstY s (treeE l) i := fun i hi => by
   unfold firstY
   rw [← hl, ← hl']
   exact climb_base_congr hd.1 (fun i hi => (h i hi).1) _ i hi
 rw [← hl, ← hl']
 constructor
 · intro h1 i hi; rw [← e i hi, ← (h i hi).2]; exact h1 i hi
 · intro h1 i hi; rw [e i hi, (h i hi).2]; exact h1 i hi
end
section
variable {s : Stm} {l : List Int} {x p : Nat} {v : Int}
theorem filling_set (hv : ValidT s) (hx : x < s.editions.length) (hp : p < s.places.length) (hl : l.length = s.editions.length) (hv3 : 1 ≤ v) {g : Nat → Int} : Filling (setS s x p v) l p g ↔ ((∀ i, i < l.length → 1 ≤ g i ∧ g i ≤ 3) ∧ (∀ i, i < l.length → i ≠ x → fitR s p i (g i)) ∧ g x = v) := by
 have hpl : p < (s.ed x).rd.length := by rw [hv.rdl x hx]; exact hp
 have hr : ∀ i, (setS s x p v).r i p = if i = x then v else s.r i p := fun i => by rw [setS_r hx hpl]; simp
 constructor
 · intro h
   refine ⟨h.val, fun i hi hne => ?_, ?_⟩
   · have := h.fit i hi
     unfold fitR at this ⊢
     rw [hr, if_neg hne] at this
     exact this
   · have := h.fit x (by omega)
     unfold fitR at this
     rw [hr, if_pos rfl] at this
     omega
 · rintro ⟨h1, h2, h3⟩
   refine ⟨h1, fun i hi => ?_⟩
   unfold fitR
   rw [hr]
   by_cases h4 : i = x
   · rw [if_pos h4, h4]; exact .inr h3.symm
   · rw [if_neg h4]; exact h2 i hi h4
theorem least_other (hv : ValidT s) (hx : x < s.editions.length) (hp : p < s.places.length) (hl : l.length = s.editions.length) (hin : TreeIn l) {q : Nat} (hq : q ≠ p) : leastL (setS s x p v) l q = leastL s l q := by
 have hpl : p < (s.ed x).rd.length := by rw [hv.rdl x hx]; exact hp
 have hr : ∀ i, (setS s x p v).r i q = s.r i q := fun i => by rw [setS_r hx hpl, if_neg (fun h => hq h.2)]
 have hf : ∀ g, Filling (setS s x p v) l q g ↔ Filling s l q g := fun g => by
   constructor
   · exact fun h => ⟨h.val, fun i hi => by have := h.fit i hi; unfold fitR at this ⊢; rw [hr] at this; exact this⟩
   · exact fun h => ⟨h.val, fun i hi => by have := h.fit i hi; unfold fitR at this ⊢; rw [hr]; exact this⟩
 exact least_same (by rw [Cy]; exact hl) hl hin fun g => by rw [hf]; exact Iff.rfl
theorem least_set_le (hv : ValidT s) (hx : x < s.editions.length) (hp : p < s.places.length) (hl : l.length = s.editions.length) (hin : TreeIn l) (hv3 : 1 ≤ v) (hfit : fitR s p x v) : leastL s l p ≤ leastL (setS s x p v) l p :=
 least_mono hl (by rw [Cy]; exact hl) hin fun g h1 h2 => by
   obtain ⟨k1, k2, k3⟩ := (filling_set hv hx hp hl hv3).1 h1
   exact ⟨⟨k1, fun i hi => by by_cases h4 : i = x; · rw [h4, k3]; exact hfit
                              · exact k2 i hi h4⟩, h2⟩
/-- With that reading there are as many changes just if a best filling has it. -/
theorem least_set_eq (hv : ValidT s) (hx : x < s.editions.length) (hp : p < s.places.length) (hl : l.length = s.editions.length) (hin : TreeIn l) (hv3 : 1 ≤ v) (hfit : fitR s p x v) (hlt : leastL s l p < 1000) : leastL (setS s x p v) l p = leastL s l p ↔ ∃ g, Filling s l p g ∧ Possible s l p g ∧ g x = v ∧ changesOf l g = leastL s l p := by
 constructor
 · intro h
   obtain ⟨g, h1, h2, h3⟩ := least_some (s := setS s x p v) (by rw [Cy]; exact hl) (by rw [h]; exact hlt)
   obtain ⟨k1, k2, k3⟩ := (filling_set hv hx hp hl hv3).1 h1
   exact ⟨g, ⟨k1, fun i hi => by by_cases h4 : i = x; · rw [h4, k3]; exact hfit
                                 · exact k2 i hi h4⟩, h2, k3, by rw [h3, h]⟩
 · rintro ⟨g, h1, h2, h3, h4⟩
   refine Int.le_antisymm ?_ (least_set_le hv hx hp hl hin hv3 hfit)
   rw [← h4]
   exact leastL_le hin (by rw [Cy]; exact hl) ((filling_set hv hx hp hl hv3).2 ⟨h1.val, fun i hi _ => h1.fit i hi, h3⟩) h2
theorem fits_set (ht : IsTree l) (hl : l.length = s.editions.length) (hx : x < s.editions.length) : fitsT (setS s x p v) l = fitsT s l :=
 fits_years ht hl (by rw [Cy]; exact hl) fun i _ => by rw [setS_ed hx]; split <;> (try subst_vars) <;> exact ⟨rfl, rfl⟩
/-- The changes with that reading. -/
theorem cost_set (hv : ValidT s) (ht : IsTree l) (hx : x < s.editions.length) (hp : p < s.places.length) (hl : l.length = s.editions.length) (hv3 : 1 ≤ v ∧ v ≤ 3) (hfit : fitR s p x v) (hc : costL s l < 1000) :
   (costL (setS s x p v) l < 1000 ↔ leastL (setS s x p v) l p < 1000) ∧ (costL (setS s x p v) l < 1000 → costL s l ≤ costL (setS s x p v) l ∧ (costL (setS s x p v) l = costL s l ↔ leastL (setS s x p v) l p = leastL s l p)) := by
 have hvs := setS_valid (v := v) hv hx hp (by omega)
 have hls : l.length = (setS s x p v).editions.length := by rw [Cy]; exact hl
 have hlt := (cost_sum hc).2
 have h1 : costL (setS s x p v) l < 1000 ↔ leastL (setS s x p v) l p < 1000 := by
   rw [cost_iff hvs hls, fits_set ht hl hx]
   constructor
   · exact fun h => h.2 p hp
   · exact fun h => ⟨fit_of_cost hc, fun q hq => by
       by_cases h2 : q = p
       · rw [h2]; exact h
       · rw [least_other hv hx hp hl ht.in_ h2]; exact hlt q hq⟩
 refine ⟨h1, fun h => ?_⟩
 have h2 := (cost_sum h).1
 have h3 := (cost_sum hc).1
 have hle := least_set_le hv hx hp hl ht.in_ hv3.1 hfit
 have key : ∀ n, sumN n (leastL (setS s x p v) l) = sumN n (leastL s l) + (if p < n then leastL (setS s x p v) l p - leastL s l p else 0) := by
   intro n
   induction n with
   | zero => simp [sumN]
   | succ n ih =>
     simp only [sumN]
     rw [ih]
     by_cases h4 : p = n
     · subst h4
       rw [if_neg (Nat.lt_irrefl _), if_pos (by omega)]; omega
     · rw [least_other hv hx hp hl ht.in_ (fun h => h4 h.symm)]
       by_cases h5 : p < n
       · rw [if_pos h5, if_pos (by omega)]; omega
       · rw [if_neg h5, if_neg (by omega)]; omega
 have hk := key s.places.length
 rw [if_pos hp] at hk
 have h2' : costL (setS s x p v) l = sumN s.places.length (leastL (setS s x p v) l) := h2
 rw [h2', h3, hk]
 omega
end
end Go.Proofs.Ytccogmkhijgelaa
namespace Go.Proofs.Ytccogmkhijgelaa
section
variable {s : Stm} {l : List Int} {x p : Nat}
theorem readTo_mem {k : Nat} {r : Int} : r ∈ readTo s l x p k ↔ ∃ n, n < k ∧ readB s l x p n = true ∧ r = (n : Int) + 1 := by
 unfold readTo selN
 rw [List.mem_map]
 constructor
 · rintro ⟨n, hn, rfl⟩
   obtain ⟨h1, h2⟩ := List.mem_filter.1 hn
   exact ⟨n, List.mem_range.1 h1, h2, rfl⟩
 · rintro ⟨n, h1, h2, rfl⟩
   exact ⟨n, List.mem_filter.2 ⟨List.mem_range.2 h1, h2⟩, rfl⟩
theorem readB_iff (hv : ValidT s) (ht : IsTree l) (hl : l.length = s.editions.length) (hx : x < s.editions.length) (hp : p < s.places.length) (hc : costL s l < 1000) {n : Nat} (hn : n < 3) :
   readB s l x p n = true ↔ fitR s p x ((n : Int) + 1) ∧ leastL (setS s x p ((n : Int) + 1)) l p = leastL s l p := by
 have hvs := setS_valid (v := (n : Int) + 1) hv hx hp (by omega)
 have h1 := place_leastV (p := p) ht hv hl
 have h2 := place_leastV (s := setS s x p ((n : Int) + 1)) (p := p) ht hvs (by rw [Cy]; exact hl)
 have h3 := (cost_sum hc).2 p hp
 have h4 := Dq (s := setS s x p ((n : Int) + 1)) (l := l) (p := p)
 unfold readB fitR
 simp only [Bool.and_eq_true, Bool.or_eq_true, decide_eq_true_eq]
 rw [h1, h2, if_neg (show ¬ leastL s l p = 1000 by omega)]
 unfold never
 constructor
 · rintro ⟨h5, h6⟩; refine ⟨h5, ?_⟩; split at h6 <;> omega
 · rintro ⟨h5, h6⟩; refine ⟨h5, ?_⟩; split <;> omega
theorem fill_val {g : Nat → Int} (hf : Filling s l p g) (hx : x < l.length) : ∃ n : Nat, n < 3 ∧ g x = (n : Int) + 1 := by
 have := hf.val x hx
 exact ⟨(g x - 1).toNat, by omega, by omega⟩
theorem read_some (hv : ValidT s) (ht : IsTree l) (hl : l.length = s.editions.length) (hx : x < s.editions.length) (hp : p < s.places.length) (hc : costL s l < 1000) : ∃ n, n < 3 ∧ readB s l x p n = true := by
 obtain ⟨g, h1, h2, h3⟩ := least_some hl ((cost_sum hc).2 p hp)
 obtain ⟨n, hn, hg⟩ := fill_val h1 (x := x) (by omega)
 have hfit := h1.fit x (by omega)
 rw [hg] at hfit
 exact ⟨n, hn, (readB_iff hv ht hl hx hp hc hn).2 ⟨hfit, (least_set_eq hv hx hp hl ht.in_ (by omega) hfit ((cost_sum hc).2 p hp)).2 ⟨g, h1, h2, hg, h3⟩⟩⟩
theorem read_len (hv : ValidT s) (ht : IsTree l) (hl : l.length = s.editions.length) (hx : x < s.editions.length) (hp : p < s.places.length) (hc : costL s l < 1000) : (readTo s l x p 3).length ≠ 0 := fun h => by
 obtain ⟨n, hn, hb⟩ := read_some hv ht hl hx hp hc
 have := readTo_mem.2 ⟨n, hn, hb, rfl⟩
 rw [List.eq_nil_of_length_eq_zero h] at this
 cases this
/-- A reading that is known is returned alone. -/
theorem read_known (hv : ValidT s) (ht : IsTree l) (hl : l.length = s.editions.length) (hx : x < s.editions.length) (hp : p < s.places.length) (hc : costL s l < 1000) (hk : 0 < s.r x p) : readTo s l x p 3 = [s.r x p] := by
 obtain ⟨n, hn, hb⟩ := read_some hv ht hl hx hp hc
 have key : ∀ m, m < 3 → (readB s l x p m = true → s.r x p = (m : Int) + 1) := fun m hm h => by
   have := ((readB_iff hv ht hl hx hp hc hm).1 h).1
   unfold fitR at this
   omega
 have hne := key n hn hb
 have hoth : ∀ m, m < 3 → m ≠ n → readB s l x p m = false := fun m hm hmn => by
   cases h : readB s l x p m with
   | false => rfl
   | true => have := key m hm h; omega
 unfold readTo selN
 rw [hne, show List.range 3 = [0, 1, 2] from rfl]
 have hn3 : n = 0 ∨ n = 1 ∨ n = 2 := by omega
 rcases hn3 with rfl | rfl | rfl
 · simp [hb, hoth 1 (by omega) (by omega), hoth 2 (by omega) (by omega)]
 · simp [hb, hoth 0 (by omega) (by omega), hoth 2 (by omega) (by omega)]
 · simp [hb, hoth 0 (by omega) (by omega), hoth 1 (by omega) (by omega)]
/-- What Reading returns, and what is not among it. -/
theorem read_has (hv : ValidT s) (ht : IsTree l) (hl : l.length = s.editions.length) (hx : x < s.editions.length) (hp : p < s.places.length) (hc : costL s l < 1000) (hk : s.r x p = 0) {n : Nat} (hn : n < 3) :
   ((((n : Int) + 1) ∈ readTo s l x p 3) ↔ (costL (setS s x p ((n : Int) + 1)) l < 1000 ∧ costL (setS s x p ((n : Int) + 1)) l = costL s l)) ∧ (costL (setS s x p ((n : Int) + 1)) l < 1000 → costL s l ≤ costL (setS s x p ((n : Int) + 1)) l) := by
 have hfit : fitR s p x ((n : Int) + 1) := .inl hk
 obtain ⟨h1, h2⟩ := cost_set (v := (n : Int) + 1) hv ht hx hp hl (by omega) hfit hc
 refine ⟨?_, fun h => (h2 h).1⟩
 rw [readTo_mem]
 have h3 := (cost_sum hc).2 p hp
 constructor
 · rintro ⟨m, hm, hb, he⟩
   obtain rfl : m = n := by omega
   have h4 := ((readB_iff hv ht hl hx hp hc hm).1 hb).2
   have h5 := h1.2 (by omega)
   exact ⟨h5, (h2 h5).2.2 h4⟩
 · rintro ⟨h4, h5⟩
   exact ⟨n, hn, (readB_iff hv ht hl hx hp hc hn).2 ⟨hfit, (h2 h4).2.1 h5⟩, rfl⟩
theorem tree_err_set (h0 : (checkT s).2.2 = 0) (ht : IsTree l) (hl : l.length = s.editions.length) (hx : x < s.editions.length) {v : Int} (hv3 : 0 ≤ v ∧ v ≤ 3) : treeErr (setS s x p v) l = 0 :=
 tree_err0 (check_set h0 hx hv3) (by rw [Cy]; exact hl) ht
end
end Go.Proofs.Ytccogmkhijgelaa
namespace Go.Proofs.Ytccogmkhijgelaa
open Go.RowKit
section
variable {P : Program} {n : Nat} {B : Base} {e : Env} {σ : St} {d : Option Nat} {ty : TypeId} {pos : String} {af : Array Edge} {gd : Option (Nat × Bool)}
theorem setAt_mid {l vs : List Value} {j : Nat} (h : j + vs.length ≤ l.length) : setAt l.toArray j vs = (l.take j ++ (vs ++ l.drop (j + vs.length))).toArray := by
 have h1 := setAt_to vs (l.take j) (l.drop j) (by rw [List.length_drop]; omega)
 rw [List.take_append_drop, List.length_take, Nat.min_eq_left (by omega), List.drop_drop] at h1
 exact h1
theorem x_storeRn {T E s k j m : Nat} {x y : Operand} {v u : Value} {vs cs : List Value} {R TT : List (Nat × Obj)} {f g : List (Nat × Obj) → List (Nat × Obj)} {K : Value → St → Prop} (hT : SizeT P T m) (hx : ev e x = .pointer (some (addc (base v) j))) (hy : ev e y = u) (hu : u.cells = vs.toArray) (hm : vs.length = m)
   (hown : Own E s v k cs R) (hj : j + m ≤ cs.length) (h0 : 0 < m) (h1 : ∀ z ∈ vs, z.oneCell' = true) (hH : Hole σ.H TT f) (hR : Tail TT R g) (hn : ∀ R', Own E s v k (cs.take j ++ (vs ++ cs.drop (j + m))) R' → K undef ⟨σ.F, f (g R')⟩) : OpX P n B ⟨d, .store T x y, ty, pos, af, gd⟩ e σ K := .run fun w hw => by
 subst hm
 obtain ⟨A, q1, q2⟩ := hH.eq
 obtain ⟨C, r1, r2⟩ := hR.eq
 match R, hown with
 | [], h => obtain ⟨-, -, rfl⟩ := h; simp only [List.length_nil] at hj; omega
 | [(bb, o)], h =>
   obtain ⟨cap, spare, rfl, rfl, h3, h4, h5⟩ := h
   have hH' : σ.H = A ++ ([(bb, bx E (cs ++ spare))] ++ C) := by rw [q1, r1]
   have hb := (hw.own (bb, bx E (cs ++ spare)) (by rw [hH']; simp)).1
   obtain ⟨w', e1, e2, e3, e4, e5, e6, e7⟩ := Dp (P := P) vs j 0 (cs ++ spare).toArray w hb (by simp; omega) h1
   rw [Nat.add_zero, setAt_mid (by rw [List.length_append]; omega)] at e6
   have hset : (cs ++ spare).take j ++ (vs ++ (cs ++ spare).drop (j + vs.length)) = (cs.take j ++ (vs ++ cs.drop (j + vs.length))) ++ spare := by
     rw [List.take_append_of_le_length (by omega), List.drop_append_of_le_length (by omega)]; simp
   rw [hset] at e6
   have had : addc (base (.slice (some ⟨bb, 0, none⟩) k cap)) j = ⟨bb, j, none⟩ := by simp [addc, base]
   rw [had] at hx
   have hrun : (execOp (ev e) ⟨d, .store T x y, ty, pos, af, gd⟩).run P w = .ok .skip w' := by
     simp [execOp, hx, hy, Instr.storeAt, Instr.sureAddr, storeVar, hu, Ck hT, e1]
   have hl : (cs.take j ++ (vs ++ cs.drop (j + vs.length))).length = cs.length := by simp; omega
   have hnew := hn [(bb, bx E ((cs.take j ++ (vs ++ cs.drop (j + vs.length))) ++ spare))] ⟨cap, spare, rfl, rfl, by rw [hl]; exact h3, by rw [List.length_append, hl]; simpa using h4, h5⟩
   rw [r2, q2] at hnew
   exact ⟨_, _, _, .inr ⟨hrun, rfl⟩, hw.rewrite hH' e2 e3 e4 e5 e6 e7, hnew⟩
end
theorem flat_put {α : Type} {enc : α → List Value} {s : Nat} (hs : ∀ x, (enc x).length = s) {x : α} : ∀ (l : List α) (i : Nat), i < l.length → (l.flatMap enc).take (i * s) ++ (enc x ++ (l.flatMap enc).drop (i * s + s)) = (l.set i x).flatMap enc
 | [], i, hi => absurd hi (by simp)
 | a :: l, 0, hi => by
   simp only [List.flatMap_cons, List.set_cons_zero, Nat.zero_mul, Nat.zero_add, List.take_zero, List.nil_append]
   rw [List.drop_append_of_le_length (by rw [hs]; exact Nat.le_refl _), List.drop_of_length_le (by rw [hs]; exact Nat.le_refl _), List.nil_append]
 | a :: l, i + 1, hi => by
   simp only [List.flatMap_cons, List.set_cons_succ]
   have ih := flat_put hs (x := x) l i (by simpa using hi)
   rw [Nat.add_mul, Nat.one_mul, Nat.add_comm (i * s) s, ← hs a, List.take_append, List.take_of_length_le (by omega), Nat.add_sub_cancel_left, Nat.add_assoc, List.drop_append, List.drop_of_length_le (by omega), Nat.add_sub_cancel_left, List.nil_append, List.append_assoc, hs a, ih]
theorem own_elem {α : Type} {F : Heap} {H R : List (Nat × Obj)} {E s k : Nat} {v : Value} {enc : α → List Value} {xs : List α} (hs : ∀ x, (enc x).length = s) (h : Own E s v k (xs.flatMap enc) R) (hm : ∀ p ∈ R, p ∈ H) {i : Nat} (hi : i < xs.length) : ∀ j u, (enc xs[i])[j]? = some u → Cell ⟨F, H⟩ (addc (addc (base v) (i * s)) j) u := fun j u hu => by
 rw [addc_addc]
 have hj : j < s := by have := (List.getElem?_eq_some_iff.1 hu).1; rw [hs] at this; exact this
 exact own_cell h hm (flat_at hs xs i hi hu)
end Go.Proofs.Ytccogmkhijgelaa
namespace Go.Proofs.Ytccogmkhijgelaa
theorem ed_own_put {E : Nat} {w : Go.Value} {R : List (Nat × Go.Obj)} {ps : List (Go.Value × Edn)} {x : Nat} {u : Go.Value} {e : Edn} (h : Own E 4 w ps.length ((ps.flatMap edE).take (x * 4) ++ (edE (u, e) ++ (ps.flatMap edE).drop (x * 4 + 4))) R) (hx : x < ps.length) :
   Own E 4 w (ps.set x (u, e)).length ((ps.set x (u, e)).flatMap edE) R := by
 rw [flat_put edE_len (x := (u, e)) ps x hx] at h
 rw [List.length_set]; exact h
end Go.Proofs.Ytccogmkhijgelaa
namespace Go.Proofs.Ytccogmkhijgelaa
open Go.RowKit
set_option maxRecDepth 100000 in
theorem with_ok7 {F : Heap} {vp ve : Value} {ps : List (Value × Edn)} {s : Stm} (hr : StmR F vp ve ps s) (hv : ValidT s) {x p : Nat} (hx : x < s.editions.length) (hp : p < s.places.length) (z : Int) : Ok Try.prog 45 [.agg #[vp, ve], .int .i64 (x : Int), .int .i64 (p : Int), .int .i64 z].toArray F fun u F' => ∃ ve' ps', u = .agg #[vp, ve'] ∧ StmR F' vp ve' ps' (setS s x p z) := by
 have hle0 : F.le F := Heap.le_refl _
 refine Ok.intro Try.func45 rfl Try.ntmps45 rfl fun w0 => ?_
 have hL1 := hr.eds.plain.lt
 have hlen := hr.len
 have hxp : x < ps.length := by omega
 have hrx := hr.rd hxp
 have hrl := hv.rdl x hx
 have hpx : p < (s.ed x).rd.length := by omega
 have e1 := hr.at hxp
 have hne := hv.ne
 have hnp := hv.np
 refine Af <| Ai fun ds => Bg rfl (B1 (Aj rfl) rfl fun b1 hb1 nb1 => ?_)
 refine Bg rfl (B8 zr_25 rfl fun b2 hb2 nb2 => ?_)
 refine Ah <| Ac <| Af <| Ai fun ds => Bg rfl (x_build0 B5 fun b3 hb3 nb3 => ?_)
 refine Aa rfl (Al Br (Ar rfl <| Ad)) ?_
 refine Aa rfl (Ap Bz (Ad) (Cell.own 2 rfl rfl)) ?_
 refine Bg rfl (Cl B5 el_64 (Ar rfl <| Ad) (own_box rfl) (Ad) (src_eds hr.eds hr.one) (by omega) (by omega) (.z) .box fun v4 R5 ho6 => ?_)
 have ho1 : Own 64 4 v4 ps.length (ps.flatMap edE) R5 := by simpa using ho6
 refine Aa rfl (Al Br (A1 rfl <| Ak rfl <| Ad)) ?_
 refine Dz (.one (.skip <| .here) <| .one (.lastS) <| .lastb (.last)) ?_
 refine Cf (Ci sz_23 (Ad) (Ak rfl <| Ad) (i := 1) rfl (.next <| .here) (Own.one ho1) (.next <| .here) ?_)
 refine Ah <| Ac <| Af <| Ai fun ds => Aa rfl (Al Br (A1 rfl <| Ar rfl <| Ad)) ?_
 refine Aa rfl (Ap Bz (Ad) (Cell.own 1 rfl rfl)) ?_
 refine Aa rfl (Ag (A6 rfl <| Ak rfl <| Aj rfl)) ?_
 refine Aa rfl (Bf (k := x) B5 (Ak rfl <| Ad) (ho1.plain (by omega)) (Ad) rfl hxp) ?_
 refine Aa rfl (A9 En (Ad) rfl rfl (own_elem edE_len ho1 (fun p hp => .tail _ (.tail _ (hp))) hxp)) ?_
 refine Bg rfl (B8 zr_64 rfl fun b7 hb7 nb7 => ?_)
 refine Cf (Cd sz_64 (Ad) (Ak rfl <| Ad) (i := 0) rfl rfl rfl rfl (edE_one (hr.one _ (List.getElem_mem hxp))) (.here) ?_)
 refine Ah <| Ac <| Af <| Ai fun ds => Bg rfl (B6 Bj C6 rfl .nil rfl rfl (by decide) (by simp [Value.oneCell']) fun b8 hb8 nb8 => ?_)
 refine Aa rfl (Al Cb (Ak rfl <| Ad)) ?_
 refine Aa rfl (Ap Ce (Ad) (Cell.own 1 rfl rfl)) ?_
 refine Bg rfl (Cl Bj el_3 (Ar rfl <| Ad) (own_box rfl) (Ad) hrx.srcInt (by omega) (by omega) (.z) .box fun v9 R10 ho11 => ?_)
 have ho2 : Own 3 1 v9 (s.ed x).rd.length ((s.ed x).rd.flatMap intE) R10 := by simpa using ho11
 have hpone : ∀ u ∈ [Value.string ps[x].2.name, .int .i64 ps[x].2.lo, .int .i64 ps[x].2.hi, v9], u.oneCell' = true := by intro u hu; simp only [List.mem_cons, List.not_mem_nil, or_false] at hu; rcases hu with rfl | rfl | rfl | rfl; rfl; rfl; rfl; exact ho2.one
 refine Aa rfl (Al Cb (A1 rfl <| Ad)) ?_
 refine Dz (.one (.skip <| .here) <| .one (.skip <| .here) <| .one (.skip <| .here) <| .blk (.lastS) <| .lastb (.last)) ?_
 refine Cf (Ci sz_26 (Ad) (Ak rfl <| Ad) (i := 0) rfl (.next <| .next <| .next <| .here) (Own.one ho2) (.here) ?_)
 refine Ah <| Ac <| Af <| Ai fun ds => Aa rfl (Al Cb (A1 rfl <| Ak rfl <| Ad)) ?_
 refine Aa rfl (Ap Ce (Ad) (Cell.own 0 rfl rfl)) ?_
 refine Aa rfl (Ag (A3 rfl <| A1 rfl <| Aj rfl)) ?_
 refine Aa rfl (Ag (A3 rfl <| A1 rfl <| Ak rfl <| Aj rfl)) ?_
 refine Aa rfl (Bf (k := p) Bj (Ar rfl <| Ad) (ho2.plain (by omega)) (Ak rfl <| Ad) rfl hpx) ?_
 refine Cf (x_storeR sz_3 (Ad) (Ak rfl <| Ad) ho2 (by rw [Dr (enc := intE) (s := 1) (fun _ => rfl)]; omega) rfl (.s <| .s <| .s <| .k <| .z) .last fun R12 ho13 => ?_)
 have ho3 := ho13
 rw [show p * 1 = p * 1 + 0 from rfl, int_flat_set hpx] at ho3
 replace ho3 := ho3.to (k' := ((s.ed x).rd.set p z).length) (by simp)
 refine Ah <| Ac <| Af <| Ai fun ds => Aa rfl (Al Br (A3 rfl <| A1 rfl <| Ar rfl <| Ad)) ?_
 refine Aa rfl (Ap Bz (Ad) (Cell.own 2 rfl rfl)) ?_
 refine Aa rfl (Ag (A3 rfl <| A6 rfl <| Ak rfl <| Aj rfl)) ?_
 refine Aa rfl (A9 En (A6 rfl <| A1 rfl <| Ak rfl <| Ad) rfl rfl (A5 0 rfl)) ?_
 refine Aa rfl (Bf (k := x) B5 (Ar rfl <| Ad) (ho1.plain (by omega)) (Ak rfl <| Ad) rfl hxp) ?_
 refine Cf (x_storeRn sz_64 (Ad) (Ak rfl <| Ad) rfl rfl ho1 (by rw [Dr edE_len]; omega) (by decide) hpone (.s <| .s <| .s <| .z) .more fun R9 ho9 => ?_)
 refine Ah <| Ac <| Af ?_
 have ho9b := by have h9 := ho9; rw [e1] at h9; exact ed_own_put (e := (s.ed x).setR p z) h9 hxp
 refine Cs (σ := ⟨_, _⟩) (by rfl) ho3 (.s <| .s <| .s <| .k <| .z) .last fun F14 hF15 hz16 => ?_
 replace hr := hr.mono hF15
 refine WC_pickB (.one (.here) <| .one (.here) <| .one (.here) <| .lastb (.here)) ?_
 have hrn := ho3.sl (fun _ => rfl) hz16 (by simp; omega)
 refine Cs (σ := ⟨_, _⟩) (by rfl) ho9b (.s <| .s <| .s <| .z) .last fun F17 hF18 hz19 => ?_
 replace hr := hr.mono hF18
 replace hrn := hrn.mono hF18
 have hen := ho9b.sl (fun _ => rfl) hz19 (by simp; omega)
 refine Ai fun ds => Aa rfl (A9 B7 (A3 rfl <| A6 rfl <| Ar rfl <| Ak rfl <| Ad) rfl rfl (A5 2 rfl)) ?_
 refine Cf (Cd sz_25 (A3 rfl <| A6 rfl <| Ar rfl <| Ak rfl <| Ad) (Ad) (i := 1) rfl rfl rfl rfl (by intro u hu; simp only [List.mem_cons, List.not_mem_nil, or_false] at hu; rcases hu with rfl | rfl; exact hr.places.plain.one; exact hen.plain.one) (.next <| .here) ?_)
 refine Ah <| Ac <| A2 <| Au rfl (.agg B7 (A3 rfl <| A6 rfl <| Ar rfl <| Ak rfl <| Ad) rfl rfl (A5 1 rfl) .nil) ?_
 exact ⟨_, _, rfl, hr.set hen hrn⟩
end Go.Proofs.Ytccogmkhijgelaa
namespace Go.Proofs.Ytccogmkhijgelaa
open Go.RowKit
theorem bd_45 : Body Try.prog 45 := Bp (by kernel_rfl)
theorem bd_46 : Body Try.prog 46 := Bp (by kernel_rfl)
set_option maxRecDepth 100000 in
set_option maxHeartbeats 1000000 in
theorem filledLaw_ok {F : Heap} {vp ve : Value} {ps : List (Value × Edn)} {s : Stm} (hr : StmR F vp ve ps s) {vx : Value} {xs : List Nat} (hxs : Sl F vx 1 u8E xs) (hxb : ∀ x ∈ xs, x < 256) {wa wb : Nat} (hwa : wa < 256) (hwb : wb < 256) : Ok Try.prog 9 [.agg #[vp, ve], vx, .agg #[.int .u8 (wa : Int), .int .u8 (wb : Int)]].toArray F fun u _ => u = .bool true := by
 have hle0 : F.le F := Heap.le_refl _
 refine Ok.intro Try.func9 rfl Try.ntmps9 rfl fun w0 => ?_
 have hL1 := hr.eds.plain.lt
 have hL2 := hr.places.plain.lt
 have hlen := hr.len
 by_cases h0 : (checkT s).2.2 = 0
 ·
  have hv := Dj h0
  have hne := hv.ne
  have hnp := hv.np
  refine Af <| Ai fun ds => Bg rfl (B1 (Aj rfl) rfl fun b1 hb1 nb1 => ?_)
  refine Bg rfl (B1 (Ak rfl <| Aj rfl) rfl fun b2 hb2 nb2 => ?_)
  refine Aa rfl (Ae Ab) ?_
  refine Ah <| Ac <| Af <| Af <| Ai fun ds => Aa rfl (A9 B7 (Ar rfl <| Ad) rfl rfl (A5 1 rfl)) ?_
  refine Bx rfl (Bb bd_40 Az (.cons (Ad) .nil) (valid_ok hr) (fun _ _ h => h)) ?_
  refine Aa rfl (Cm (Ad)) ?_
  refine Ah <| Ac <| Ao (Ad) (by simp [h0]) ?_
  refine Ax <| Ac <| Af <| Ai fun ds => Aa rfl (Al Br (A1 rfl <| Ak rfl <| Ad)) ?_
  refine Aa rfl (Ap Bz (Ad) (Cell.own 1 rfl rfl)) ?_
  refine Aa rfl (Bk B5 (Ad) hr.eds.plain) ?_
  refine Aa rfl (Ag (A6 rfl <| Ak rfl <| Aj rfl)) ?_
  refine Bg rfl (Cj bd_41 Az (.cons (Ak rfl <| Ad) (.cons (Ad) .nil)) (tree_ok7 hxs hxb (many := ps.length) (by omega) (by omega)) fun v3 F4 hr5 hF6 => ?_)
  replace hr := hr.mono hF6
  replace hle0 := Heap.le_trans hle0 hF6
  obtain ⟨l, hl, hll0, ht⟩ := hr5
  have hll : l.length = s.editions.length := by omega
  have hok := tree_err0 h0 hll ht
  refine Aa rfl (Ae (Ad)) ?_
  refine Ah <| Ac <| Af ?_
  have hxe : (wa % ps.length) < s.editions.length := by have : (wa % ps.length) < ps.length := Nat.mod_lt _ (by omega); omega
  have hpe : (wb % s.places.length) < s.places.length := Nat.mod_lt _ (by omega)
  have hxp : (wa % ps.length) < ps.length := by omega
  have h12 : (inB 0 (s.editions.length - 1) (((wa % ps.length) : Nat) : Int) && inB 0 (s.places.length - 1) (((wb % s.places.length) : Nat) : Int)) = true := by simp [inB]; omega
  have hcb := costL_bound (s := s) (l := l)
  by_cases hc : costL s l = 1000
  ·
   have hce := changesE_down hok hc
   refine Da (.inl rfl) (fun _ _ h => h) (by kernel_rfl) (by kernel_rfl) fun ds => ?_
   refine Bl rfl (Bo (k := 0) ar_62 (A6 rfl <| Ar rfl <| Ad) Ab rfl (by decide)) ?_
   refine Bl rfl (Ap one_5 (Ad) (Cell.own 0 rfl rfl)) ?_
   refine Bl rfl (q_convert ⟨_, Try.underlying5⟩ Try.underlying3 (Ad) (IntWalk.i64_in _ ⟨by omega, by omega⟩)) ?_
   refine Bl rfl (Al Br (A6 rfl <| A1 rfl <| Ar rfl <| Ad)) ?_
   refine Bl rfl (Ap Bz (Ad) (Cell.own 1 rfl rfl)) ?_
   refine Bl rfl (Bk B5 (Ad) hr.eds.plain) ?_
   refine Bl rfl (q_remN (Ar rfl <| Ak rfl <| Ad) (Ad) (by omega)) ?_
   refine Bl rfl (Bo (k := 1) ar_62 (A3 rfl <| Ak rfl <| Ad) Ab rfl (by decide)) ?_
   refine Bl rfl (Ap one_5 (Ad) (Cell.own 0 rfl rfl)) ?_
   refine Bl rfl (q_convert ⟨_, Try.underlying5⟩ Try.underlying3 (Ad) (IntWalk.i64_in _ ⟨by omega, by omega⟩)) ?_
   refine Bl rfl (Al Cr (A3 rfl <| A1 rfl <| Ak rfl <| Ad)) ?_
   refine Bl rfl (Ap C0 (Ad) (Cell.own 1 rfl rfl)) ?_
   refine Bl rfl (Bk C5 (Ad) hr.places.plain) ?_
   refine Bl rfl (q_remN (Ar rfl <| Ak rfl <| Ad) (Ad) (by omega)) ?_
   refine Bl rfl (Ae (A1 rfl <| Ar rfl <| Ak rfl <| Ad)) ?_
   refine Bl rfl (Ae (Ak rfl <| Ad)) ?_
   refine Du ?_
   refine Ac <| Af <| Ai fun ds => Aa rfl (A9 B7 (A3 rfl <| A6 rfl <| Ar rfl <| Ak rfl <| Ad) rfl rfl (A5 1 rfl)) ?_
   refine Aa rfl (Ag (A3 rfl <| Ak rfl <| Ad)) ?_
   refine Aa rfl (Ag (Ar rfl <| Ak rfl <| Ad)) ?_
   refine Aa rfl (Ag (Ar rfl <| Ak rfl <| Ad)) ?_
   refine Bg rfl (Cj bd_35 Az (.cons (Ar rfl <| Ak rfl <| Ad) (.cons (Ar rfl <| Ad) (.cons (Ak rfl <| Ad) (.cons (Ad) .nil)))) (reading_top_ok hr hl _ _) fun v7 F8 hr9 hF10 => ?_)
   replace hr := hr.mono hF10
   replace hl := hl.mono hF10
   have hrd0 := hr9
   rw [readE_bad (readErr_3 hok h12 hc) (by decide)] at hrd0
   obtain ⟨v8, rfl, hrl⟩ := hrd0
   replace hrl : Ints _ v8 [] := hrl
   refine Aa rfl (Ag (Ad)) ?_
   refine Aa rfl (Ay (Ad) rfl) ?_
   refine Aa rfl (Ay (Ak rfl <| Ad) rfl) ?_
   refine Aa rfl (Ae (Ak rfl <| Ad)) ?_
   refine Aa rfl (Ae (Ak rfl <| Ad)) ?_
   refine Ah <| Ac <| Af <| Ai fun ds => Aa rfl (A9 B7 (Bm rfl <| A1 rfl <| Ak rfl <| Ad) rfl rfl (A5 1 rfl)) ?_
   refine Aa rfl (Ag (A3 rfl <| A6 rfl <| Ar rfl <| Ak rfl <| Ad)) ?_
   refine Bx rfl (Bb bd_21 Az (.cons (Ak rfl <| Ad) (.cons (Ad) .nil)) (De hr hl) (fun _ _ h => h.trans (show changesEV s l = .tuple #[.int .i64 (changesE s l).1, .int .i64 (changesE s l).2] from rfl))) ?_
   refine Aa rfl (Ag (Ad)) ?_
   refine Aa rfl (Ay (Ad) rfl) ?_
   refine Aa rfl (Ay (Ak rfl <| Ad) rfl) ?_
   refine Aa rfl (Ae (Ak rfl <| Ad)) ?_
   refine Aa rfl (Ae (Ak rfl <| Ad)) ?_
   refine Ah <| Ac <| Af <| Af <| Ai fun ds => Aa rfl (Ag (A6 rfl <| Ad)) ?_
   refine Aa rfl (Ag (Ak rfl <| Ad)) ?_
   refine Aa rfl (B2 (Ak rfl <| Ad) (Ad)) ?_
   refine Ah <| Ac <| Ao (Ad) (by rw [hce]; decide) ?_
   refine Ax <| Ac <| Af <| Af <| Ai fun ds => Aa rfl (Ag (A6 rfl <| Ar rfl <| Ak rfl <| Ad)) ?_
   refine Aa rfl (B2 (Ad) Ab) ?_
   refine Ah <| Ac <| Aq (Ad) (by decide) ?_
   refine Af <| Ai fun ds => Aa rfl (Ag (A6 rfl <| A1 rfl <| Ak rfl <| Ad)) ?_
   refine Aa rfl (Bu (Ad) Ab) ?_
   refine Aa rfl (Ag (Ad)) ?_
   refine As rfl rfl (Ad) (by decide) ?_
   refine Aa rfl (Ag (A3 rfl <| Ak rfl <| Ad)) ?_
   refine As rfl rfl (Ak rfl <| Ad) (by decide) ?_
   refine Aa rfl (Bk Bj (Ad) hrl.plain) ?_
   refine As rfl rfl (Ar rfl <| Ad) (by decide) ?_
   refine Aa rfl (Bu (Ad) Ab) ?_
   refine Aa rfl (A4 (Ar rfl <| Ak rfl <| Ad) (by decide) (Ad)) ?_
   refine Aa rfl (Ag (Ad)) ?_
   refine As rfl rfl (Ad) (by decide) ?_
   refine Bx rfl (Bb bd_26 Az .nil awake_ok (fun _ _ h => h)) ?_
   refine Aa rfl (A4 (Ak rfl <| Ad) (by decide) (Ad)) ?_
   refine Aa rfl (Ae (Ad)) ?_
   refine Ah <| Ac <| A2 <| A8 ?_
   refine Au rfl (.tmp (Ad) .nil) ?_
   rfl
  ·
   have hce := changesE_ok hok hc
   have hclt : costL s l < 1000 := by omega
   have hrx := hr.rd hxp
   have hpx : (wb % s.places.length) < (s.ed (wa % ps.length)).rd.length := by rw [hv.rdl _ hxe]; exact hpe
   have er := rdT_at hpx
   have hrb := hv.rd _ _ hxe hpe
   have hnz := read_len hv ht hll hxe hpe hclt
   refine Da (.inl rfl) (fun _ _ h => h) (by kernel_rfl) (by kernel_rfl) fun ds => ?_
   refine Bl rfl (Bo (k := 0) ar_62 (A6 rfl <| Ar rfl <| Ad) Ab rfl (by decide)) ?_
   refine Bl rfl (Ap one_5 (Ad) (Cell.own 0 rfl rfl)) ?_
   refine Bl rfl (q_convert ⟨_, Try.underlying5⟩ Try.underlying3 (Ad) (IntWalk.i64_in _ ⟨by omega, by omega⟩)) ?_
   refine Bl rfl (Al Br (A6 rfl <| A1 rfl <| Ar rfl <| Ad)) ?_
   refine Bl rfl (Ap Bz (Ad) (Cell.own 1 rfl rfl)) ?_
   refine Bl rfl (Bk B5 (Ad) hr.eds.plain) ?_
   refine Bl rfl (q_remN (Ar rfl <| Ak rfl <| Ad) (Ad) (by omega)) ?_
   refine Bl rfl (Bo (k := 1) ar_62 (A3 rfl <| Ak rfl <| Ad) Ab rfl (by decide)) ?_
   refine Bl rfl (Ap one_5 (Ad) (Cell.own 0 rfl rfl)) ?_
   refine Bl rfl (q_convert ⟨_, Try.underlying5⟩ Try.underlying3 (Ad) (IntWalk.i64_in _ ⟨by omega, by omega⟩)) ?_
   refine Bl rfl (Al Cr (A3 rfl <| A1 rfl <| Ak rfl <| Ad)) ?_
   refine Bl rfl (Ap C0 (Ad) (Cell.own 1 rfl rfl)) ?_
   refine Bl rfl (Bk C5 (Ad) hr.places.plain) ?_
   refine Bl rfl (q_remN (Ar rfl <| Ak rfl <| Ad) (Ad) (by omega)) ?_
   refine Bl rfl (Ae (A1 rfl <| Ar rfl <| Ak rfl <| Ad)) ?_
   refine Bl rfl (Ae (Ak rfl <| Ad)) ?_
   refine Du ?_
   refine Ac <| Af <| Ai fun ds => Aa rfl (A9 B7 (A3 rfl <| A6 rfl <| Ar rfl <| Ak rfl <| Ad) rfl rfl (A5 1 rfl)) ?_
   refine Aa rfl (Ag (A3 rfl <| Ak rfl <| Ad)) ?_
   refine Aa rfl (Ag (Ar rfl <| Ak rfl <| Ad)) ?_
   refine Aa rfl (Ag (Ar rfl <| Ak rfl <| Ad)) ?_
   refine Bg rfl (Cj bd_35 Az (.cons (Ar rfl <| Ak rfl <| Ad) (.cons (Ar rfl <| Ad) (.cons (Ak rfl <| Ad) (.cons (Ad) .nil)))) (reading_top_ok hr hl _ _) fun v11 F12 hr13 hF14 => ?_)
   replace hr := hr.mono hF14
   replace hle0 := Heap.le_trans hle0 hF14
   replace hl := hl.mono hF14
   replace hrx := hrx.mono hF14
   have hrd0 := hr13
   rw [readE_ok (readErr_0 hok h12 hc), Int.toNat_natCast, Int.toNat_natCast] at hrd0
   obtain ⟨v8, rfl, hrl⟩ := hrd0
   replace hrl : Ints _ v8 (readTo s l (wa % ps.length) (wb % s.places.length) 3) := hrl
   refine Aa rfl (Ag (Ad)) ?_
   refine Aa rfl (Ay (Ad) rfl) ?_
   refine Aa rfl (Ay (Ak rfl <| Ad) rfl) ?_
   refine Aa rfl (Ae (Ak rfl <| Ad)) ?_
   refine Aa rfl (Ae (Ak rfl <| Ad)) ?_
   refine Ah <| Ac <| Af <| Ai fun ds => Aa rfl (A9 B7 (Bm rfl <| A1 rfl <| Ak rfl <| Ad) rfl rfl (A5 1 rfl)) ?_
   refine Aa rfl (Ag (A3 rfl <| A6 rfl <| Ar rfl <| Ak rfl <| Ad)) ?_
   refine Bx rfl (Bb bd_21 Az (.cons (Ak rfl <| Ad) (.cons (Ad) .nil)) (De hr hl) (fun _ _ h => h.trans (show changesEV s l = .tuple #[.int .i64 (changesE s l).1, .int .i64 (changesE s l).2] from rfl))) ?_
   refine Aa rfl (Ag (Ad)) ?_
   refine Aa rfl (Ay (Ad) rfl) ?_
   refine Aa rfl (Ay (Ak rfl <| Ad) rfl) ?_
   refine Aa rfl (Ae (Ak rfl <| Ad)) ?_
   refine Aa rfl (Ae (Ak rfl <| Ad)) ?_
   refine Ah <| Ac <| Af <| Af <| Ai fun ds => Aa rfl (Ag (A6 rfl <| Ad)) ?_
   refine Aa rfl (Ag (Ak rfl <| Ad)) ?_
   refine Aa rfl (B2 (Ak rfl <| Ad) (Ad)) ?_
   refine Ah <| Ac <| Ao (Ad) (by rw [hce]; exact decide_eq_false (fun h => h rfl)) ?_
   refine Ax <| Ac <| Af <| Af <| Ai fun ds => Aa rfl (Ag (A6 rfl <| Ar rfl <| Ak rfl <| Ad)) ?_
   refine Aa rfl (B2 (Ad) Ab) ?_
   refine Ah <| Ac <| Ao (Ad) (decide_eq_false (fun h => h rfl)) ?_
   refine Ax <| Ac <| Af <| Ai fun ds => Aa rfl (Al Br (Bm rfl <| A3 rfl <| Ar rfl <| Ad)) ?_
   refine Aa rfl (Ap Bz (Ad) (Cell.own 1 rfl rfl)) ?_
   refine Aa rfl (Ag (A3 rfl <| A6 rfl <| Ar rfl <| Ad)) ?_
   refine Aa rfl (Bf (k := (wa % ps.length)) B5 (Ak rfl <| Ad) hr.eds.plain (Ad) rfl hxp) ?_
   refine Aa rfl (Bs Cb (Ad)) ?_
   refine Aa rfl (Ap Ce (Ad) (hr.eds.cell hxp rfl)) ?_
   refine Aa rfl (Ag (A3 rfl <| A6 rfl <| A1 rfl <| Ak rfl <| Ad)) ?_
   refine Aa rfl (Bf (k := (wb % s.places.length)) Bj (Ak rfl <| Ad) hrx.plain (Ad) rfl hpx) ?_
   refine Aa rfl (Ap Bn (Ad) (hrx.cell1 hpx rfl)) ?_
   refine Aa rfl (Ae (Ad)) ?_
   refine Ah <| Ac <| Af <| Af <| Ai fun ds => Aa rfl (Ag (A3 rfl <| A6 rfl <| Ad)) ?_
   refine Aa rfl (Bk Bj (Ad) hrl.plain) ?_
   refine Aa rfl (Bu (Ad) Ab) ?_
   refine Aa rfl (Ag (Ad)) ?_
   refine As rfl rfl (Ad) (decide_eq_false (by omega)) ?_
   refine Aa rfl (Ag (A1 rfl <| Ad)) ?_
   refine As rfl rfl (Ak rfl <| Ad) (decide_eq_false (by omega)) ?_
   refine Aa rfl (C9 (Ad) Ab) ?_
   refine As rfl rfl (Ar rfl <| Ad) (decide_eq_false (by omega)) ?_
   refine Aa rfl (Ag (Ad)) ?_
   by_cases hk0 : s.r (wa % ps.length) (wb % s.places.length) = 0
   ·
    refine Aw rfl rfl (Ad) (.inl (congrArg Value.bool (by rw [er]; exact decide_eq_false (by omega)))) rfl ?_
    refine Aw rfl rfl (Ak rfl <| Ad) (.inl (congrArg Value.bool (by rw [er]; exact decide_eq_false (by omega)))) rfl ?_
    refine Aw rfl rfl (Ar rfl <| Ad) (.inl (congrArg Value.bool (by rw [er]; exact decide_eq_false (by omega)))) rfl ?_
    refine Aw rfl rfl (Ar rfl <| Ak rfl <| Ad) (.inl (congrArg Value.bool (by rw [er]; exact decide_eq_false (by omega)))) rfl ?_
    refine Aw rfl rfl (A1 rfl <| Ad) (.inl (congrArg Value.bool (by rw [er]; exact decide_eq_false (by omega)))) rfl ?_
    refine As rfl rfl (A6 rfl <| Ad) (decide_eq_false (by omega)) ?_
    refine Aa rfl (Ba (A1 rfl <| Ak rfl <| Ad) (by rw [er]; exact decide_eq_false (by omega)) Ab) ?_
    refine Aa rfl (Ba (A6 rfl <| Ak rfl <| Ad) (decide_eq_false (by omega)) (Ad)) ?_
    refine Ah <| Ac <| Ao (Ad) rfl ?_
    refine Ax <| Ac <| Af <| Af <| Ai fun ds => Aa rfl (Ae Ab) ?_
    refine Ah <| Ac <| A0 <| Bt [6, 15, 16, 17, 93, 94, 95, 96, 97, 98, 99, 100, 101, 102, 103, 104, 105, 106, 107, 108, 109, 110, 111, 112, 113, 114, 115, 116, 117, 118, 119, 120, 121, 122, 123, 124, 125, 126, 127, 128, 129, 130] (fun m e σ => ∃ G, F12.le G ∧ ∃ n : Nat, m + n = 3 ∧ e 15 = .int .i64 ((n : Int) + 1) ∧ σ = ⟨G, [(b2, bx 62 [.int .u8 (wa : Int), .int .u8 (wb : Int)]), (b1, bx 25 [vp, ve])]⟩) (3) ?_ ?_
    · exact ⟨_, Heap.le_refl _, 0, by omega, (Ad), rfl⟩
    ·
     rintro m e _ ⟨G, hFG, n, hm, hs15, rfl⟩; replace hr := hr.mono hFG; replace hl := hl.mono hFG; replace hrx := hrx.mono hFG; replace hrl := hrl.mono hFG; replace hle0 := Heap.le_trans hle0 hFG
     by_cases hlt : n < 3
     ·
      have hres : treeErr (setS s (wa % ps.length) (wb % s.places.length) ((n : Int) + 1)) l = 0 := tree_err_set h0 ht hll hxe (by omega)
      obtain ⟨hha, hhb⟩ := read_has hv ht hll hxe hpe hclt hk0 hlt
      have hcb2 := costL_bound (s := (setS s (wa % ps.length) (wb % s.places.length) ((n : Int) + 1))) (l := l)
      refine Af <| Af <| Ai fun ds => Aa rfl (Ag (Am rfl <| A6 rfl <| A1 rfl <| Ar rfl <| Ak rfl <| Ad)) ?_
      refine Aa rfl (Bu (Ad) Ab) ?_
      refine Aa rfl (Ag (Ad)) ?_
      refine As rfl rfl (Ad) (by rw [er]; exact decide_eq_true hk0) ?_
      refine Aa rfl (Ag (Ar rfl <| Ak rfl <| At rfl hs15)) ?_
      refine As rfl rfl (Ak rfl <| Ad) (by rw [er]; exact decide_eq_true hk0) ?_
      refine Aa rfl (Ek (Ad) Ab) ?_
      refine Aa rfl (A4 (Ar rfl <| Ad) (by rw [er]; exact decide_eq_true hk0) (Ad)) ?_
      refine Ah <| Ac <| Aq (Ad) (decide_eq_true (by omega)) ?_
      by_cases hc2 : costL (setS s (wa % ps.length) (wb % s.places.length) ((n : Int) + 1)) l = 1000
      ·
       have hce2 := changesE_down hres hc2
       have hno : ¬ ((n : Int) + 1) ∈ (readTo s l (wa % ps.length) (wb % s.places.length) 3) := fun h => by have := (hha.1 h).1; omega
       refine Ax <| Ac <| Af <| A0 <| Af <| Ai fun ds => Aa rfl (A9 B7 (A1 rfl <| Ar rfl <| Am rfl <| Bm rfl <| Bm rfl <| A6 rfl <| Ar rfl <| Ak rfl <| Ad) rfl rfl (A5 1 rfl)) ?_
       refine Aa rfl (Ag (A1 rfl <| Ar rfl <| Ak rfl <| Am rfl <| Bm rfl <| A3 rfl <| Ak rfl <| Ad)) ?_
       refine Aa rfl (Ag (A6 rfl <| Am rfl <| Bm rfl <| A3 rfl <| Ad)) ?_
       refine Aa rfl (Ag (A6 rfl <| Ak rfl <| At rfl hs15)) ?_
       refine Bg rfl (Cj bd_45 Az (.cons (Ar rfl <| Ak rfl <| Ad) (.cons (Ar rfl <| Ad) (.cons (Ak rfl <| Ad) (.cons (Ad) .nil)))) (with_ok7 hr hv hxe hpe _) fun v16 F17 hr18 hF19 => ?_)
       replace hl := hl.mono hF19
       replace hrl := hrl.mono hF19
       replace hFG := Heap.le_trans hFG hF19
       obtain ⟨ve2, ps2, rfl, hr2⟩ := hr18
       refine Aa rfl (Ag (A6 rfl <| Ar rfl <| Ak rfl <| Am rfl <| Bm rfl <| Bm rfl <| Ad)) ?_
       refine Bx rfl (Bb bd_21 Az (.cons (Ak rfl <| Ad) (.cons (Ad) .nil)) (De hr2 hl) (fun _ _ h => h.trans (show changesEV (setS s (wa % ps.length) (wb % s.places.length) ((n : Int) + 1)) l = .tuple #[.int .i64 (changesE (setS s (wa % ps.length) (wb % s.places.length) ((n : Int) + 1)) l).1, .int .i64 (changesE (setS s (wa % ps.length) (wb % s.places.length) ((n : Int) + 1)) l).2] from rfl))) ?_
       refine Aa rfl (Ag (Ad)) ?_
       refine Aa rfl (Ay (Ad) rfl) ?_
       refine Aa rfl (Ay (Ak rfl <| Ad) rfl) ?_
       refine Aa rfl (Ae (Ak rfl <| Ad)) ?_
       refine Aa rfl (Ae (Ak rfl <| Ad)) ?_
       refine Ah <| Ac <| Af <| Ai fun ds => Aa rfl (Ag (A3 rfl <| Ar rfl <| Am rfl <| Bm rfl <| A1 rfl <| Ar rfl <| Ak rfl <| Ad)) ?_
       refine Aa rfl (Ag (A3 rfl <| Ar rfl <| Ak rfl <| At rfl hs15)) ?_
       refine Bx rfl (Bb bd_46 Az (.cons (Ak rfl <| Ad) (.cons (Ad) .nil)) (has_ok hrl _) (fun _ _ h => h)) ?_
       refine Aa rfl (Ag (Ar rfl <| Ak rfl <| Ad)) ?_
       refine Aa rfl (Bu (Ad) Ab) ?_
       refine Aa rfl (Ag (Ad)) ?_
       refine Aw rfl rfl (Ad) (.inl (congrArg Value.bool (by rw [hce2]; decide))) rfl ?_
       refine Aw rfl rfl (Ak rfl <| Ad) (.inl (congrArg Value.bool (by rw [hce2]; decide))) rfl ?_
       refine Aw rfl rfl (Ar rfl <| Ad) (.inl (congrArg Value.bool (by rw [hce2]; decide))) rfl ?_
       refine Aa rfl (Ba (Ar rfl <| Ak rfl <| Ad) (by rw [hce2]; decide) Ab) ?_
       refine Aa rfl (q_neb Try.underlying4 (A1 rfl <| Ar rfl <| Ak rfl <| Ad) (Ad)) ?_
       refine Aa rfl (Ag (Ad)) ?_
       refine As rfl rfl (Ad) (by rw [decide_eq_false hno]; rfl) ?_
       refine Aa rfl (Ag (A6 rfl <| A1 rfl <| Ad)) ?_
       refine As rfl rfl (Ak rfl <| Ad) (by rw [decide_eq_false hno]; rfl) ?_
       refine Aa rfl (Bu (Ad) Ab) ?_
       refine As rfl rfl (Ar rfl <| Ad) (by rw [decide_eq_false hno]; rfl) ?_
       refine Aa rfl (Ag (Ad)) ?_
       refine Aw rfl rfl (Ad) (.inl (congrArg Value.bool (by rw [hce2]; decide))) rfl ?_
       refine Aw rfl rfl (Ak rfl <| Ad) (.inl (congrArg Value.bool (by rw [hce2]; decide))) rfl ?_
       refine Aw rfl rfl (Ar rfl <| Ad) (.inl (congrArg Value.bool (by rw [hce2]; decide))) rfl ?_
       refine As rfl rfl (A1 rfl <| Ar rfl <| Ad) (by rw [decide_eq_false hno]; rfl) ?_
       refine Aa rfl (Ba (Ar rfl <| Ak rfl <| Ad) (by rw [hce2]; decide) Ab) ?_
       refine Aa rfl (Ba (A1 rfl <| Ar rfl <| Ak rfl <| Ad) (by rw [decide_eq_false hno]; rfl) (Ad)) ?_
       refine Ah <| Ac <| Ao (Ad) rfl ?_
       refine Ax <| Bc <| Ac <| Ai fun ds => Aa rfl (Ag (Bm rfl <| A1 rfl <| Ar rfl <| At rfl hs15)) ?_
       refine Aa rfl (Bv (Ad) Ab rfl (by omega) (by omega)) ?_
       refine Aa rfl (Ae (Ad)) ?_
       refine Ah <| Ac ⟨_, m - 1, Off.eq (ou32 rfl <| D2 rfl <| D7 rfl <| Be), by omega, ?_⟩
       exact ⟨_, hFG, n + 1, by omega, (Ad), rfl⟩
      ·
       have hce2 := changesE_ok hres hc2
       have hc2l : costL (setS s (wa % ps.length) (wb % s.places.length) ((n : Int) + 1)) l < 1000 := by omega
       have hge := hhb hc2l
       have hdd : decide (((n : Int) + 1) ∈ (readTo s l (wa % ps.length) (wb % s.places.length) 3)) = decide (costL (setS s (wa % ps.length) (wb % s.places.length) ((n : Int) + 1)) l = costL s l) := decide_eq_decide.2 ⟨fun h => (hha.1 h).2, fun h => hha.2 ⟨hc2l, h⟩⟩
       refine Ax <| Ac <| Af <| A0 <| Af <| Ai fun ds => Aa rfl (A9 B7 (A1 rfl <| Ar rfl <| Am rfl <| Bm rfl <| Bm rfl <| A6 rfl <| Ar rfl <| Ak rfl <| Ad) rfl rfl (A5 1 rfl)) ?_
       refine Aa rfl (Ag (A1 rfl <| Ar rfl <| Ak rfl <| Am rfl <| Bm rfl <| A3 rfl <| Ak rfl <| Ad)) ?_
       refine Aa rfl (Ag (A6 rfl <| Am rfl <| Bm rfl <| A3 rfl <| Ad)) ?_
       refine Aa rfl (Ag (A6 rfl <| Ak rfl <| At rfl hs15)) ?_
       refine Bg rfl (Cj bd_45 Az (.cons (Ar rfl <| Ak rfl <| Ad) (.cons (Ar rfl <| Ad) (.cons (Ak rfl <| Ad) (.cons (Ad) .nil)))) (with_ok7 hr hv hxe hpe _) fun v20 F21 hr22 hF23 => ?_)
       replace hl := hl.mono hF23
       replace hrl := hrl.mono hF23
       replace hFG := Heap.le_trans hFG hF23
       obtain ⟨ve2, ps2, rfl, hr2⟩ := hr22
       refine Aa rfl (Ag (A6 rfl <| Ar rfl <| Ak rfl <| Am rfl <| Bm rfl <| Bm rfl <| Ad)) ?_
       refine Bx rfl (Bb bd_21 Az (.cons (Ak rfl <| Ad) (.cons (Ad) .nil)) (De hr2 hl) (fun _ _ h => h.trans (show changesEV (setS s (wa % ps.length) (wb % s.places.length) ((n : Int) + 1)) l = .tuple #[.int .i64 (changesE (setS s (wa % ps.length) (wb % s.places.length) ((n : Int) + 1)) l).1, .int .i64 (changesE (setS s (wa % ps.length) (wb % s.places.length) ((n : Int) + 1)) l).2] from rfl))) ?_
       refine Aa rfl (Ag (Ad)) ?_
       refine Aa rfl (Ay (Ad) rfl) ?_
       refine Aa rfl (Ay (Ak rfl <| Ad) rfl) ?_
       refine Aa rfl (Ae (Ak rfl <| Ad)) ?_
       refine Aa rfl (Ae (Ak rfl <| Ad)) ?_
       refine Ah <| Ac <| Af <| Ai fun ds => Aa rfl (Ag (A3 rfl <| Ar rfl <| Am rfl <| Bm rfl <| A1 rfl <| Ar rfl <| Ak rfl <| Ad)) ?_
       refine Aa rfl (Ag (A3 rfl <| Ar rfl <| Ak rfl <| At rfl hs15)) ?_
       refine Bx rfl (Bb bd_46 Az (.cons (Ak rfl <| Ad) (.cons (Ad) .nil)) (has_ok hrl _) (fun _ _ h => h)) ?_
       refine Aa rfl (Ag (Ar rfl <| Ak rfl <| Ad)) ?_
       refine Aa rfl (Bu (Ad) Ab) ?_
       refine Aa rfl (Ag (Ad)) ?_
       refine As rfl rfl (Ad) (by rw [hce2]; exact decide_eq_true rfl) ?_
       refine Aa rfl (Ag (A1 rfl <| Ar rfl <| Ak rfl <| Ad)) ?_
       refine As rfl rfl (Ak rfl <| Ad) (by rw [hce2]; exact decide_eq_true rfl) ?_
       refine Aa rfl (Ag (A3 rfl <| A6 rfl <| Ak rfl <| Am rfl <| A3 rfl <| A6 rfl <| A1 rfl <| Ar rfl <| Ak rfl <| Ad)) ?_
       refine As rfl rfl (Ar rfl <| Ad) (by rw [hce2]; exact decide_eq_true rfl) ?_
       refine Aa rfl (Bu (Ak rfl <| Ad) (Ad)) ?_
       refine Aa rfl (A4 (Ar rfl <| Ak rfl <| Ad) (by rw [hce2]; exact decide_eq_true rfl) (Ad)) ?_
       refine Aa rfl (q_neb Try.underlying4 (A1 rfl <| Ar rfl <| Ak rfl <| Ad) (Ad)) ?_
       refine Aa rfl (Ag (Ad)) ?_
       refine As rfl rfl (Ad) (by rw [hce2, hce, hdd]; simp) ?_
       refine Aa rfl (Ag (A6 rfl <| A1 rfl <| Ad)) ?_
       refine As rfl rfl (Ak rfl <| Ad) (by rw [hce2, hce, hdd]; simp) ?_
       refine Aa rfl (Bu (Ad) Ab) ?_
       refine As rfl rfl (Ar rfl <| Ad) (by rw [hce2, hce, hdd]; simp) ?_
       refine Aa rfl (Ag (Ad)) ?_
       refine As rfl rfl (Ad) (by rw [hce2]; exact decide_eq_true rfl) ?_
       refine Aa rfl (Ag (A3 rfl <| Ad)) ?_
       refine As rfl rfl (Ak rfl <| Ad) (by rw [hce2]; exact decide_eq_true rfl) ?_
       refine Aa rfl (Ag (Bm rfl <| Ar rfl <| Am rfl <| A3 rfl <| A6 rfl <| A1 rfl <| Ar rfl <| Ak rfl <| Ad)) ?_
       refine As rfl rfl (Ar rfl <| Ad) (by rw [hce2]; exact decide_eq_true rfl) ?_
       refine Aa rfl (Bw (Ak rfl <| Ad) (Ad)) ?_
       refine As rfl rfl (A1 rfl <| Ar rfl <| Ad) (by rw [hce2, hce, hdd]; simp) ?_
       refine Aa rfl (A4 (Ar rfl <| Ak rfl <| Ad) (by rw [hce2]; exact decide_eq_true rfl) (Ad)) ?_
       refine Aa rfl (Ba (A1 rfl <| Ar rfl <| Ak rfl <| Ad) (by rw [hce2, hce, hdd]; simp) (Ad)) ?_
       refine Ah <| Ac <| Ao (Ad) (by rw [hce2, hce]; exact decide_eq_false (by simp only; omega)) ?_
       refine Ax <| Bc <| Ac <| Ai fun ds => Aa rfl (Ag (Bm rfl <| A1 rfl <| Ar rfl <| At rfl hs15)) ?_
       refine Aa rfl (Bv (Ad) Ab rfl (by omega) (by omega)) ?_
       refine Aa rfl (Ae (Ad)) ?_
       refine Ah <| Ac ⟨_, m - 1, Off.eq (ou32 rfl <| D2 rfl <| D7 rfl <| Be), by omega, ?_⟩
       exact ⟨_, hFG, n + 1, by omega, (Ad), rfl⟩
     ·
      obtain rfl : n = 3 := by omega
      refine Af <| Af <| Ai fun ds => Aa rfl (Ag (Am rfl <| A6 rfl <| A1 rfl <| Ar rfl <| Ak rfl <| Ad)) ?_
      refine Aa rfl (Bu (Ad) Ab) ?_
      refine Aa rfl (Ag (Ad)) ?_
      refine As rfl rfl (Ad) (by rw [er]; exact decide_eq_true hk0) ?_
      refine Aa rfl (Ag (Ar rfl <| Ak rfl <| At rfl hs15)) ?_
      refine As rfl rfl (Ak rfl <| Ad) (by rw [er]; exact decide_eq_true hk0) ?_
      refine Aa rfl (Ek (Ad) Ab) ?_
      refine Aa rfl (A4 (Ar rfl <| Ad) (by rw [er]; exact decide_eq_true hk0) (Ad)) ?_
      refine Ah <| Ac <| Ao (Ad) (decide_eq_false (by omega)) ?_
      refine Bq ?_
      refine Bd <| Bd <| Bi <| Ac <| Af <| Ai fun ds => Bx rfl (Bb bd_26 Az .nil awake_ok (fun _ _ h => h)) ?_
      refine Aa rfl (Ae (Ad)) ?_
      refine Ah <| Ac <| A2 <| Au rfl (.tmp (Ad) .nil) ?_
      rfl
   ·
    refine As rfl rfl (Ad) (by rw [er]; exact decide_eq_true (by omega)) ?_
    refine Aa rfl (Ag (A3 rfl <| A6 rfl <| A1 rfl <| Ar rfl <| Ak rfl <| Ad)) ?_
    refine As rfl rfl (Ak rfl <| Ad) (by rw [er]; exact decide_eq_true (by omega)) ?_
    refine Aa rfl (Ag (A6 rfl <| Ad)) ?_
    refine As rfl rfl (Ar rfl <| Ad) (by rw [er]; exact decide_eq_true (by omega)) ?_
    refine Bg rfl (B6 Bj C6 rfl (.cons (Ad) .nil) rfl rfl (by decide) (by simp [Value.oneCell']) fun b24 hb24 nb24 => ?_)
    refine B4 (i := 0) rfl hb24 .here fun F25 hF26 hz27 => ?_
    replace hrl := hrl.mono hF26
    have hsl28 := Ct hz27
    refine As rfl rfl (Ar rfl <| Ak rfl <| Ad) (by rw [er]; exact decide_eq_true (by omega)) ?_
    refine Bx rfl (Bb bd_20 Az (.cons (Ar rfl <| Ad) (.cons (Ad) .nil)) (refInts_ok hrl hsl28) (fun _ _ h => h)) ?_
    refine As rfl rfl (A1 rfl <| Ad) (by rw [er]; exact decide_eq_true (by omega)) ?_
    refine Aa rfl (Cm (Ad)) ?_
    refine As rfl rfl (A6 rfl <| Ad) (decide_eq_false (by omega)) ?_
    refine Aa rfl (A4 (A1 rfl <| Ak rfl <| Ad) (by rw [er]; exact decide_eq_true (by omega)) (Ad)) ?_
    refine Aa rfl (Ba (A6 rfl <| Ak rfl <| Ad) (decide_eq_false (by omega)) (Ad)) ?_
    refine Ah <| Ac <| Ao (Ad) (by rw [er, read_known hv ht hll hxe hpe hclt (by omega)]; simp) ?_
    refine Ax <| Ac <| Af <| Af <| Ai fun ds => Aa rfl (Ae Ab) ?_
    refine Ah <| Ac <| A0 <| Bt [6, 15, 16, 17, 93, 94, 95, 96, 97, 98, 99, 100, 101, 102, 103, 104, 105, 106, 107, 108, 109, 110, 111, 112, 113, 114, 115, 116, 117, 118, 119, 120, 121, 122, 123, 124, 125, 126, 127, 128, 129, 130] (fun m e σ => m = 0 ∧ σ = ⟨F25, [(b2, bx 62 [.int .u8 (wa : Int), .int .u8 (wb : Int)]), (b1, bx 25 [vp, ve])]⟩) (0) ?_ ?_
    · exact ⟨rfl, rfl⟩
    ·
     rintro m e _ ⟨hm, rfl⟩
     refine Af <| Af <| Ai fun ds => Aa rfl (Ag (Am rfl <| A6 rfl <| A1 rfl <| Ar rfl <| Ak rfl <| Ad)) ?_
     refine Aa rfl (Bu (Ad) Ab) ?_
     refine Aa rfl (Ag (Ad)) ?_
     refine Aw rfl rfl (Ad) (.inl (congrArg Value.bool (by rw [er]; exact decide_eq_false (by omega)))) rfl ?_
     refine Aw rfl rfl (Ak rfl <| Ad) (.inl (congrArg Value.bool (by rw [er]; exact decide_eq_false (by omega)))) rfl ?_
     refine Aa rfl (Ba (Ar rfl <| Ad) (by rw [er]; exact decide_eq_false (by omega)) Ab) ?_
     refine Ah <| Ac <| Ao (Ad) rfl ?_
     refine Bq ?_
     refine Bd <| Bd <| Bi <| Ac <| Af <| Ai fun ds => Bx rfl (Bb bd_26 Az .nil awake_ok (fun _ _ h => h)) ?_
     refine Aa rfl (Ae (Ad)) ?_
     refine Ah <| Ac <| A2 <| Au rfl (.tmp (Ad) .nil) ?_
     rfl
 ·
  refine Af <| Ai fun ds => Bg rfl (B1 (Aj rfl) rfl fun b30 hb30 nb30 => ?_)
  refine Bg rfl (B1 (Ak rfl <| Aj rfl) rfl fun b31 hb31 nb31 => ?_)
  refine Aa rfl (Ae Ab) ?_
  refine Ah <| Ac <| Af <| Af <| Ai fun ds => Aa rfl (A9 B7 (Ar rfl <| Ad) rfl rfl (A5 1 rfl)) ?_
  refine Bx rfl (Bb bd_40 Az (.cons (Ad) .nil) (valid_ok hr) (fun _ _ h => h)) ?_
  refine Aa rfl (Cm (Ad)) ?_
  refine Ah <| Ac <| Aq (Ad) (by simp [h0]) ?_
  refine Af <| Ai fun ds => Bx rfl (Bb bd_26 Az .nil awake_ok (fun _ _ h => h)) ?_
  refine Aa rfl (Ae (Ad)) ?_
  refine Ah <| Ac <| A2 <| A8 ?_
  refine Au rfl (.tmp (Ad) .nil) ?_
  rfl
end Go.Proofs.Ytccogmkhijgelaa
namespace Go.Proofs.Ytccogmkhijgelaa
open Go.ChangeShapes Go.WideShapes Go.ChangeAt Go.RowKit
set_option maxRecDepth 100000 in
theorem stemFilledLifted (os : Os) (started : os.Started) (H : Type) (enc : TypeId × Value → H) :
   ReturnsInHanded {} Try.checked os 9 .any (Rows.stemFilledSpec.pre6 enc Try.prog Try.f9 Rows.stemFilledRow.domain false) (Rows.stemFilledSpec.post enc Try.prog Try.f9 false true false false) := by
 refine returnsInHanded_of_change_sized (C := Try.checked) ownKnob0 started (by kernel_rfl) Try.func9
   (ChangeSpec.witness6 (enc := enc) (C := Try.checked) false ⟨#[], #[.agg #[.slice none 0 0, .slice none 0 0], .slice none 0 0, .agg #[.int .u8 0, .int .u8 0]], []⟩ 8 (by kernel_rfl) (by kernel_rfl) (by kernel_rfl) (by kernel_rfl)) ?_
 intro W base args ds gs before hval0 hW hcnd hsz _
 have hval : ∀ (j : Nat) t v, Try.f9.params[j]? = some t → args[j]? = some v → Value.okWide Try.prog W .any base t v := hval0
 have hW' := hW
 obtain ⟨p, q, hA0, hV, rfl, hfz, hnd⟩ := hW
 have hA : DataW.TrodAll enc Try.prog W 0 (fun _ => true) true Try.f9.params.toList args.toList ds p := hA0
 rw [Try.params9] at hA hval
 obtain ⟨v0, vs0, d0, ds0, p0, q0, hargs, rfl, rfl, h0, r0⟩ := trodAll_cons hA
 obtain ⟨v1, vs1, d1, ds1, p1, q1, rfl, rfl, rfl, h1, r1⟩ := trodAll_cons r0
 obtain ⟨v2, vs2, d2, ds2, p2, q2, rfl, rfl, rfl, h2, r2⟩ := trodAll_cons r1
 obtain ⟨rfl, rfl, rfl⟩ := trodAll_nil r2
 obtain rfl : args = #[v0, v1, v2] := by cases args; simp_all
 obtain ⟨rfl, rfl⟩ := trodVars_none hV
 have hsz' : (DataW.weightsEach Try.prog (Try.f9.params.toList ++ []) ([d0, d1, d2] ++ [])).all (· ≤ reachBytes) = true := hsz
 rw [Try.params9] at hsz'
 have k0 := h0
 have lt0 : ∀ x ∈ p0, x.block < W.heap.size := by obtain ⟨m, hm⟩ := k0; exact DataW.trod_lt m _ _ _ hm
 have k1 := h1
 have lt1 : ∀ x ∈ p1, x.block < W.heap.size := by obtain ⟨m, hm⟩ := k1; exact DataW.trod_lt m _ _ _ hm
 have k2 := h2
 have lt2 : ∀ x ∈ p2, x.block < W.heap.size := by obtain ⟨m, hm⟩ := k2; exact DataW.trod_lt m _ _ _ hm
 obtain ⟨vp, ve, ps, s, rfl, hr⟩ := arg_stem (hval 0 25 v0 rfl rfl) h0 (weights_at hsz' (j := 0) rfl rfl)
 obtain ⟨xs, hxs, hxb⟩ := arg_bytes (hval 1 50 v1 rfl rfl) h1 (weights_at hsz' (j := 1) rfl rfl)
 obtain ⟨wa, wb, rfl, hwa, hwb⟩ := arg_two (hval 2 62 v2 rfl rfl) h2 (weights_at hsz' (j := 2) rfl rfl)
 clear hA0 hval0
 refine (Ok.law (filledLaw_ok hr hxs hxb hwa hwb)).mono fun e W' ⟨he, bel⟩ => ?_
 subst he
 exact ⟨_, rfl, _, _, _, [], _, [], hW', trodAll_mk1 (shut_bool Try.underlying4 _), (trodAll_cons_mk (Below.trod laidOut (by kernel_rfl) (of_decide_eq_true (by kernel_rfl)) k0 bel lt0) (trodAll_cons_mk (Below.trod laidOut (by kernel_rfl) (of_decide_eq_true (by kernel_rfl)) k1 bel lt1) (trodAll_cons_mk (Below.trod laidOut (by kernel_rfl) (of_decide_eq_true (by kernel_rfl)) k2 bel lt2) trodAll_mk0))), rfl, bel.frame _, fun h => by cases h⟩
theorem stemFilled : Rows.StemFilledSaid :=
 OpenClaim.holds_of_wide 9 Try.f9 rfl rfl rfl rfl rfl rfl rfl ⟨rfl, rfl, rfl, rfl, rfl⟩ rfl rfl rfl rfl rfl (by kernel_rfl) Try.func9 (by kernel_rfl)
   (of_decide_eq_true (by kernel_rfl)) (by unfold Func.isWrapper; first | (rw [if_pos (by decide +kernel)]; kernel_rfl) | (rw [if_neg (by decide +kernel)]; exact ⟨rfl, rfl⟩))
   (fun os started H enc _ => stemFilledLifted os started H enc)
#print axioms stemFilled
end Go.Proofs.Ytccogmkhijgelaa
