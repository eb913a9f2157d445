/-
  StemApart returns true of any stem and numbers, and leaves what it is handed as it was. No conditions.
-/
import Derived.Test.YtccogmkhijgelaaPad
import Derived.KernelRfl
namespace Go.Proofs.Ytccogmkhijgelaa
open Go.RowKit
theorem agg_128 : AggT Try.prog 128 3 := aggT_of (by kernel_rfl)
theorem bd_87 : Body Try.prog 87 := Bo (by kernel_rfl)
theorem el_64 : ElemT Try.prog 64 4 56 (.agg #[.string ⟨#[]⟩, .int .i64 0, .int .i64 0, .slice none 0 0]) := elemT_of (by kernel_rfl) rfl (by decide)
theorem sz_128 : SizeT Try.prog 128 3 := Ct (by kernel_rfl)
theorem sz_23 : SizeT Try.prog 23 1 := Ct (by kernel_rfl)
theorem sz_26 : SizeT Try.prog 26 1 := Ct (by kernel_rfl)
theorem src_eds {F : Heap} {v : Value} {ps : List (Value × Edn)} (h : Sl F v 4 edE ps) (hone : ∀ p ∈ ps, p.1.oneCell' = true) {H : List (Nat × Obj)} : Src ⟨F, H⟩ v ps.length (ps.flatMap edE) 4 := h.srcM edE_len fun p hp => edE_one (hone p hp)
theorem StmX.ones {F : Heap} {b kb : Nat} {vp ve : Value} {ps : List (Value × Edn)} {s : Stm} (hX : StmX F b vp ve (.map (some kb)) ps s) : ∀ u ∈ [vp, ve, .map (some kb)], u.oneCell' = true := by
 intro u hu
 simp only [List.mem_cons, List.not_mem_nil, or_false] at hu
 rcases hu with rfl | rfl | rfl
 · exact hX.r.places.plain.one
 · exact hX.r.eds.plain.one
 · rfl
set_option maxRecDepth 100000 in
theorem cloneEd_own {F : Heap} {v : Value} {ps : List (Value × Edn)} (h : Sl F v 4 edE ps) (hone : ∀ p ∈ ps, p.1.oneCell' = true) (hn : ps.length ≤ 1000) : OkN Try.prog 87 [v].toArray F fun u _F' Hn => Own 64 4 u ps.length (ps.flatMap edE) Hn := by
 obtain ⟨a0, c0, rfl, g1, g2, g3, g4⟩ := h.plain
 refine OkN.intro Try.func87 rfl Try.ntmps87 rfl fun w0 => ?_
 cases a0
 ·
  refine Af <| Ai fun ds => Aa rfl (Ae Ab) ?_
  refine Ah <| Ac <| Af <| Af <| Ai fun ds => Aa rfl (Ag (Al rfl <| Aj rfl)) ?_
  refine Aa rfl (q_eqlNil Try.underlying23 (Ad) Ab) ?_
  refine Ah <| Ac <| Aq (Ad) rfl ?_
  refine Af <| Ai fun ds => Aa rfl (Ae Ab) ?_
  refine Ah <| Ac <| A2 <| A8 ?_
  refine D5 rfl (.tmp (Ad) .nil) (List.nil_sublist _) ?_
  obtain ⟨h0, -⟩ := g2 rfl
  have : ps = [] := List.eq_nil_of_length_eq_zero h0
  subst this
  exact Ed
 ·
  refine Af <| Ai fun ds => Aa rfl (Ae Ab) ?_
  refine Ah <| Ac <| Af <| Af <| Ai fun ds => Aa rfl (Ag (Al rfl <| Aj rfl)) ?_
  refine Aa rfl (q_eqlNil Try.underlying23 (Ad) Ab) ?_
  refine Ah <| Ac <| Ao (Ad) rfl ?_
  refine Ax <| Ac <| Af <| Ai fun ds => Bi rfl (x_build0 B7 fun b1 hb1 nb1 => ?_)
  refine Aa rfl (Ag (A1 rfl <| Aj rfl)) ?_
  refine Bi rfl (Cr B7 el_64 (Al rfl <| Ad) (own_box rfl) (Ad) (src_eds h hone) (by omega) (by omega) (.z) .box fun v2 R3 ho4 => ?_)
  have ho1 : Own 64 4 v2 ps.length (ps.flatMap edE) R3 := by simpa using ho4
  refine Aa rfl (Ae (Ad)) ?_
  refine Ah <| Ac <| A2 <| D5 rfl (.tmp (Ad) .nil) (List.sublist_append_left _ _) ?_
  exact ho1
def IntsR7 (F : Heap) (u : Value) (p : List Int × Int) : Prop := ∃ v, u = .tuple #[v, .int .i64 p.2] ∧ Ints F v p.1
theorem IntsR7.mono {F F' : Heap} {u : Value} {p : List Int × Int} (h : IntsR7 F u p) (hF : F.le F') : IntsR7 F' u p := by obtain ⟨v, h1, h2⟩ := h; exact ⟨v, h1, h2.mono hF⟩
set_option maxRecDepth 100000 in
theorem reading_top_ok {F : Heap} {vp ve : Value} {ps : List (Value × Edn)} {s : Stm} (hr : StmR F vp ve ps s) {v : Value} {l : List Int} (hl : Ints F v l) (z q : Int) : Ok Try.prog 35 [.agg #[vp, ve], v, .int .i64 z, .int .i64 q].toArray F fun u F' => IntsR7 F' u (readE s l z q) := by
 have hle0 : F.le F := Heap.le_refl _
 refine Ok.intro Try.func35 rfl Try.ntmps35 rfl fun w0 => ?_
 have hL := hl.plain.lt
 have hlen := hr.len
 have hL1 := hr.eds.plain.lt
 have hL2 := hr.places.plain.lt
 by_cases hok : treeErr s l = 0
 ·
  obtain ⟨hv, hll, ht⟩ := tree_ok hok
  have hne := hv.ne
  have hnp := hv.np
  have hl5 : l.length ≤ 5 := by omega
  have hcv := changes_costV (s := s) ht hv hll
  have hcb := costL_bound (s := s) (l := l)
  refine Af <| Ai fun ds => Bi rfl (B3 (Aj rfl) rfl fun b1 hb1 nb1 => ?_)
  refine Aa rfl (Ae Ab) ?_
  refine Aa rfl (Ae Ab) ?_
  refine Ah <| Ac <| Af <| Ai fun ds => Aa rfl (A9 B6 (Ar rfl <| Ad) rfl rfl (A6 0 rfl)) ?_
  refine Aa rfl (Ag (A1 rfl <| Aj rfl)) ?_
  refine Bi rfl (Dj bd_68 Az (.cons (Al rfl <| Ad) (.cons (Ad) .nil)) (enter_ok hr hl hok) fun v2 F3 R6 hr4 hF5 => ?_)
  replace hr := hr.mono hF5
  replace hle0 := Heap.le_trans hle0 hF5
  obtain ⟨ba, kb, rfl, hX, rfl⟩ := hr4
  refine Aa rfl (Ag (Ad)) ?_
  refine Aa rfl (Ay (Ad) rfl) ?_
  refine Aa rfl (Ay (Al rfl <| Ad) rfl) ?_
  refine Aa rfl (Ay (Ar rfl <| Ad) rfl) ?_
  refine Bi rfl (Ca Dw rfl fun b7 hb7 nb7 => ?_)
  refine Aa rfl (Ae (Ar rfl <| Al rfl <| Ad)) ?_
  refine Ch (Cd D2 (Al rfl <| Ad) (Ar rfl <| Al rfl <| Ad) (i := 0) rfl rfl rfl rfl C5 (.here) ?_)
  refine Aa rfl (Ae (Ar rfl <| Ad)) ?_
  refine Ah <| Ac <| Af <| A0 <| Af <| Cb (i := 1) rfl hb1 (.next <| .here) fun F8 hF9 hz4 => ?_
  replace hr := hr.mono hF9
  replace hle0 := Heap.le_trans hle0 hF9
  replace hX := hX.mono hF9
  refine Cb (i := 0) rfl hb7 (.here) fun F10 hF11 hz11 => ?_
  replace hr := hr.mono hF11
  replace hle0 := Heap.le_trans hle0 hF11
  replace hX := hX.mono hF11
  replace hz4 := hF11 _ _ hz4
  refine Ai fun ds => Aa rfl (Ag (Ad)) ?_
  refine Aa rfl (B1 (Ad) Ab) ?_
  refine Aa rfl (Ae (Ad)) ?_
  refine Ah <| Ac <| Ao (Ad) (by decide) ?_
  by_cases h1 : inB 0 (s.editions.length - 1) z = true
  ·
   refine Af <| Ai fun ds => Aa rfl (Am Br (A7 rfl <| A1 rfl <| Ar rfl <| Al rfl <| Ad)) ?_
   refine Aa rfl (Ap B0 (Ad) (CellF.own hz4 rfl).cell) ?_
   refine Aa rfl (Bk B7 (Ad) hr.eds.plain) ?_
   refine Aa rfl (q_sub (Ad) Ab rfl (by omega) (by omega)) ?_
   refine Aa rfl (Ag (A5 rfl <| A1 rfl <| Aj rfl)) ?_
   refine Bi rfl (B5 Bj C9 rfl (.cons (Ad) .nil) rfl rfl (by decide) (by simp [Value.oneCell']) fun b12 hb12 nb12 => ?_)
   refine B4 (i := 0) rfl hb12 .here fun F13 hF14 hz15 => ?_
   replace hr := hr.mono hF14
   replace hle0 := Heap.le_trans hle0 hF14
   replace hX := hX.mono hF14
   replace hz4 := hF14 _ _ hz4
   replace hz11 := hF14 _ _ hz11
   have hsl16 := Cw hz15
   refine Bw rfl (Bb Dy Az (.cons Ab (.cons (Ar rfl <| Ad) (.cons (Ad) .nil))) (Ce _ _ hsl16) (fun _ _ h => h)) ?_
   refine Aa rfl (Ag (Ad)) ?_
   refine As rfl rfl (Ad) (by simp [hlen, h1]) ?_
   refine Aa rfl (Am Cs (A5 rfl <| A1 rfl <| Ar rfl <| Al rfl <| Ad)) ?_
   refine As rfl rfl (Al rfl <| Ad) (by simp [hlen, h1]) ?_
   refine Aa rfl (Ap C0 (Ad) (CellF.own hz4 rfl).cell) ?_
   refine As rfl rfl (Ar rfl <| Ad) (by simp [hlen, h1]) ?_
   refine Aa rfl (Bk C3 (Ad) hr.places.plain) ?_
   refine As rfl rfl (Ar rfl <| Al rfl <| Ad) (by simp [hlen, h1]) ?_
   refine Aa rfl (q_sub (Ad) Ab rfl (by omega) (by omega)) ?_
   refine As rfl rfl (A1 rfl <| Ad) (by simp [hlen, h1]) ?_
   refine Aa rfl (Ag (A5 rfl <| A7 rfl <| A1 rfl <| Aj rfl)) ?_
   refine As rfl rfl (A1 rfl <| Al rfl <| Ad) (by simp [hlen, h1]) ?_
   refine Bi rfl (B5 Bj C9 rfl (.cons (Ad) .nil) rfl rfl (by decide) (by simp [Value.oneCell']) fun b17 hb17 nb17 => ?_)
   refine B4 (i := 0) rfl hb17 .here fun F18 hF19 hz20 => ?_
   replace hr := hr.mono hF19
   replace hle0 := Heap.le_trans hle0 hF19
   replace hX := hX.mono hF19
   replace hz4 := hF19 _ _ hz4
   replace hz11 := hF19 _ _ hz11
   have hsl21 := Cw hz20
   refine As rfl rfl (A1 rfl <| Ar rfl <| Ad) (by simp [hlen, h1]) ?_
   refine Bw rfl (Bb Dy Az (.cons Ab (.cons (Ar rfl <| Ad) (.cons (Ad) .nil))) (Ce _ _ hsl21) (fun _ _ h => h)) ?_
   refine Aa rfl (Bd (A1 rfl <| Ar rfl <| Al rfl <| Ad) (by simp [hlen, h1]) (Ad)) ?_
   refine Aa rfl (Ae (Ad)) ?_
   refine Ah <| Ac ?_
   by_cases h2 : inB 0 (s.places.length - 1) q = true
   ·
    have h12 : (inB 0 (s.editions.length - 1) z && inB 0 (s.places.length - 1) q) = true := by rw [h1, h2]; rfl
    obtain ⟨x, rfl, hx⟩ := inB_nat h1
    obtain ⟨p, rfl, hp⟩ := inB_nat h2
    have hxp : x < ps.length := by omega
    have hrx := hr.rd hxp
    have hpx : p < (s.ed x).rd.length := by rw [hv.rdl x hx]; exact hp
    have er := rdT_at hpx
    have hrdl := hv.rdl x hx
    have hrb9 := hv.rd x p hx hp
    have e1 := hr.at hxp
    refine Ao (Ad) (by simp [h2]) ?_
    by_cases hc : costL s l = 1000
    ·
     refine Af <| Ai fun ds => Aa rfl (Ag (A5 rfl <| A1 rfl <| Al rfl <| Ad)) ?_
     refine Aa rfl (A9 Bz (A5 rfl <| A1 rfl <| Ar rfl <| Al rfl <| Ad) rfl rfl (Cu hz11)) ?_
     refine WL_order (.cons (.here) <| .nil) ?_
     refine Bi rfl (x_callM bd_69 Az (.cons (Al rfl <| Ad) (.cons (Ad) .nil)) rfl (changes_ok hX ht hll hv KnownT.nil) fun v26 F27 H30 hr28 hF29 => ?_)
     obtain ⟨es2, rfl, rfl, hK2⟩ := hr28
     refine Aa rfl (By (Ad) Ab) ?_
     refine Aa rfl (Ae (Ad)) ?_
     refine Ah <| Ac <| Aq (Ad) (by rw [hcv]; unfold costV; rw [if_pos hc]; rfl) ?_
     refine Af <| Ai fun ds => Aa rfl (Ae Ab) ?_
     refine Aa rfl (Ae Ab) ?_
     refine Ah <| Ac <| A2 <| Bh (A8 ?_)
     refine Au rfl (.tmp (Al rfl <| Ad) (.tmp (Ad) .nil)) ?_
     rw [readE_bad (readErr_3 hok h12 hc) (by decide)]
     exact ⟨_, rfl, Sl.nil⟩
    ·
     have hre := readErr_0 hok h12 hc
     refine Af <| Ai fun ds => Aa rfl (Ag (A5 rfl <| A1 rfl <| Al rfl <| Ad)) ?_
     refine Aa rfl (A9 Bz (A5 rfl <| A1 rfl <| Ar rfl <| Al rfl <| Ad) rfl rfl (Cu hz11)) ?_
     refine WL_order (.cons (.here) <| .nil) ?_
     refine Bi rfl (x_callM bd_69 Az (.cons (Al rfl <| Ad) (.cons (Ad) .nil)) rfl (changes_ok hX ht hll hv KnownT.nil) fun v35 F36 H39 hr37 hF38 => ?_)
     replace hr := hr.mono hF38
     replace hle0 := Heap.le_trans hle0 hF38
     replace hX := hX.mono hF38
     replace hrx := hrx.mono hF38
     replace hz4 := hF38 _ _ hz4
     replace hz11 := hF38 _ _ hz11
     obtain ⟨es2, rfl, rfl, hK2⟩ := hr37
     refine Aa rfl (By (Ad) Ab) ?_
     refine Aa rfl (Ae (Ad)) ?_
     refine Ah <| Ac <| Ao (Ad) (by rw [hcv]; unfold costV; rw [if_neg hc]; exact decide_eq_false (by omega)) ?_
     refine Ax <| Ba <| Ac <| Af <| Ai fun ds => Aa rfl (Ag (A5 rfl <| A7 rfl <| Ar rfl <| Ad)) ?_
     refine Aa rfl (A9 Bz (A5 rfl <| A7 rfl <| A1 rfl <| Ad) rfl rfl (Cu hz11)) ?_
     refine Aa rfl (Ag (Bm rfl <| A7 rfl <| Aj rfl)) ?_
     refine Bw rfl (Bb bd_82 Az (.cons (Ar rfl <| Ad) (.cons (Al rfl <| Ad) (.cons (Ad) .nil))) (Ds hX ht hll hv hp) (fun _ _ h => h)) ?_
     refine Aa rfl (Ae (Ad)) ?_
     refine Ah <| Ac <| Af <| Ai fun ds => Aa rfl (Am Br (Bm rfl <| A7 rfl <| Ar rfl <| Ad)) ?_
     refine Aa rfl (Ap B0 (Ad) (CellF.own hz4 rfl).cell) ?_
     refine Aa rfl (Ag (Bm rfl <| A7 rfl <| A1 rfl <| Al rfl <| Aj rfl)) ?_
     refine Aa rfl (Bf (k := x) B7 (Al rfl <| Ad) hr.eds.plain (Ad) rfl hxp) ?_
     refine Aa rfl (Bs Cc (Ad)) ?_
     refine Aa rfl (Ap Cf (Ad) (hr.eds.cell hxp rfl)) ?_
     refine Aa rfl (Ag (Bm rfl <| A5 rfl <| Al rfl <| Aj rfl)) ?_
     refine Aa rfl (Bf (k := p) Bj (Al rfl <| Ad) hrx.plain (Ad) rfl hpx) ?_
     refine Aa rfl (Ap Bl (Ad) (hrx.cell1 hpx rfl)) ?_
     refine Aa rfl (Ae (Ad)) ?_
     refine Ah <| Ac <| Af <| Af <| Ai fun ds => Aa rfl (Ag Ab) ?_
     refine Ah <| Ac <| A0 <| Bt [8, 14, 15, 62, 63, 64, 65, 66, 67, 68, 69, 70, 71, 72, 73, 74, 75, 76, 77, 78, 79, 80, 81, 82, 83, 84, 85, 86, 87, 88, 89, 90, 91, 92, 93, 94, 95, 96, 97, 98, 99, 100, 101, 102, 103, 104, 105, 106, 107, 108, 109, 110, 111, 112, 113, 114, 115, 116, 117, 118, 119, 120, 121] (fun m e σ => ∃ G, F36.le G ∧ ∃ k : Nat, m + k = 3 ∧ e 62 = .int .i64 (k : Int) ∧ ∃ v8 R8, e 8 = v8 ∧ Own 3 1 v8 (readTo s l x p k).length ((readTo s l x p k).flatMap intE) R8 ∧ σ = ⟨G, (kb, mapO es2) :: R8⟩) (3) ?_ ?_
     · exact ⟨_, Heap.le_refl _, 0, by omega, (Ad), _, _, (Bm rfl <| A5 rfl <| A1 rfl <| Ad), Own.nil, rfl⟩
     ·
      rintro m e _ ⟨G, hFG, k, hm, hs62, v8, R8, hs8, ho, rfl⟩; have hrl := readTo_len (s := s) (l := l) (x := x) (p := p) (k := k); replace hr := hr.mono hFG; replace hX := hX.mono hFG; replace hrx := hrx.mono hFG; replace hz4 := hFG _ _ hz4; replace hz11 := hFG _ _ hz11; have hle0 := Heap.le_trans hle0 hFG
      by_cases hlt : k < 3
      ·
       refine Af <| Ai fun ds => Aa rfl (Bv (At rfl hs62) Ab) ?_
       refine Ah <| Ac <| Af <| Aq (Ad) (by first | rfl | exact decide_eq_true (by omega)) ?_
       by_cases hk0 : 0 < s.r x p
       ·
        refine Ax <| Ac <| Af <| A0 <| Af <| Ai fun ds => Aa rfl (Ag (Al rfl <| At rfl hs62)) ?_
        refine Aa rfl (Ae (Ad)) ?_
        refine Ah <| Ac <| Af <| Af <| Ai fun ds => Aa rfl (Ag (Ar rfl <| Al rfl <| Ak rfl <| Al rfl <| Ad)) ?_
        refine Aa rfl (C8 (Ad) Ab) ?_
        refine Aa rfl (Ag (Ad)) ?_
        refine As rfl rfl (Ad) (by rw [er]; exact decide_eq_true hk0) ?_
        refine Aa rfl (Ag (A1 rfl <| Ar rfl <| Ak rfl <| Al rfl <| Ad)) ?_
        refine As rfl rfl (Al rfl <| Ad) (by rw [er]; exact decide_eq_true hk0) ?_
        refine Aa rfl (Ag (A1 rfl <| Ad)) ?_
        refine As rfl rfl (Ar rfl <| Ad) (by rw [er]; exact decide_eq_true hk0) ?_
        refine Aa rfl (Bu (Ad) Ab rfl (by omega) (by omega)) ?_
        refine As rfl rfl (Ar rfl <| Al rfl <| Ad) (by rw [er]; exact decide_eq_true hk0) ?_
        refine Aa rfl (B1 (Ar rfl <| Ad) (Ad)) ?_
        refine Aa rfl (A3 (A1 rfl <| Ad) (by rw [er]; exact decide_eq_true hk0) (Ad)) ?_
        refine Ah <| Ac ?_
        by_cases hke : s.r x p = (k : Int) + 1
        ·
         have hkn : (decide (s.r x p = 0) || decide (s.r x p = (k : Int) + 1)) = true := by rw [decide_eq_true hke]; simp
         refine Ao (Ad) (by rw [er]; exact decide_eq_false (fun h => h hke)) ?_
         have hvm := setS_valid (v := (k : Int) + 1) hv hx hp (by omega)
         refine Ax <| Ac <| Af <| Ai fun ds => Aa rfl (Ag (A7 rfl <| Ar rfl <| Al rfl <| Ak rfl <| Bm rfl <| A7 rfl <| Ar rfl <| Ad)) ?_
         refine Aa rfl (Bx (Ad)) ?_
         refine Aa rfl (A9 agg_128 (Ad) rfl rfl (Cu hX.blk)) ?_
         refine Bi rfl (Ca zr_128 rfl fun b41 hb41 nb41 => ?_)
         refine Ch (Cd sz_128 (Ad) (Al rfl <| Ad) (i := 0) rfl rfl rfl rfl hX.ones (.here) ?_)
         refine Ah <| Ac <| Af <| Ai fun ds => Aa rfl (Ag (A7 rfl <| A1 rfl <| Ar rfl <| Al rfl <| Ak rfl <| Bm rfl <| A7 rfl <| Ar rfl <| Ad)) ?_
         refine Aa rfl (Bx (Ad)) ?_
         refine Aa rfl (Am B8 (Ad)) ?_
         refine Aa rfl (Am Br (Ad)) ?_
         refine Aa rfl (Ap B0 (Ad) (CellF.own hX.blk rfl).cell) ?_
         refine Bi rfl (x_callNf bd_87 Az (.cons (Ad) .nil) (cloneEd_own hX.r.eds hX.r.one (by omega)) fun v42 F43 R46 hr44 hF45 => ?_)
         replace hX := hX.mono hF45
         replace hrx := hrx.mono hF45
         replace hFG := Heap.le_trans hFG hF45
         replace hle0 := Heap.le_trans hle0 hF45
         replace hz11 := hF45 _ _ hz11
         have hoE := hr44
         refine Aa rfl (Am B8 (A1 rfl <| Ar rfl <| Ad)) ?_
         refine Aa rfl (Am Br (Ad)) ?_
         refine WL_orderB (.one (.skip <| .here) <| .one (.skip <| .here) <| .blk (.lastS) <| .lastb (.last)) ?_
         refine Ch (Ci sz_23 (Ad) (Ar rfl <| Ad) (i := 0) rfl (.next <| .here) (Own.one hoE) (.here) ?_)
         refine Ah <| Ac <| Af ?_
         have hleS := hle0
         refine Cv (.inl rfl) (fun _ _ h => h) (.cons_cons _ <| .cons_cons _ <| .refl _) [16] (by kernel_rfl) fun ds => ?_
         refine A4 0 rfl (by kernel_rfl) (by kernel_rfl) (by kernel_rfl) (by kernel_rfl) rfl rfl (fun _ h => h.drop (.cons_cons _ <| .cons_cons _ <| .refl _)) (fun _ _ _ h => h) (Am B8 (A7 rfl <| Ad)) ?_
         refine A4 1 rfl (by kernel_rfl) (by kernel_rfl) (by kernel_rfl) (by kernel_rfl) rfl rfl (fun _ h => h.drop (.cons_cons _ <| .cons_cons _ <| .refl _)) (fun _ _ _ h => h) (Am Br (Ad)) ?_
         refine A4 2 rfl (by kernel_rfl) (by kernel_rfl) (by kernel_rfl) (by kernel_rfl) rfl rfl (fun _ h => h.drop (.cons_cons _ <| .cons_cons _ <| .refl _)) (fun _ _ _ h => h) (Ap B0 (Ad) (Cell.own 0 rfl rfl)) ?_
         refine A4 3 rfl (by kernel_rfl) (by kernel_rfl) (by kernel_rfl) (by kernel_rfl) rfl rfl (fun _ h => h.drop (.cons_cons _ <| .cons_cons _ <| .refl _)) (fun _ _ _ h => h) (Ag (A5 rfl <| A7 rfl <| Ar rfl <| Ak rfl <| Bm rfl <| A5 rfl <| A1 rfl <| Ar rfl <| Aj rfl)) ?_
         refine A4 4 rfl (by kernel_rfl) (by kernel_rfl) (by kernel_rfl) (by kernel_rfl) rfl rfl (fun _ h => h.drop (.cons_cons _ <| .cons_cons _ <| .refl _)) (fun _ _ _ h => h) (Ag (A5 rfl <| A7 rfl <| Ar rfl <| Al rfl <| Ak rfl <| Bm rfl <| A7 rfl <| Ar rfl <| Ad)) ?_
         refine A4 5 rfl (by kernel_rfl) (by kernel_rfl) (by kernel_rfl) (by kernel_rfl) rfl rfl (fun _ h => h.drop (.cons_cons _ <| .cons_cons _ <| .refl _)) (fun _ _ _ h => h) (Bx (Ad)) ?_
         refine A4 6 rfl (by kernel_rfl) (by kernel_rfl) (by kernel_rfl) (by kernel_rfl) rfl rfl (fun _ h => h.drop (.cons_cons _ <| .cons_cons _ <| .refl _)) (fun _ _ _ h => h) (Am B8 (Ad)) ?_
         refine A4 7 rfl (by kernel_rfl) (by kernel_rfl) (by kernel_rfl) (by kernel_rfl) rfl rfl (fun _ h => h.drop (.cons_cons _ <| .cons_cons _ <| .refl _)) (fun _ _ _ h => h) (Am Br (Ad)) ?_
         refine A4 8 rfl (by kernel_rfl) (by kernel_rfl) (by kernel_rfl) (by kernel_rfl) rfl rfl (fun _ h => h.drop (.cons_cons _ <| .cons_cons _ <| .refl _)) (fun _ _ _ h => h) (Ap B0 (Ad) (CellF.own hX.blk rfl).cell) ?_
         refine A4 9 rfl (by kernel_rfl) (by kernel_rfl) (by kernel_rfl) (by kernel_rfl) rfl rfl (fun _ h => h.drop (.cons_cons _ <| .cons_cons _ <| .refl _)) (fun _ _ _ h => h) (Ag (Bm rfl <| Ak rfl <| Bm rfl <| A5 rfl <| A1 rfl <| Ar rfl <| Aj rfl)) ?_
         refine A4 10 rfl (by kernel_rfl) (by kernel_rfl) (by kernel_rfl) (by kernel_rfl) rfl rfl (fun _ h => h.drop (.cons_cons _ <| .cons_cons _ <| .refl _)) (fun _ _ _ h => h) (Bf (k := x) B7 (Al rfl <| Ad) hX.r.eds.plain (Ad) rfl hxp) ?_
         refine A4 11 rfl (by kernel_rfl) (by kernel_rfl) (by kernel_rfl) (by kernel_rfl) rfl rfl (fun _ h => h.drop (.cons_cons _ <| .cons_cons _ <| .refl _)) (fun _ _ _ h => h) (Bs Cc (Ad)) ?_
         refine A4 12 rfl (by kernel_rfl) (by kernel_rfl) (by kernel_rfl) (by kernel_rfl) rfl rfl (fun _ h => h.drop (.cons_cons _ <| .cons_cons _ <| .refl _)) (fun _ _ _ h => h) (Ap Cf (Ad) (hX.r.eds.cell hxp rfl)) ?_
         refine WX_x 13 rfl (by kernel_rfl) rfl (x_callNf bd_76 Az (.cons (Ad) .nil) (cloneInt_own hrx (by omega)) fun v47 F48 R51 hr49 hF50 => ⟨fun _ _ _ h => (h.drop (List.sublist_append_of_sublist_right <| .cons_cons _ <| .cons_cons _ <| .refl _)).weak hF50 hleS, ?_⟩)
         replace hX := hX.mono hF50
         replace hFG := Heap.le_trans hFG hF50
         replace hz11 := hF50 _ _ hz11
         have hoR := hr49
         refine A4 14 rfl (by kernel_rfl) (by kernel_rfl) (by kernel_rfl) (by kernel_rfl) rfl rfl (fun _ h => (h.drop (List.sublist_append_of_sublist_right <| .cons_cons _ <| .cons_cons _ <| .refl _)).weak hF50 hleS) (fun _ _ _ h => h) (Bf (k := x) B7 (A7 rfl <| Ar rfl <| Al rfl <| Ad) (hoE.plain (by omega)) (A7 rfl <| Ar rfl <| Ad) rfl hxp) ?_
         refine A4 15 rfl (by kernel_rfl) (by kernel_rfl) (by kernel_rfl) (by kernel_rfl) rfl rfl (fun _ h => (h.drop (List.sublist_append_of_sublist_right <| .cons_cons _ <| .cons_cons _ <| .refl _)).weak hF50 hleS) (fun _ _ _ h => h) (Bs Cc (Ad)) ?_
         refine WX_orderB (.one (.skip <| .here) <| .one (.skip <| .here) <| .blk (.skip <| .here) <| .blk (.lastS) <| .lastb (.last)) ?_
         refine WX_x0 16 rfl (by kernel_rfl) (x_storeR sz_26 (Ad) (Ar rfl <| Ad) hoE (by rw [Ee edE_len]; omega) (Own.one hoR) (.s <| .s <| .k <| .z) .more fun R52 ho53 => ⟨(fun h => nomatch h), ?_⟩)
         have hoE2 := ed_own_set (e := (s.ed x).setR p ((k : Int) + 1)) ho53 hxp (by rw [e1]; rfl) (by rw [e1]; rfl) (by rw [e1]; rfl)
         refine Cz (by kernel_rfl) ?_ _
         refine Ac <| Af <| Ai fun ds => Aa rfl (Am B8 (A5 rfl <| A7 rfl <| Ad)) ?_
         refine Aa rfl (Am Br (Ad)) ?_
         refine Aa rfl (Ap B0 (Ad) (Cell.own 0 rfl rfl)) ?_
         refine Aa rfl (Ag (Bm rfl <| A7 rfl <| Ar rfl <| Ak rfl <| Bm rfl <| A5 rfl <| A1 rfl <| Ar rfl <| Aj rfl)) ?_
         refine Aa rfl (Bf (k := x) B7 (Al rfl <| Ad) (hoE2.plain (by rw [List.length_set]; omega)) (Ad) rfl (by simp; omega)) ?_
         refine Aa rfl (Bs Cc (Ad)) ?_
         refine Aa rfl (Ap Cf (Ad) (own_cell hoE2 (fun p hp => .tail _ (.tail _ (List.mem_append_right _ (List.mem_append_left _ hp)))) (ed_set_get hxp))) ?_
         refine Aa rfl (Ag (Bm rfl <| A7 rfl <| A1 rfl <| Ar rfl <| Ak rfl <| Bm rfl <| A5 rfl <| A1 rfl <| Ar rfl <| Aj rfl)) ?_
         refine Aa rfl (Ag (Bm rfl <| A7 rfl <| A1 rfl <| Ad)) ?_
         refine Aa rfl (Bu (Ad) Ab rfl (by omega) (by omega)) ?_
         refine Aa rfl (Bf (k := p) Bj (Ar rfl <| Al rfl <| Ad) (hoR.plain (by omega)) (Ar rfl <| Ad) rfl hpx) ?_
         refine Ch (x_storeR sz_3 (Ad) (Al rfl <| Ad) hoR (by rw [Ee (enc := intE) (s := 1) (fun _ => rfl)]; omega) rfl (.s <| .s <| .k <| .k <| .z) .last fun R54 ho55 => ?_)
         have hoR2 := ho55
         rw [show p * 1 = p * 1 + 0 from rfl, int_flat_set hpx] at hoR2
         replace hoR2 := hoR2.to (k' := ((s.ed x).rd.set p ((k : Int) + 1)).length) (by simp)
         refine Ah <| Ac <| Af <| Cx (σ := ⟨_, _⟩) (by rfl) hoR2 (.s <| .s <| .k <| .k <| .z) .last fun F56 hF57 hz58 => ?_
         replace hX := hX.mono hF57
         replace hFG := Heap.le_trans hFG hF57
         replace hz11 := hF57 _ _ hz11
         refine WC_pickB (.one (.here) <| .one (.here) <| .blk (.here) <| .lastb (.here)) ?_
         have hrn := hoR2.sl (fun _ => rfl) hz58 (by simp; omega)
         refine Cx (σ := ⟨_, _⟩) (by rfl) hoE2 (.s <| .s <| .k <| .z) .last fun F59 hF60 hz61 => ?_
         replace hX := hX.mono hF60
         replace hFG := Heap.le_trans hFG hF60
         replace hrn := hrn.mono hF60
         replace hz11 := hF60 _ _ hz11
         refine WC_pickB (.one (.here) <| .one (.here) <| .lastb (.here)) ?_
         have hen := hoE2.sl (fun _ => rfl) hz61 (by simp; omega)
         refine Cb (i := 0) rfl hb41 (.here) fun F62 hF63 hz15 => ?_
         replace hX := hX.mono hF63
         replace hFG := Heap.le_trans hFG hF63
         replace hrn := hrn.mono hF63
         replace hen := hen.mono hF63
         replace hz11 := hF63 _ _ hz11
         have hXm : StmX _ _ _ _ _ _ (setS s x p ((k : Int) + 1)) := ⟨hX.r.set hen hrn, hz15⟩
         by_cases hpl : decide (placeN (setS s x p ((k : Int) + 1)) l p = placeN s l p) = true
         ·
          have hrb : readB s l x p k = true := by unfold readB; rw [hkn, hpl]; rfl
          refine Ai fun ds => Aa rfl (A9 Bz (Bm rfl <| A5 rfl <| Ar rfl <| Ak rfl <| Bm rfl <| A7 rfl <| Ar rfl <| Al rfl <| Ad) rfl rfl (Cu hz11)) ?_
          refine Aa rfl (Ag (Bm rfl <| A5 rfl <| Ar rfl <| Al rfl <| Ak rfl <| Bm rfl <| A5 rfl <| A1 rfl <| Ar rfl <| Aj rfl)) ?_
          refine Bw rfl (Bb bd_82 Az (.cons (Bm rfl <| A1 rfl <| Al rfl <| Ad) (.cons (Al rfl <| Ad) (.cons (Ad) .nil))) (Ds hXm ht (by rw [setS_len]; exact hll) hvm hp) (fun _ _ h => h)) ?_
          refine Aa rfl (Ag (Bm rfl <| A5 rfl <| A1 rfl <| Al rfl <| Ak rfl <| A7 rfl <| Ar rfl <| Al rfl <| Ad)) ?_
          refine Aa rfl (By (Al rfl <| Ad) (Ad)) ?_
          refine Ah <| Ac <| Aq (Ad) hpl ?_
          refine Ai fun ds => Aa rfl (Ag (Bm rfl <| A5 rfl <| A1 rfl <| Ar rfl <| Al rfl <| At rfl hs8)) ?_
          refine Aa rfl (Ag (Bm rfl <| A5 rfl <| A1 rfl <| Al rfl <| Ad)) ?_
          refine Aa rfl (Bu (Ad) Ab rfl (by omega) (by omega)) ?_
          refine Bi rfl (B5 Bj C9 rfl (.cons (Ad) .nil) rfl rfl (by decide) (by simp [Value.oneCell']) fun b64 hb64 nb64 => ?_)
          refine B4 (i := 0) rfl hb64 .here fun F65 hF66 hz67 => ?_
          replace hFG := Heap.le_trans hFG hF66
          have hsl68 := Cw hz67
          refine Bi rfl (Cr Bj el_3 (Ar rfl <| Al rfl <| Ad) ho (Ad) hsl68.srcInt (by simp only [List.length_singleton]; omega) (by simp only [List.length_singleton]; omega) (.s <| .z) .last fun v69 R70 ho71 => ?_)
          have ho2 := ho71.snoc (x := (k : Int) + 1) rfl rfl
          refine Aa rfl (Ae (Ad)) ?_
          refine Ah <| Ba <| Ac <| Ai fun ds => Aa rfl (Bu (Bm rfl <| A5 rfl <| A7 rfl <| A1 rfl <| Al rfl <| At rfl hs62) Ab rfl (by omega) (by omega)) ?_
          refine Aa rfl (Ag (Ad)) ?_
          refine Ah <| Ac ⟨_, m - 1, Off.eq (ou32 rfl <| C4 rfl <| Dx rfl <| D8 rfl <| ou2 rfl <| D0 rfl <| Be), by omega, ?_⟩
          exact ⟨_, hFG, k + 1, by omega, (Ad), _, _, (Ar rfl <| Ad), by rw [readTo_succ, if_pos hrb]; exact ho2, rfl⟩
         ·
          replace hpl : decide (placeN (setS s x p ((k : Int) + 1)) l p = placeN s l p) = false := by simpa using hpl
          have hrb : readB s l x p k = false := by unfold readB; rw [hpl]; simp
          refine Ai fun ds => Aa rfl (A9 Bz (Bm rfl <| A5 rfl <| Ar rfl <| Ak rfl <| Bm rfl <| A7 rfl <| Ar rfl <| Al rfl <| Ad) rfl rfl (Cu hz11)) ?_
          refine Aa rfl (Ag (Bm rfl <| A5 rfl <| Ar rfl <| Al rfl <| Ak rfl <| Bm rfl <| A5 rfl <| A1 rfl <| Ar rfl <| Aj rfl)) ?_
          refine Bw rfl (Bb bd_82 Az (.cons (Bm rfl <| A1 rfl <| Al rfl <| Ad) (.cons (Al rfl <| Ad) (.cons (Ad) .nil))) (Ds hXm ht (by rw [setS_len]; exact hll) hvm hp) (fun _ _ h => h)) ?_
          refine Aa rfl (Ag (Bm rfl <| A5 rfl <| A1 rfl <| Al rfl <| Ak rfl <| A7 rfl <| Ar rfl <| Al rfl <| Ad)) ?_
          refine Aa rfl (By (Al rfl <| Ad) (Ad)) ?_
          refine Ah <| Ac <| Ao (Ad) hpl ?_
          refine Ax <| Ba <| Ac <| Ai fun ds => Aa rfl (Bu (Bm rfl <| A5 rfl <| A1 rfl <| Ar rfl <| Al rfl <| At rfl hs62) Ab rfl (by omega) (by omega)) ?_
          refine Aa rfl (Ag (Ad)) ?_
          refine Ah <| Ac ⟨_, m - 1, Off.eq (ou32 rfl <| C4 rfl <| Dx rfl <| D0 rfl <| Be), by omega, ?_⟩
          exact ⟨_, hFG, k + 1, by omega, (Ad), _, _, (Bm rfl <| A5 rfl <| A7 rfl <| Al rfl <| At rfl hs8), by rw [readTo_succ, if_neg (by rw [hrb]; simp)]; exact ho, rfl⟩
        ·
         have hrb : readB s l x p k = false := by unfold readB; rw [decide_eq_false (show ¬ s.r x p = 0 by omega), decide_eq_false (show ¬ s.r x p = (k : Int) + 1 by omega)]; rfl
         refine Aq (Ad) (by rw [er]; exact decide_eq_true hke) ?_
         refine Bp ?_
         refine Bc (Bg ?_)
         refine Ac <| Ai fun ds => Aa rfl (Bu (A7 rfl <| Ar rfl <| Al rfl <| At rfl hs62) Ab rfl (by omega) (by omega)) ?_
         refine Aa rfl (Ag (Ad)) ?_
         refine Ah <| Ac ⟨_, m - 1, Off.eq (Dx rfl <| D8 rfl <| D0 rfl <| Be), by omega, ?_⟩
         exact ⟨_, hFG, k + 1, by omega, (Ad), _, _, (A7 rfl <| A1 rfl <| Al rfl <| At rfl hs8), by rw [readTo_succ, if_neg (by rw [hrb]; simp)]; exact ho, rfl⟩
       ·
        have hkn : (decide (s.r x p = 0) || decide (s.r x p = (k : Int) + 1)) = true := by rw [decide_eq_true (show s.r x p = 0 by omega)]; rfl
        refine Ax <| Ac <| Af <| A0 <| Af <| Ai fun ds => Aa rfl (Ag (Al rfl <| At rfl hs62)) ?_
        refine Aa rfl (Ae (Ad)) ?_
        refine Ah <| Ac <| Af <| Af <| Ai fun ds => Aa rfl (Ag (Ar rfl <| Al rfl <| Ak rfl <| Al rfl <| Ad)) ?_
        refine Aa rfl (C8 (Ad) Ab) ?_
        refine Aa rfl (Ag (Ad)) ?_
        refine Aw rfl rfl (Ad) (.inl (congrArg Value.bool (by rw [er]; exact decide_eq_false hk0))) rfl ?_
        refine Aw rfl rfl (Al rfl <| Ad) (.inl (congrArg Value.bool (by rw [er]; exact decide_eq_false hk0))) rfl ?_
        refine Aw rfl rfl (Ar rfl <| Ad) (.inl (congrArg Value.bool (by rw [er]; exact decide_eq_false hk0))) rfl ?_
        refine Aw rfl rfl (Ar rfl <| Al rfl <| Ad) (.inl (congrArg Value.bool (by rw [er]; exact decide_eq_false hk0))) rfl ?_
        refine Aa rfl (Bd (A1 rfl <| Ad) (by rw [er]; exact decide_eq_false hk0) Ab) ?_
        refine Ah <| Ac <| Ao (Ad) rfl ?_
        have hvm := setS_valid (v := (k : Int) + 1) hv hx hp (by omega)
        refine Ax <| Ac <| Af <| Ai fun ds => Aa rfl (Ag (A7 rfl <| Ar rfl <| Al rfl <| Ak rfl <| Bm rfl <| A7 rfl <| Ar rfl <| Ad)) ?_
        refine Aa rfl (Bx (Ad)) ?_
        refine Aa rfl (A9 agg_128 (Ad) rfl rfl (Cu hX.blk)) ?_
        refine Bi rfl (Ca zr_128 rfl fun b72 hb72 nb72 => ?_)
        refine Ch (Cd sz_128 (Ad) (Al rfl <| Ad) (i := 0) rfl rfl rfl rfl hX.ones (.here) ?_)
        refine Ah <| Ac <| Af <| Ai fun ds => Aa rfl (Ag (A7 rfl <| A1 rfl <| Ar rfl <| Al rfl <| Ak rfl <| Bm rfl <| A7 rfl <| Ar rfl <| Ad)) ?_
        refine Aa rfl (Bx (Ad)) ?_
        refine Aa rfl (Am B8 (Ad)) ?_
        refine Aa rfl (Am Br (Ad)) ?_
        refine Aa rfl (Ap B0 (Ad) (CellF.own hX.blk rfl).cell) ?_
        refine Bi rfl (x_callNf bd_87 Az (.cons (Ad) .nil) (cloneEd_own hX.r.eds hX.r.one (by omega)) fun v73 F74 R77 hr75 hF76 => ?_)
        replace hX := hX.mono hF76
        replace hrx := hrx.mono hF76
        replace hFG := Heap.le_trans hFG hF76
        replace hle0 := Heap.le_trans hle0 hF76
        replace hz11 := hF76 _ _ hz11
        have hoE := hr75
        refine Aa rfl (Am B8 (A1 rfl <| Ar rfl <| Ad)) ?_
        refine Aa rfl (Am Br (Ad)) ?_
        refine WL_orderB (.one (.skip <| .here) <| .one (.skip <| .here) <| .blk (.lastS) <| .lastb (.last)) ?_
        refine Ch (Ci sz_23 (Ad) (Ar rfl <| Ad) (i := 0) rfl (.next <| .here) (Own.one hoE) (.here) ?_)
        refine Ah <| Ac <| Af ?_
        have hleS := hle0
        refine Cv (.inl rfl) (fun _ _ h => h) (.cons_cons _ <| .cons_cons _ <| .refl _) [16] (by kernel_rfl) fun ds => ?_
        refine A4 0 rfl (by kernel_rfl) (by kernel_rfl) (by kernel_rfl) (by kernel_rfl) rfl rfl (fun _ h => h.drop (.cons_cons _ <| .cons_cons _ <| .refl _)) (fun _ _ _ h => h) (Am B8 (A7 rfl <| Ad)) ?_
        refine A4 1 rfl (by kernel_rfl) (by kernel_rfl) (by kernel_rfl) (by kernel_rfl) rfl rfl (fun _ h => h.drop (.cons_cons _ <| .cons_cons _ <| .refl _)) (fun _ _ _ h => h) (Am Br (Ad)) ?_
        refine A4 2 rfl (by kernel_rfl) (by kernel_rfl) (by kernel_rfl) (by kernel_rfl) rfl rfl (fun _ h => h.drop (.cons_cons _ <| .cons_cons _ <| .refl _)) (fun _ _ _ h => h) (Ap B0 (Ad) (Cell.own 0 rfl rfl)) ?_
        refine A4 3 rfl (by kernel_rfl) (by kernel_rfl) (by kernel_rfl) (by kernel_rfl) rfl rfl (fun _ h => h.drop (.cons_cons _ <| .cons_cons _ <| .refl _)) (fun _ _ _ h => h) (Ag (A5 rfl <| A7 rfl <| Ar rfl <| Ak rfl <| Bm rfl <| A5 rfl <| A1 rfl <| Ar rfl <| Aj rfl)) ?_
        refine A4 4 rfl (by kernel_rfl) (by kernel_rfl) (by kernel_rfl) (by kernel_rfl) rfl rfl (fun _ h => h.drop (.cons_cons _ <| .cons_cons _ <| .refl _)) (fun _ _ _ h => h) (Ag (A5 rfl <| A7 rfl <| Ar rfl <| Al rfl <| Ak rfl <| Bm rfl <| A7 rfl <| Ar rfl <| Ad)) ?_
        refine A4 5 rfl (by kernel_rfl) (by kernel_rfl) (by kernel_rfl) (by kernel_rfl) rfl rfl (fun _ h => h.drop (.cons_cons _ <| .cons_cons _ <| .refl _)) (fun _ _ _ h => h) (Bx (Ad)) ?_
        refine A4 6 rfl (by kernel_rfl) (by kernel_rfl) (by kernel_rfl) (by kernel_rfl) rfl rfl (fun _ h => h.drop (.cons_cons _ <| .cons_cons _ <| .refl _)) (fun _ _ _ h => h) (Am B8 (Ad)) ?_
        refine A4 7 rfl (by kernel_rfl) (by kernel_rfl) (by kernel_rfl) (by kernel_rfl) rfl rfl (fun _ h => h.drop (.cons_cons _ <| .cons_cons _ <| .refl _)) (fun _ _ _ h => h) (Am Br (Ad)) ?_
        refine A4 8 rfl (by kernel_rfl) (by kernel_rfl) (by kernel_rfl) (by kernel_rfl) rfl rfl (fun _ h => h.drop (.cons_cons _ <| .cons_cons _ <| .refl _)) (fun _ _ _ h => h) (Ap B0 (Ad) (CellF.own hX.blk rfl).cell) ?_
        refine A4 9 rfl (by kernel_rfl) (by kernel_rfl) (by kernel_rfl) (by kernel_rfl) rfl rfl (fun _ h => h.drop (.cons_cons _ <| .cons_cons _ <| .refl _)) (fun _ _ _ h => h) (Ag (Bm rfl <| Ak rfl <| Bm rfl <| A5 rfl <| A1 rfl <| Ar rfl <| Aj rfl)) ?_
        refine A4 10 rfl (by kernel_rfl) (by kernel_rfl) (by kernel_rfl) (by kernel_rfl) rfl rfl (fun _ h => h.drop (.cons_cons _ <| .cons_cons _ <| .refl _)) (fun _ _ _ h => h) (Bf (k := x) B7 (Al rfl <| Ad) hX.r.eds.plain (Ad) rfl hxp) ?_
        refine A4 11 rfl (by kernel_rfl) (by kernel_rfl) (by kernel_rfl) (by kernel_rfl) rfl rfl (fun _ h => h.drop (.cons_cons _ <| .cons_cons _ <| .refl _)) (fun _ _ _ h => h) (Bs Cc (Ad)) ?_
        refine A4 12 rfl (by kernel_rfl) (by kernel_rfl) (by kernel_rfl) (by kernel_rfl) rfl rfl (fun _ h => h.drop (.cons_cons _ <| .cons_cons _ <| .refl _)) (fun _ _ _ h => h) (Ap Cf (Ad) (hX.r.eds.cell hxp rfl)) ?_
        refine WX_x 13 rfl (by kernel_rfl) rfl (x_callNf bd_76 Az (.cons (Ad) .nil) (cloneInt_own hrx (by omega)) fun v78 F79 R82 hr80 hF81 => ⟨fun _ _ _ h => (h.drop (List.sublist_append_of_sublist_right <| .cons_cons _ <| .cons_cons _ <| .refl _)).weak hF81 hleS, ?_⟩)
        replace hX := hX.mono hF81
        replace hFG := Heap.le_trans hFG hF81
        replace hz11 := hF81 _ _ hz11
        have hoR := hr80
        refine A4 14 rfl (by kernel_rfl) (by kernel_rfl) (by kernel_rfl) (by kernel_rfl) rfl rfl (fun _ h => (h.drop (List.sublist_append_of_sublist_right <| .cons_cons _ <| .cons_cons _ <| .refl _)).weak hF81 hleS) (fun _ _ _ h => h) (Bf (k := x) B7 (A7 rfl <| Ar rfl <| Al rfl <| Ad) (hoE.plain (by omega)) (A7 rfl <| Ar rfl <| Ad) rfl hxp) ?_
        refine A4 15 rfl (by kernel_rfl) (by kernel_rfl) (by kernel_rfl) (by kernel_rfl) rfl rfl (fun _ h => (h.drop (List.sublist_append_of_sublist_right <| .cons_cons _ <| .cons_cons _ <| .refl _)).weak hF81 hleS) (fun _ _ _ h => h) (Bs Cc (Ad)) ?_
        refine WX_orderB (.one (.skip <| .here) <| .one (.skip <| .here) <| .blk (.skip <| .here) <| .blk (.lastS) <| .lastb (.last)) ?_
        refine WX_x0 16 rfl (by kernel_rfl) (x_storeR sz_26 (Ad) (Ar rfl <| Ad) hoE (by rw [Ee edE_len]; omega) (Own.one hoR) (.s <| .s <| .k <| .z) .more fun R83 ho84 => ⟨(fun h => nomatch h), ?_⟩)
        have hoE2 := ed_own_set (e := (s.ed x).setR p ((k : Int) + 1)) ho84 hxp (by rw [e1]; rfl) (by rw [e1]; rfl) (by rw [e1]; rfl)
        refine Cz (by kernel_rfl) ?_ _
        refine Ac <| Af <| Ai fun ds => Aa rfl (Am B8 (A5 rfl <| A7 rfl <| Ad)) ?_
        refine Aa rfl (Am Br (Ad)) ?_
        refine Aa rfl (Ap B0 (Ad) (Cell.own 0 rfl rfl)) ?_
        refine Aa rfl (Ag (Bm rfl <| A7 rfl <| Ar rfl <| Ak rfl <| Bm rfl <| A5 rfl <| A1 rfl <| Ar rfl <| Aj rfl)) ?_
        refine Aa rfl (Bf (k := x) B7 (Al rfl <| Ad) (hoE2.plain (by rw [List.length_set]; omega)) (Ad) rfl (by simp; omega)) ?_
        refine Aa rfl (Bs Cc (Ad)) ?_
        refine Aa rfl (Ap Cf (Ad) (own_cell hoE2 (fun p hp => .tail _ (.tail _ (List.mem_append_right _ (List.mem_append_left _ hp)))) (ed_set_get hxp))) ?_
        refine Aa rfl (Ag (Bm rfl <| A7 rfl <| A1 rfl <| Ar rfl <| Ak rfl <| Bm rfl <| A5 rfl <| A1 rfl <| Ar rfl <| Aj rfl)) ?_
        refine Aa rfl (Ag (Bm rfl <| A7 rfl <| A1 rfl <| Ad)) ?_
        refine Aa rfl (Bu (Ad) Ab rfl (by omega) (by omega)) ?_
        refine Aa rfl (Bf (k := p) Bj (Ar rfl <| Al rfl <| Ad) (hoR.plain (by omega)) (Ar rfl <| Ad) rfl hpx) ?_
        refine Ch (x_storeR sz_3 (Ad) (Al rfl <| Ad) hoR (by rw [Ee (enc := intE) (s := 1) (fun _ => rfl)]; omega) rfl (.s <| .s <| .k <| .k <| .z) .last fun R85 ho86 => ?_)
        have hoR2 := ho86
        rw [show p * 1 = p * 1 + 0 from rfl, int_flat_set hpx] at hoR2
        replace hoR2 := hoR2.to (k' := ((s.ed x).rd.set p ((k : Int) + 1)).length) (by simp)
        refine Ah <| Ac <| Af <| Cx (σ := ⟨_, _⟩) (by rfl) hoR2 (.s <| .s <| .k <| .k <| .z) .last fun F87 hF88 hz89 => ?_
        replace hX := hX.mono hF88
        replace hFG := Heap.le_trans hFG hF88
        replace hz11 := hF88 _ _ hz11
        refine WC_pickB (.one (.here) <| .one (.here) <| .blk (.here) <| .lastb (.here)) ?_
        have hrn := hoR2.sl (fun _ => rfl) hz89 (by simp; omega)
        refine Cx (σ := ⟨_, _⟩) (by rfl) hoE2 (.s <| .s <| .k <| .z) .last fun F90 hF91 hz92 => ?_
        replace hX := hX.mono hF91
        replace hFG := Heap.le_trans hFG hF91
        replace hrn := hrn.mono hF91
        replace hz11 := hF91 _ _ hz11
        refine WC_pickB (.one (.here) <| .one (.here) <| .lastb (.here)) ?_
        have hen := hoE2.sl (fun _ => rfl) hz92 (by simp; omega)
        refine Cb (i := 0) rfl hb72 (.here) fun F93 hF94 hz15 => ?_
        replace hX := hX.mono hF94
        replace hFG := Heap.le_trans hFG hF94
        replace hrn := hrn.mono hF94
        replace hen := hen.mono hF94
        replace hz11 := hF94 _ _ hz11
        have hXm : StmX _ _ _ _ _ _ (setS s x p ((k : Int) + 1)) := ⟨hX.r.set hen hrn, hz15⟩
        by_cases hpl : decide (placeN (setS s x p ((k : Int) + 1)) l p = placeN s l p) = true
        ·
         have hrb : readB s l x p k = true := by unfold readB; rw [hkn, hpl]; rfl
         refine Ai fun ds => Aa rfl (A9 Bz (Bm rfl <| A5 rfl <| Ar rfl <| Ak rfl <| Bm rfl <| A7 rfl <| Ar rfl <| Al rfl <| Ad) rfl rfl (Cu hz11)) ?_
         refine Aa rfl (Ag (Bm rfl <| A5 rfl <| Ar rfl <| Al rfl <| Ak rfl <| Bm rfl <| A5 rfl <| A1 rfl <| Ar rfl <| Aj rfl)) ?_
         refine Bw rfl (Bb bd_82 Az (.cons (Bm rfl <| A1 rfl <| Al rfl <| Ad) (.cons (Al rfl <| Ad) (.cons (Ad) .nil))) (Ds hXm ht (by rw [setS_len]; exact hll) hvm hp) (fun _ _ h => h)) ?_
         refine Aa rfl (Ag (Bm rfl <| A5 rfl <| A1 rfl <| Al rfl <| Ak rfl <| A7 rfl <| Ar rfl <| Al rfl <| Ad)) ?_
         refine Aa rfl (By (Al rfl <| Ad) (Ad)) ?_
         refine Ah <| Ac <| Aq (Ad) hpl ?_
         refine Ai fun ds => Aa rfl (Ag (Bm rfl <| A5 rfl <| A1 rfl <| Ar rfl <| Al rfl <| At rfl hs8)) ?_
         refine Aa rfl (Ag (Bm rfl <| A5 rfl <| A1 rfl <| Al rfl <| Ad)) ?_
         refine Aa rfl (Bu (Ad) Ab rfl (by omega) (by omega)) ?_
         refine Bi rfl (B5 Bj C9 rfl (.cons (Ad) .nil) rfl rfl (by decide) (by simp [Value.oneCell']) fun b95 hb95 nb95 => ?_)
         refine B4 (i := 0) rfl hb95 .here fun F96 hF97 hz98 => ?_
         replace hFG := Heap.le_trans hFG hF97
         have hsl99 := Cw hz98
         refine Bi rfl (Cr Bj el_3 (Ar rfl <| Al rfl <| Ad) ho (Ad) hsl99.srcInt (by simp only [List.length_singleton]; omega) (by simp only [List.length_singleton]; omega) (.s <| .z) .last fun v100 R101 ho102 => ?_)
         have ho2 := ho102.snoc (x := (k : Int) + 1) rfl rfl
         refine Aa rfl (Ae (Ad)) ?_
         refine Ah <| Ba <| Ac <| Ai fun ds => Aa rfl (Bu (Bm rfl <| A5 rfl <| A7 rfl <| A1 rfl <| Al rfl <| At rfl hs62) Ab rfl (by omega) (by omega)) ?_
         refine Aa rfl (Ag (Ad)) ?_
         refine Ah <| Ac ⟨_, m - 1, Off.eq (ou32 rfl <| C4 rfl <| Dx rfl <| D8 rfl <| ou2 rfl <| D0 rfl <| Be), by omega, ?_⟩
         exact ⟨_, hFG, k + 1, by omega, (Ad), _, _, (Ar rfl <| Ad), by rw [readTo_succ, if_pos hrb]; exact ho2, rfl⟩
        ·
         replace hpl : decide (placeN (setS s x p ((k : Int) + 1)) l p = placeN s l p) = false := by simpa using hpl
         have hrb : readB s l x p k = false := by unfold readB; rw [hpl]; simp
         refine Ai fun ds => Aa rfl (A9 Bz (Bm rfl <| A5 rfl <| Ar rfl <| Ak rfl <| Bm rfl <| A7 rfl <| Ar rfl <| Al rfl <| Ad) rfl rfl (Cu hz11)) ?_
         refine Aa rfl (Ag (Bm rfl <| A5 rfl <| Ar rfl <| Al rfl <| Ak rfl <| Bm rfl <| A5 rfl <| A1 rfl <| Ar rfl <| Aj rfl)) ?_
         refine Bw rfl (Bb bd_82 Az (.cons (Bm rfl <| A1 rfl <| Al rfl <| Ad) (.cons (Al rfl <| Ad) (.cons (Ad) .nil))) (Ds hXm ht (by rw [setS_len]; exact hll) hvm hp) (fun _ _ h => h)) ?_
         refine Aa rfl (Ag (Bm rfl <| A5 rfl <| A1 rfl <| Al rfl <| Ak rfl <| A7 rfl <| Ar rfl <| Al rfl <| Ad)) ?_
         refine Aa rfl (By (Al rfl <| Ad) (Ad)) ?_
         refine Ah <| Ac <| Ao (Ad) hpl ?_
         refine Ax <| Ba <| Ac <| Ai fun ds => Aa rfl (Bu (Bm rfl <| A5 rfl <| A1 rfl <| Ar rfl <| Al rfl <| At rfl hs62) Ab rfl (by omega) (by omega)) ?_
         refine Aa rfl (Ag (Ad)) ?_
         refine Ah <| Ac ⟨_, m - 1, Off.eq (ou32 rfl <| C4 rfl <| Dx rfl <| D0 rfl <| Be), by omega, ?_⟩
         exact ⟨_, hFG, k + 1, by omega, (Ad), _, _, (Bm rfl <| A5 rfl <| A7 rfl <| Al rfl <| At rfl hs8), by rw [readTo_succ, if_neg (by rw [hrb]; simp)]; exact ho, rfl⟩
      ·
       refine Af <| Ai fun ds => Aa rfl (Bv (At rfl hs62) Ab) ?_
       refine Ah <| Ac <| Af <| Ao (Ad) (by first | rfl | exact decide_eq_false (by omega)) ?_
       obtain rfl : k = 3 := by omega
       refine Cx (σ := ⟨_, _⟩) (by rfl) ho (.s <| .z) .last fun F103 hF104 hz105 => ?_
       have hn8 := ho.sl (fun _ => rfl) hz105 (by have := readTo_len (s := s) (l := l) (x := x) (p := p) (k := 3); omega)
       refine Bp ?_
       refine Bc <| Bc <| Bg <| Ac <| Af <| Ai fun ds => Aa rfl (Ag (Al rfl <| At rfl hs8)) ?_
       refine Aa rfl (Ae (Ad)) ?_
       refine Aa rfl (Ae Ab) ?_
       refine Ah <| Ac <| A2 <| Au rfl (.tmp (Al rfl <| Ad) (.tmp (Ad) .nil)) ?_
       rw [readE_ok hre, Int.toNat_natCast, Int.toNat_natCast]
       exact ⟨_, rfl, hn8⟩
   ·
    replace h2 : inB 0 (s.places.length - 1) q = false := by simpa using h2
    refine Aq (Ad) (by simp [h2]) ?_
    refine Af <| Ai fun ds => Aa rfl (Ae Ab) ?_
    refine Aa rfl (Ae Ab) ?_
    refine Ah <| Ac <| A2 <| Bh (A8 ?_)
    refine Au rfl (.tmp (Al rfl <| Ad) (.tmp (Ad) .nil)) ?_
    rw [readE_bad (readErr_2 hok (by rw [h1, h2]; rfl)) (by decide)]
    exact ⟨_, rfl, Sl.nil⟩
  ·
   replace h1 : inB 0 (s.editions.length - 1) z = false := by simpa using h1
   refine Af <| Ai fun ds => Aa rfl (Am Br (A7 rfl <| A1 rfl <| Ar rfl <| Al rfl <| Ad)) ?_
   refine Aa rfl (Ap B0 (Ad) (CellF.own hz4 rfl).cell) ?_
   refine Aa rfl (Bk B7 (Ad) hr.eds.plain) ?_
   refine Aa rfl (q_sub (Ad) Ab rfl (by omega) (by omega)) ?_
   refine Aa rfl (Ag (A5 rfl <| A1 rfl <| Aj rfl)) ?_
   refine Bi rfl (B5 Bj C9 rfl (.cons (Ad) .nil) rfl rfl (by decide) (by simp [Value.oneCell']) fun b106 hb106 nb106 => ?_)
   refine B4 (i := 0) rfl hb106 .here fun F107 hF108 hz109 => ?_
   have hsl110 := Cw hz109
   refine Bw rfl (Bb Dy Az (.cons Ab (.cons (Ar rfl <| Ad) (.cons (Ad) .nil))) (Ce _ _ hsl110) (fun _ _ h => h)) ?_
   refine Aa rfl (Ag (Ad)) ?_
   refine Aw rfl rfl (Ad) (.inl (congrArg Value.bool (by simp [hlen, h1]))) rfl ?_
   refine Aw rfl rfl (Al rfl <| Ad) (.inl (congrArg Value.bool (by simp [hlen, h1]))) rfl ?_
   refine Aw rfl rfl (Ar rfl <| Ad) (.inl (congrArg Value.bool (by simp [hlen, h1]))) rfl ?_
   refine Aw rfl rfl (Ar rfl <| Al rfl <| Ad) (.inl (congrArg Value.bool (by simp [hlen, h1]))) rfl ?_
   refine Aw rfl rfl (A1 rfl <| Ad) (.inl (congrArg Value.bool (by simp [hlen, h1]))) rfl ?_
   refine Aw rfl rfl (A1 rfl <| Al rfl <| Ad) (.inl (congrArg Value.bool (by simp [hlen, h1]))) rfl ?_
   refine Aw rfl rfl (A1 rfl <| Ar rfl <| Ad) (.inl (congrArg Value.bool (by simp [hlen, h1]))) rfl ?_
   refine Aa rfl (A3 (A1 rfl <| Ar rfl <| Al rfl <| Ad) (by simp [hlen, h1]) Ab) ?_
   refine Aa rfl (Ae (Ad)) ?_
   refine Ah <| Ac <| Aq (Ad) rfl ?_
   refine Af <| Ai fun ds => Aa rfl (Ae Ab) ?_
   refine Aa rfl (Ae Ab) ?_
   refine Ah <| Ac <| A2 <| Bh (A8 ?_)
   refine Au rfl (.tmp (Al rfl <| Ad) (.tmp (Ad) .nil)) ?_
   rw [readE_bad (readErr_2 hok (by rw [h1]; rfl)) (by decide)]
   exact ⟨_, rfl, Sl.nil⟩
 ·
  refine Af <| Ai fun ds => Bi rfl (B3 (Aj rfl) rfl fun b111 hb111 nb111 => ?_)
  refine Aa rfl (Ae Ab) ?_
  refine Aa rfl (Ae Ab) ?_
  refine Ah <| Ac <| Af <| Ai fun ds => Aa rfl (A9 B6 (Ar rfl <| Ad) rfl rfl (A6 0 rfl)) ?_
  refine Aa rfl (Ag (A1 rfl <| Aj rfl)) ?_
  refine Bi rfl (Cj bd_68 Az (.cons (Al rfl <| Ad) (.cons (Ad) .nil)) (enter_bad hr hl hok) fun v112 F113 hr114 hF115 => ?_)
  obtain ⟨l2, rfl⟩ := hr114
  refine Aa rfl (Ag (Ad)) ?_
  refine Aa rfl (Ay (Ad) rfl) ?_
  refine Aa rfl (Ay (Al rfl <| Ad) rfl) ?_
  refine Aa rfl (Ay (Ar rfl <| Ad) rfl) ?_
  refine Bi rfl (Ca Dw rfl fun b116 hb116 nb116 => ?_)
  refine Aa rfl (Ae (Ar rfl <| Al rfl <| Ad)) ?_
  refine Ch (Cd D2 (Al rfl <| Ad) (Ar rfl <| Al rfl <| Ad) (i := 0) rfl rfl rfl rfl C5 (.here) ?_)
  refine Aa rfl (Ae (Ar rfl <| Ad)) ?_
  refine Ah <| Ac <| Af <| A0 <| Af <| Ai fun ds => Aa rfl (Ag (Ad)) ?_
  refine Aa rfl (B1 (Ad) Ab) ?_
  refine Aa rfl (Ae (Ad)) ?_
  refine Ah <| Ac <| Aq (Ad) (decide_eq_true hok) ?_
  refine Af <| Ai fun ds => Aa rfl (Ag (Ar rfl <| Al rfl <| Ad)) ?_
  refine Aa rfl (Ae Ab) ?_
  refine Aa rfl (Ae (Al rfl <| Ad)) ?_
  refine Ah <| Ac <| A2 <| Bh (A8 ?_)
  refine Au rfl (.tmp (Al rfl <| Ad) (.tmp (Ad) .nil)) ?_
  rw [readE_bad (readErr_1 hok) hok]
  exact ⟨_, rfl, Sl.nil⟩
end Go.Proofs.Ytccogmkhijgelaa
namespace Go.Proofs.Ytccogmkhijgelaa
open Go.RowKit
theorem zr_119 : ZeroT Try.prog 119 (.nilFunc) := C1 (by kernel_rfl)
theorem zr_26 : ZeroT Try.prog 26 (.slice none 0 0) := C1 (by kernel_rfl)
theorem zr_4 : ZeroT Try.prog 4 (.bool false) := C1 (by kernel_rfl)
theorem bd_84 : Body Try.prog 84 := Bo (by kernel_rfl)
theorem one_119 : OneT Try.prog 119 := Dl (by kernel_rfl)
theorem one_4 : OneT Try.prog 4 := Dl (by kernel_rfl)
theorem sz_119 : SizeT Try.prog 119 1 := Ct (by kernel_rfl)
theorem sz_4 : SizeT Try.prog 4 1 := Ct (by kernel_rfl)
theorem setTo_succ {s : Stm} {p k : Nat} : setTo s p (k + 1) = setTo s p k ||| 2 ^ (s.r k p).toNat := rfl
theorem kindTo_succ {s : Stm} {p k : Nat} : kindTo s p (k + 1) = kindTo s p k + if metB s p (k + 1) = true then 1 else 0 := rfl
theorem cleanS_none {s : Stm} {xs : List (List Int)} {t : List Int} (h : cleanR s xs = none) : cleanR s (xs ++ [t]) = some (uncleanL s t) := by rw [cleanR_snoc, h]; rfl
theorem cleanS_yes {s : Stm} {xs : List (List Int)} {t : List Int} {b : List Nat} (h : cleanR s xs = some b) (h2 : (uncleanL s t).length < b.length ∨ ((uncleanL s t).length = b.length ∧ cmpL (uncleanL s t) b < 0)) : cleanR s (xs ++ [t]) = some (uncleanL s t) := by rw [cleanR_snoc, h]; exact if_pos h2
theorem cleanS_no {s : Stm} {xs : List (List Int)} {t : List Int} {b : List Nat} (h : cleanR s xs = some b) (h2 : ¬ ((uncleanL s t).length < b.length ∨ ((uncleanL s t).length = b.length ∧ cmpL (uncleanL s t) b < 0))) : cleanR s (xs ++ [t]) = some b := by rw [cleanR_snoc, h]; exact if_neg h2
theorem bit_met {s : Stm} {p j : Nat} (hv : ValidT s) (hp : p < s.places.length) : (setTo s p s.editions.length / 2 ^ (j + 1) &&& 1 : Nat) = if metB s p (j + 1) = true then 1 else 0 := by
 have h := setTo_bit (v := j + 1) (fun i hi => (hv.rd i p hi hp).1) (Nat.le_refl s.editions.length)
 rw [Nat.testBit_eq_decide_div_mod_eq] at h
 rw [Nat.and_one_is_mod]
 unfold metB
 rw [← h]
 by_cases h2 : setTo s p s.editions.length / 2 ^ (j + 1) % 2 = 1
 · rw [if_pos (decide_eq_true h2)]; exact h2
 · rw [if_neg (by simpa using h2)]; omega
theorem opt_or {α : Type} (o : Option α) : o = none ∨ ∃ b, o = some b := by cases o with | none => exact .inl rfl | some b => exact .inr ⟨b, rfl⟩
theorem pow_le8T {n : Nat} (h : n ≤ 3) : 2 ^ n ≤ 8 := by
 have : n = 0 ∨ n = 1 ∨ n = 2 ∨ n = 3 := by omega
 rcases this with rfl | rfl | rfl | rfl <;> decide
set_option maxRecDepth 100000 in
theorem clean_top_ok {F : Heap} {vp ve : Value} {ps : List (Value × Edn)} {s : Stm} (hr : StmR F vp ve ps s) : Ok Try.prog 33 [.agg #[vp, ve]].toArray F fun u F' => NatsR F' u (cleanE s) := by
 have hle0 : F.le F := Heap.le_refl _
 refine Ok.intro Try.func33 rfl Try.ntmps33 rfl fun w0 => ?_
 have hL1 := hr.eds.plain.lt
 have hL2 := hr.places.plain.lt
 have hlen := hr.len
 by_cases h0 : (checkT s).2.2 = 0
 ·
  have hv := Di h0
  have hne := hv.ne
  have hnp := hv.np
  refine Af <| Ai fun ds => Bi rfl (B3 (Aj rfl) rfl fun b1 hb1 nb1 => ?_)
  refine Bi rfl (Ca zr_26 rfl fun b2 hb2 nb2 => ?_)
  refine Aa rfl (Ae Ab) ?_
  refine Ah <| Ac <| Af <| Ai fun ds => Aa rfl (A9 B6 (Ar rfl <| Ad) rfl rfl (A6 1 rfl)) ?_
  refine Bi rfl (Dj bd_65 Az (.cons (Ad) .nil) (open_ok hr h0) fun v3 F4 R7 hr5 hF6 => ?_)
  replace hr := hr.mono hF6
  obtain ⟨ba, kb, rfl, hX, rfl⟩ := hr5
  refine Aa rfl (Ag (Ad)) ?_
  refine Aa rfl (Ay (Ad) rfl) ?_
  refine Aa rfl (Ay (Al rfl <| Ad) rfl) ?_
  refine Aa rfl (Ae (Al rfl <| Ad)) ?_
  refine Aa rfl (Ae (Al rfl <| Ad)) ?_
  refine Ah <| Ac <| Af <| Af <| Ai fun ds => Aa rfl (Ag (Ad)) ?_
  refine Aa rfl (B1 (Ad) Ab) ?_
  refine Ah <| Ac <| Ao (Ad) (by decide) ?_
  refine Ax <| Ac <| Af <| Ai fun ds => Bi rfl (Ca zr_26 rfl fun b8 hb8 nb8 => ?_)
  refine Ah <| Ac <| Af <| Af <| Ai fun ds => Aa rfl (Am Cs (A7 rfl <| A1 rfl <| Ad)) ?_
  refine Aa rfl (Ap C0 (Ad) (Cell.own 2 rfl rfl)) ?_
  refine Aa rfl (Bk C3 (Ad) hr.places.plain) ?_
  refine Aa rfl (Ag Ab) ?_
  refine Ah <| Ac <| A0 <| Bt [6, 7, 9, 10, 11, 29, 30, 31, 32, 33, 34, 35, 36, 37, 38, 39, 40, 41, 42, 43, 44, 45, 46, 47, 48, 49, 50, 51, 52, 53, 54, 55, 56, 57, 58, 59, 60, 61, 62, 63, 64] (fun m e σ => ∃ p : Nat, m + p = s.places.length ∧ e 29 = .int .i64 (p : Int) ∧ ∃ v5 R5, Own 3 1 v5 (iL (needN s) p).length ((iL (needN s) p).flatMap intE) R5 ∧ σ = ⟨F4, (b8, bx 26 [v5]) :: (b2, bx 26 [.slice none 0 0]) :: (b1, bx 25 [vp, ve]) :: (kb, mapO []) :: R5⟩) (s.places.length) ?_ ?_
  · exact ⟨0, by omega, (Ad), _, [], Ed, rfl⟩
  ·
   rintro m e _ ⟨p, hm, hs29, v5, R5, ho, rfl⟩; have hil9 := C6 (f := needN s) (n := p)
   by_cases hp : p < s.places.length
   ·
    refine Af <| Ai fun ds => Aa rfl (Bv (At rfl hs29) (Ak rfl <| Al rfl <| Ad)) ?_
    refine Ah <| Ac <| Af <| Aq (Ad) (by first | rfl | exact decide_eq_true (by omega)) ?_
    refine Ax <| Ac <| Af <| A0 <| Af <| Ai fun ds => Aa rfl (Ag (Al rfl <| At rfl hs29)) ?_
    refine Aa rfl (Ae (Ad)) ?_
    refine Ah <| Ac <| Af <| Ai fun ds => Aa rfl (Ae Ab) ?_
    refine Ah <| Ac <| Af <| Af <| Ai fun ds => Aa rfl (Am Br (A1 rfl <| Ak rfl <| A5 rfl <| Ad)) ?_
    refine Aa rfl (Ap B0 (Ad) (Cell.own 2 rfl rfl)) ?_
    refine Aa rfl (Bk B7 (Ad) hr.eds.plain) ?_
    refine Aa rfl (Ag Ab) ?_
    refine Ah <| Ac <| A0 <| Bt [7, 9, 35, 36, 37, 38, 39, 40, 41, 42, 43, 44, 45, 46, 47] (fun m e σ => ∃ i : Nat, m + i = ps.length ∧ e 35 = .int .i64 (i : Int) ∧ e 7 = .int .i64 ((setTo s p i : Nat) : Int) ∧ σ = ⟨F4, (b8, bx 26 [v5]) :: (b2, bx 26 [.slice none 0 0]) :: (b1, bx 25 [vp, ve]) :: (kb, mapO []) :: R5⟩) (ps.length) ?_ ?_
    · exact ⟨0, by omega, (Ad), (A1 rfl <| Ad), rfl⟩
    ·
     rintro m1 e1 _ ⟨i, hm1, ht35, ht7, rfl⟩
     by_cases hli : i < ps.length
     ·
      have hil : i < s.editions.length := by omega
      have hri := hr.rd hli
      have hpi : p < (s.ed i).rd.length := by rw [hv.rdl i hil]; exact hp
      have er := rdT_at hpi
      have hrb := hv.rd i p hil hp
      have hst := setTo_lt (s := s) (p := p) (fun i hi => hv.rd i p hi hp) (k := i) (by omega)
      have hp8 := pow_le8T (n := (s.r i p).toNat) (by omega)
      refine Af <| Ai fun ds => Aa rfl (Bv (At rfl ht35) (Ak rfl <| Al rfl <| Ad)) ?_
      refine Ah <| Ac <| Af <| Aq (Ad) (by first | rfl | exact decide_eq_true (by omega)) ?_
      refine Ax <| Ac <| Af <| A0 <| Af <| Ai fun ds => Aa rfl (Bf (k := i) B7 (Al rfl <| Ak rfl <| Ar rfl <| Ad) hr.eds.plain (Al rfl <| At rfl ht35) rfl hli) ?_
      refine Aa rfl (A9 agg_64 (Ad) rfl rfl (hr.eds.whole hli)) ?_
      refine Bi rfl (Ca zr_64 rfl fun b11 hb11 nb11 => ?_)
      refine Ch (Cd sz_64 (Ad) (Al rfl <| Ad) (i := 0) rfl rfl rfl rfl (edE_one (hr.one _ (List.getElem_mem hli))) (.here) ?_)
      refine Ah <| Ac <| Ai fun ds => Aa rfl (Ag (A1 rfl <| At rfl ht7)) ?_
      refine Aa rfl (Am Cc (Al rfl <| Ad)) ?_
      refine Aa rfl (Ap Cf (Ad) (Cell.own 0 rfl rfl)) ?_
      refine Aa rfl (Ag (A1 rfl <| Ar rfl <| Al rfl <| Ak rfl <| A1 rfl <| Al rfl <| Ad)) ?_
      refine Aa rfl (Bf (k := p) Bj (Al rfl <| Ad) hri.plain (Ad) rfl hpi) ?_
      refine Aa rfl (Ap Bl (Ad) (hri.cell1 hpi rfl)) ?_
      refine Aa rfl (q_shl Ab (Ad) (k := (s.r i p).toNat) (by rw [er]; omega) (by omega) (show (1 : Int) * 2 ^ (s.r i p).toNat = ((2 ^ (s.r i p).toNat : Nat) : Int) by simp) (Int.le_trans (by decide) (Int.natCast_nonneg _)) (by omega)) ?_
      refine Aa rfl (q_or (A1 rfl <| Ar rfl <| Ad) (Ad) (m := setTo s p i) (k := 2 ^ (s.r i p).toNat) rfl rfl (by omega) (by omega) rfl) ?_
      refine Aa rfl (Ae (Ad)) ?_
      refine Ah <| Ba <| Ac <| Dg (fun _ _ h => h.drop (.cons _ <| .cons_cons _ <| .cons_cons _ <| .cons_cons _ <| .cons_cons _ <| .refl _)) ?_
      refine Ai fun ds => Aa rfl (Bu (A7 rfl <| A1 rfl <| Al rfl <| At rfl ht35) Ab rfl (by omega) (by omega)) ?_
      refine Aa rfl (Ag (Ad)) ?_
      refine Ah <| Ac ⟨_, m1 - 1, Off.eq (Dx rfl <| D8 rfl <| ou2 rfl <| D0 rfl <| Be), by omega, ?_⟩
      exact ⟨i + 1, by omega, (Ad), ((Ar rfl <| Ad)).trans (by rw [setTo_succ]), rfl⟩
     ·
      refine Af <| Ai fun ds => Aa rfl (Bv (At rfl ht35) (Ak rfl <| Al rfl <| Ad)) ?_
      refine Ah <| Ac <| Af <| Ao (Ad) (by first | rfl | exact decide_eq_false (by omega)) ?_
      obtain rfl : i = ps.length := by omega
      have hst := setTo_lt (s := s) (p := p) (fun i hi => hv.rd i p hi hp) (k := ps.length) (by omega)
      refine Bp ?_
      refine Bc <| Bc <| Bg <| Ac <| Af <| Ai fun ds => Aa rfl (Ae Ab) ?_
      refine Ah <| Ac <| Af <| Af <| Ai fun ds => Aa rfl (Ag Ab) ?_
      refine Ah <| Ac <| A0 <| Bt [10, 11, 48, 49, 50, 51, 52, 53, 54, 55, 56, 57, 58] (fun m e σ => ∃ j : Nat, m + j = 3 ∧ e 48 = .int .i64 (j : Int) ∧ e 10 = .int .i64 (-1 + kindTo s p j) ∧ σ = ⟨F4, (b8, bx 26 [v5]) :: (b2, bx 26 [.slice none 0 0]) :: (b1, bx 25 [vp, ve]) :: (kb, mapO []) :: R5⟩) (3) ?_ ?_
      · exact ⟨0, rfl, (Ad), (Al rfl <| Ad), rfl⟩
      ·
       rintro m2 e2 _ ⟨j, hm2, hu48, hu10, rfl⟩
       by_cases hl3 : j < 3
       ·
        have hkb := kindTo_bound (s := s) (p := p) j
        have hbt : (setTo s p ps.length / 2 ^ (j + 1) &&& 1 : Nat) = (if metB s p (j + 1) = true then 1 else 0 : Nat) := by have h9 := bit_met (j := j) hv hp; rw [← hlen] at h9; exact h9
        refine Af <| Ai fun ds => Aa rfl (Bv (At rfl hu48) Ab) ?_
        refine Ah <| Ac <| Af <| Aq (Ad) (by first | rfl | exact decide_eq_true (by omega)) ?_
        refine Ax <| Ac <| Af <| A0 <| Af <| Ai fun ds => Aa rfl (Ag (Al rfl <| At rfl hu48)) ?_
        refine Aa rfl (Ae (Ad)) ?_
        refine Ah <| Ac <| Ai fun ds => Aa rfl (Ag (Ar rfl <| Al rfl <| At rfl hu10)) ?_
        refine Aa rfl (Ag (A1 rfl <| Ak rfl <| Ar rfl <| Al rfl <| At rfl ht7)) ?_
        refine Aa rfl (Ag (Ar rfl <| Ad)) ?_
        refine Aa rfl (Bu (Ad) Ab rfl (by omega) (by omega)) ?_
        refine Aa rfl (q_shr (Ar rfl <| Ad) (Ad) (k := j + 1) (by omega) (by show j + 1 < 64; omega) (shr_nat (m := setTo s p ps.length))) ?_
        refine Aa rfl (q_and (Ad) Ab (m := setTo s p ps.length / 2 ^ (j + 1)) (k := 1) rfl rfl (by have := Nat.div_le_self (setTo s p ps.length) (2 ^ (j + 1)); omega) (by omega) rfl) ?_
        refine Aa rfl (Bu (A1 rfl <| Al rfl <| Ad) (Ad) rfl (by rw [hbt]; split <;> omega) (by rw [hbt]; split <;> omega)) ?_
        refine Aa rfl (Ae (Ad)) ?_
        refine Ah <| Ba <| Ac <| Ai fun ds => Aa rfl (Bu (A7 rfl <| Ar rfl <| Al rfl <| At rfl hu48) Ab rfl (by omega) (by omega)) ?_
        refine Aa rfl (Ag (Ad)) ?_
        refine Ah <| Ac ⟨_, m2 - 1, Off.eq (Dx rfl <| D8 rfl <| D0 rfl <| Be), by omega, ?_⟩
        refine ⟨j + 1, by omega, (Ad), ((Ar rfl <| Ad)).trans ?_, rfl⟩
        rw [kindTo_succ, hbt]; congr 1; split <;> omega
       ·
        refine Af <| Ai fun ds => Aa rfl (Bv (At rfl hu48) Ab) ?_
        refine Ah <| Ac <| Af <| Ao (Ad) (by first | rfl | exact decide_eq_false (by omega)) ?_
        obtain rfl : j = 3 := by omega
        have hkb := kindTo_bound (s := s) (p := p) 3
        refine Bp ?_
        refine Bc <| Bc <| Bg <| Ac <| Ai fun ds => Aa rfl (Ap Cf (Al rfl <| Ak rfl <| Ar rfl <| Al rfl <| Ak rfl <| A7 rfl <| Ak rfl <| A1 rfl <| Ad) (Cell.own 0 rfl rfl)) ?_
        refine Aa rfl (Ag (Ar rfl <| At rfl hu10)) ?_
        refine Aa rfl (q_max2 Ab (Ad)) ?_
        refine Bi rfl (B5 Bj C9 rfl (.cons (Ad) .nil) rfl rfl (by decide) (by simp [Value.oneCell']) fun b13 hb13 nb13 => ?_)
        refine Bi rfl (Cr Bj el_3 (Ar rfl <| Al rfl <| Ad) ho (Ad) (Dk (s := 1) 0 rfl rfl (by simp [Value.oneCell'])) (by omega) (by omega) (.s <| .s <| .s <| .s <| .s <| .z) .last fun v14 R15 ho16 => ?_)
        have ho2 : Own 3 1 v14 (iL (needN s) (p + 1)).length ((iL (needN s) (p + 1)).flatMap intE) R15 := by have h9 := ho16; rw [iL_succ]; exact h9.snoc (x := needN s p) rfl (by unfold needN kindsN intE; congr 2; omega)
        refine Ch (Ci sz_26 (A1 rfl <| Ar rfl <| Ak rfl <| Ar rfl <| Al rfl <| Ak rfl <| A7 rfl <| Ak rfl <| A1 rfl <| Ad) (Ad) (i := 1) rfl (.here) (Own.one ho2) (.next <| .here) ?_)
        refine Ah <| Ba <| Ac <| Dg (fun _ _ h => h.drop (.cons _ <| .cons_cons _ <| .cons_cons _ <| .cons_cons _ <| .cons_cons _ <| .refl _)) ?_
        refine Ai fun ds => Aa rfl (Bu (A1 rfl <| Ar rfl <| Ak rfl <| Ar rfl <| Al rfl <| Ak rfl <| A7 rfl <| At rfl hs29) Ab rfl (by omega) (by omega)) ?_
        refine Aa rfl (Ag (Ad)) ?_
        refine Ah <| Ac ⟨_, m - 1, Off.eq (Dx rfl <| off_in rfl <| ou2 rfl <| D0 rfl <| off_in rfl <| Dx rfl <| Be), by omega, ?_⟩
        refine ⟨p + 1, by omega, (Ad), _, _, ho2, rfl⟩
   ·
    refine Af <| Ai fun ds => Aa rfl (Bv (At rfl hs29) (Ak rfl <| Al rfl <| Ad)) ?_
    refine Ah <| Ac <| Af <| Ao (Ad) (by first | rfl | exact decide_eq_false (by omega)) ?_
    obtain rfl : p = s.places.length := by omega
    refine Cx (σ := ⟨_, _⟩) (by rfl) ho (.s <| .s <| .s <| .s <| .z) .last fun F17 hF18 hz19 => ?_
    replace hX := hX.mono hF18
    have hnd := ho.sl (fun _ => rfl) hz19 (by rw [C6]; omega)
    refine Cb (i := 0) rfl hb8 (.here) fun F20 hF21 hz5 => ?_
    replace hX := hX.mono hF21
    replace hnd := hnd.mono hF21
    refine Bp ?_
    refine Bc <| Bc <| Bg <| Ac <| Af <| Ai fun ds => Bi rfl (Ca zr_4 rfl fun b22 hb22 nb22 => ?_)
    refine Ch (Ci sz_4 (Ad) Ab (i := 0) rfl (.here) rfl (.here) ?_)
    refine Ah <| Ac <| Af <| Ai fun ds => Aa rfl (Ag (Ar rfl <| Ak rfl <| A7 rfl <| Ad)) ?_
    refine Aa rfl (q_makeFunc2 (.cons (Ad) .nil) .nil) ?_
    refine Bi rfl (Ca zr_119 rfl fun b23 hb23 nb23 => ?_)
    refine Ch (Ci sz_119 (Ad) (Al rfl <| Ad) (i := 0) rfl (.here) rfl (.here) ?_)
    refine Ah <| Ac <| Af <| Af <| Cb (i := 0) rfl hb23 (.here) fun F24 hF25 hz13 => ?_
    replace hX := hX.mono hF25
    replace hnd := hnd.mono hF25
    replace hz5 := hF25 _ _ hz5
    refine Ai fun ds => Aa rfl (Ag (A1 rfl <| Al rfl <| Ak rfl <| A7 rfl <| Ad)) ?_
    refine Bi rfl (Cj bd_83 Az (.cons (Ad) .nil) (trees_ok hX) fun v26 F27 hr28 hF29 => ?_)
    replace hX := hX.mono hF29
    replace hnd := hnd.mono hF29
    replace hz5 := hF29 _ _ hz5
    replace hz13 := hF29 _ _ hz13
    obtain ⟨dz, rfl, hzd⟩ := hr28
    refine Ah <| Ac <| A0 <| WC_rangeG rfl (Ad) (bd_116) (trees1_iter hX hv hzd) (Heap.le_refl _) (fun pre G H => ∃ v2, Nats G v2 ((cleanR s pre).getD []) ∧ H = [(b22, bx 4 [.bool (cleanR s pre).isSome]), (b2, bx 26 [v2]), (b1, bx 25 [vp, ve]), (kb, mapO [])]) (fun _ _ _ => False) (fun _ _ _ _ hF h => by obtain ⟨v, h1, h2⟩ := h; exact ⟨v, h1.mono hF, h2⟩) (fun _ _ _ _ _ h => h) ⟨_, Sl.nil, rfl⟩ (fun L D fn tm pre x rest G H1 vs hxs hle hJ hA => ?_) (fun _ _ _ _ h => h.elim) (fun F2 H1 hF2 hJ => ?_)
    ·
     replace hX := hX.mono hle
     replace hnd := hnd.mono hle
     replace hz5 := hle _ _ hz5
     replace hz13 := hle _ _ hz13
     obtain ⟨v2, hv2, rfl⟩ := hJ
     obtain rfl : vs = [treeV x] := hA
     have hxm : x ∈ allTrees s := by rw [hxs]; simp
     obtain ⟨hll, ht, -⟩ := allTrees_mem.1 hxm
     refine ⟨rfl, rfl, fun w1 => ?_⟩
     refine WC_eq (e' := (upd _ 69 (treeV x))) rfl rfl ?_
     refine B9 (.inr (by kernel_rfl)) (fun _ _ h => h) fun ds => ?_
     refine Bi rfl (Ca Dw rfl fun b30 hb30 nb30 => ?_)
     refine WL_order (.cons (.next <| .here) <| .cons (.next <| .here) <| .cons (.here) <| .cons (.here) <| .cons (.here) <| .cons (.here) <| .cons (.here) <| .nil) ?_
     refine Ch (Cd D2 (Ad) (Al rfl <| Ad) (i := 2) rfl rfl rfl rfl C5 (.next <| .next <| .here) ?_)
     refine Ah <| Ac ⟨_, rfl, ?_⟩
     refine A0 <| Af <| WC_name (i := 0) rfl (fun _ => .here) fun oL hoL => ?_
     refine B9 (.inr (by kernel_rfl)) (fun _ _ h => h) fun ds => ?_
     refine Aa rfl (Ae Ab) ?_
     refine Ah <| Ac <| Af <| Af <| B9 (.inr (by kernel_rfl)) (fun _ _ h => h) fun ds => ?_
     refine Aa rfl (Ap Cf (A7 rfl <| Ar rfl <| Ak rfl <| A1 rfl <| Ad) (CellF.own hz5 rfl).cell) ?_
     refine Aa rfl (Bk Bj (Ad) hnd.plain) ?_
     refine Aa rfl (Ag Ab) ?_
     refine Ah <| Ac <| A0 <| Bt [15, 16, 17, 72, 73, 74, 75, 76, 77, 78, 79, 80, 81, 82, 83, 84, 85, 86, 87] (fun m e σ => ∃ q : Nat, m + q = s.places.length ∧ e 72 = .int .i64 (q : Int) ∧ ∃ v15 R15, e 15 = v15 ∧ Own 3 1 v15 (selN (uncleanB s x) q).length ((selN (uncleanB s x) q).flatMap natE) R15 ∧ σ = ⟨G, (L, oL) :: (D, openO) :: (b30, bx 100 (treeC x)) :: (b22, bx 4 [.bool (cleanR s pre).isSome]) :: (b2, bx 26 [v2]) :: (b1, bx 25 [vp, ve]) :: (kb, mapO []) :: R15⟩) (s.places.length) ?_ ?_
     · exact ⟨0, by omega, (Ad), _, _, (Ar rfl <| Al rfl <| Ad), Own.nil, rfl⟩
     ·
      rintro m e _ ⟨q, hm, hs72, v15, R15, hs15, ho, rfl⟩; have hsl := Dd (p := (uncleanB s x)) (k := q)
      by_cases hlq : q < s.places.length
      ·
       refine Af <| B9 (.inr (by kernel_rfl)) (fun _ _ h => h) fun ds => ?_
       refine Aa rfl (Bv (At rfl hs72) (Ak rfl <| Al rfl <| Ad)) ?_
       refine Ah <| Ac <| Af <| Aq (Ad) (by first | rfl | exact decide_eq_true (by omega)) ?_
       have hnq : (iL (needN s) s.places.length)[q]'(by rw [C6]; exact hlq) = needN s q := iL_at _
       have hup := unclean_place ht hv hll (p := q)
       by_cases hub : uncleanB s x q = true
       ·
        refine Ax <| Ac <| Af <| A0 <| Af <| B9 (.inr (by kernel_rfl)) (fun _ _ h => h) fun ds => ?_
        refine Aa rfl (Ag (Al rfl <| At rfl hs72)) ?_
        refine Aa rfl (Bf (k := q) Bj (Ar rfl <| Ak rfl <| Ar rfl <| Ad) hnd.plain (Ar rfl <| At rfl hs72) rfl (by rw [C6]; exact hlq)) ?_
        refine Aa rfl (Ap Bl (Ad) (hnd.cell1 (by rw [C6]; exact hlq) rfl)) ?_
        refine Aa rfl (Ae (Ar rfl <| Ad)) ?_
        refine Aa rfl (Ae (Al rfl <| Ad)) ?_
        refine Ah <| Ac <| Af <| B9 (.inr (by kernel_rfl)) (fun _ _ h => h) fun ds => ?_
        refine Aa rfl (Ap one_119 (A1 rfl <| Ar rfl <| Ak rfl <| A7 rfl <| Ad) (CellF.own hz13 rfl).cell) ?_
        refine Aa rfl (A9 Bz (A1 rfl <| Ar rfl <| Al rfl <| Ak rfl <| A1 rfl <| Ad) rfl rfl (A6 2 rfl)) ?_
        refine Aa rfl (Ag (Ar rfl <| Al rfl <| Ad)) ?_
        refine Bw rfl (q_callF bd_82 (Ar rfl <| Ad) (.cons (Al rfl <| Ad) (.cons (Ad) .nil)) (Ds hX ht hll hv hlq) (fun _ _ h => h)) ?_
        refine Aa rfl (Ag (A1 rfl <| Ad)) ?_
        refine Aa rfl (B1 (Al rfl <| Ad) (Ad)) ?_
        refine Ah <| Ac <| Aq (Ad) (decide_eq_true (by rw [hnq]; exact hup.2 hub)) ?_
        refine B9 (.inr (by kernel_rfl)) (fun _ _ h => h) fun ds => ?_
        refine Aa rfl (Ag (A7 rfl <| A1 rfl <| At rfl hs15)) ?_
        refine Aa rfl (Ag (A7 rfl <| Ad)) ?_
        refine Bi rfl (B5 Bj C9 rfl (.cons (Ad) .nil) rfl rfl (by decide) (by simp [Value.oneCell']) fun b32 hb32 nb32 => ?_)
        refine Bi rfl (Cr Bj el_3 (Ar rfl <| Ad) ho (Ad) (Dk (s := 1) 0 rfl rfl (by simp [Value.oneCell'])) (by omega) (by omega) (.s <| .s <| .s <| .s <| .s <| .s <| .s <| .s <| .z) .last fun v33 R34 ho35 => ?_)
        have ho2 := ho35.snoc (x := q) rfl rfl
        refine Aa rfl (Ae (Ad)) ?_
        refine Ah <| Ba <| Ac <| Dg (fun _ _ h => h.drop (.cons _ <| .cons_cons _ <| .cons_cons _ <| .cons_cons _ <| .cons_cons _ <| .cons_cons _ <| .cons_cons _ <| .cons_cons _ <| .refl _)) ?_
        refine B9 (.inr (by kernel_rfl)) (fun _ _ h => h) fun ds => ?_
        refine Aa rfl (Bu (A5 rfl <| Al rfl <| At rfl hs72) Ab rfl (by omega) (by omega)) ?_
        refine Aa rfl (Ag (Ad)) ?_
        refine Ah <| Ac ⟨_, m - 1, Off.eq (C4 rfl <| ou2 rfl <| D0 rfl <| Be), by omega, ?_⟩
        exact ⟨q + 1, by omega, (Ad), _, _, (Ar rfl <| Ad), by rw [Dr, if_pos hub]; exact ho2, rfl⟩
       ·
        replace hub : uncleanB s x q = false := by simpa using hub
        refine Ax <| Ac <| Af <| A0 <| Af <| B9 (.inr (by kernel_rfl)) (fun _ _ h => h) fun ds => ?_
        refine Aa rfl (Ag (Al rfl <| At rfl hs72)) ?_
        refine Aa rfl (Bf (k := q) Bj (Ar rfl <| Ak rfl <| Ar rfl <| Ad) hnd.plain (Ar rfl <| At rfl hs72) rfl (by rw [C6]; exact hlq)) ?_
        refine Aa rfl (Ap Bl (Ad) (hnd.cell1 (by rw [C6]; exact hlq) rfl)) ?_
        refine Aa rfl (Ae (Ar rfl <| Ad)) ?_
        refine Aa rfl (Ae (Al rfl <| Ad)) ?_
        refine Ah <| Ac <| Af <| B9 (.inr (by kernel_rfl)) (fun _ _ h => h) fun ds => ?_
        refine Aa rfl (Ap one_119 (A1 rfl <| Ar rfl <| Ak rfl <| A7 rfl <| Ad) (CellF.own hz13 rfl).cell) ?_
        refine Aa rfl (A9 Bz (A1 rfl <| Ar rfl <| Al rfl <| Ak rfl <| A1 rfl <| Ad) rfl rfl (A6 2 rfl)) ?_
        refine Aa rfl (Ag (Ar rfl <| Al rfl <| Ad)) ?_
        refine Bw rfl (q_callF bd_82 (Ar rfl <| Ad) (.cons (Al rfl <| Ad) (.cons (Ad) .nil)) (Ds hX ht hll hv hlq) (fun _ _ h => h)) ?_
        refine Aa rfl (Ag (A1 rfl <| Ad)) ?_
        refine Aa rfl (B1 (Al rfl <| Ad) (Ad)) ?_
        refine Ah <| Ac <| Ao (Ad) (decide_eq_false (by rw [hnq]; exact fun h => by rw [hup.1 h] at hub; cases hub)) ?_
        refine Ax <| Ba <| Ac <| B9 (.inr (by kernel_rfl)) (fun _ _ h => h) fun ds => ?_
        refine Aa rfl (Bu (A7 rfl <| A1 rfl <| At rfl hs72) Ab rfl (by omega) (by omega)) ?_
        refine Aa rfl (Ag (Ad)) ?_
        refine Ah <| Ac ⟨_, m - 1, Off.eq (Dx rfl <| D8 rfl <| ou2 rfl <| Be), by omega, ?_⟩
        exact ⟨q + 1, by omega, (Ad), _, _, (A7 rfl <| A1 rfl <| Ar rfl <| At rfl hs15), by rw [Dr, if_neg (by rw [hub]; simp)]; exact ho, rfl⟩
      ·
       refine Af <| B9 (.inr (by kernel_rfl)) (fun _ _ h => h) fun ds => ?_
       refine Aa rfl (Bv (At rfl hs72) (Ak rfl <| Al rfl <| Ad)) ?_
       refine Ah <| Ac <| Af <| Ao (Ad) (by first | rfl | exact decide_eq_false (by omega)) ?_
       obtain rfl : q = s.places.length := by omega
       refine WC_freezeRM (σ := ⟨_, _⟩) (by intro m hm; simp [keys] at hm ⊢; rcases hm with h | h | h | h | h | h <;> simp [h]) ho (.s <| .s <| .s <| .s <| .s <| .s <| .s <| .z) .last fun F36 hF37 hz38 => ?_
       replace hle := hle.mono hF37
       replace hv2 := hv2.mono hF37
       have hl15 := ho.sl (fun _ => rfl) hz38 (by omega)
       change Nats _ _ (uncleanL s x) at hl15
       rcases opt_or (cleanR s pre) with hcs | ⟨bb, hcs⟩
       ·
        refine Bp ?_
        refine Bc <| Bc <| Bg <| Ac <| Af <| B9 (.inr (by kernel_rfl)) (fun _ _ h => h) fun ds => ?_
        refine Aa rfl (Ap one_4 (Al rfl <| Ak rfl <| A7 rfl <| Ar rfl <| Al rfl <| Ad) (Cell.own 3 rfl rfl)) ?_
        refine Aa rfl (Cl (Ad)) ?_
        refine Aa rfl (Ag (Ad)) ?_
        refine Aw rfl rfl (Ad) (.inl (congrArg Value.bool (by rw [hcs]; rfl))) rfl ?_
        refine Aw rfl rfl (Al rfl <| Ad) (.inl (congrArg Value.bool (by rw [hcs]; rfl))) rfl ?_
        refine Aw rfl rfl (Ar rfl <| Ad) (.inl (congrArg Value.bool (by rw [hcs]; rfl))) rfl ?_
        refine Aw rfl rfl (Ar rfl <| Al rfl <| Ad) (.inl (congrArg Value.bool (by rw [hcs]; rfl))) rfl ?_
        refine Aw rfl rfl (A1 rfl <| Ad) (.inl (congrArg Value.bool (by rw [hcs]; rfl))) rfl ?_
        refine Aa rfl (A3 (A1 rfl <| Al rfl <| Ad) (by rw [hcs]; rfl) Ab) ?_
        refine Aa rfl (Ag (Ad)) ?_
        refine Aw rfl rfl (Ad) (.inl (congrArg Value.bool rfl)) rfl ?_
        refine Aw rfl rfl (Al rfl <| Ad) (.inl (congrArg Value.bool rfl)) rfl ?_
        refine Aw rfl rfl (Ar rfl <| Ad) (.inl (congrArg Value.bool rfl)) rfl ?_
        refine Aw rfl rfl (Ar rfl <| Al rfl <| Ad) (.inl (congrArg Value.bool rfl)) rfl ?_
        refine Aw rfl rfl (A1 rfl <| Ad) (.inl (congrArg Value.bool rfl)) rfl ?_
        refine Aw rfl rfl (A1 rfl <| Al rfl <| Ad) (.inl (congrArg Value.bool rfl)) rfl ?_
        refine Aw rfl rfl (Ad) (.inr rfl) rfl ?_
        refine Aw rfl rfl (Al rfl <| Ad) (.inr rfl) rfl ?_
        refine Aw rfl rfl (Ar rfl <| Ad) (.inr rfl) rfl ?_
        refine Aw rfl rfl (Ar rfl <| Al rfl <| Ad) (.inr rfl) rfl ?_
        refine Aw rfl rfl (A7 rfl <| Ar rfl <| Ad) (.inl (congrArg Value.bool rfl)) rfl ?_
        refine Aa rfl (A3 (A7 rfl <| Ar rfl <| Al rfl <| Ad) rfl Ab) ?_
        refine Ah <| Ac <| Aq (Ad) rfl ?_
        subst hoL
        refine B9 (.inr (by kernel_rfl)) (fun _ _ h => h) fun ds => ?_
        refine Aa rfl (Ag (A5 rfl <| A1 rfl <| Ar rfl <| Al rfl <| At rfl hs15)) ?_
        refine Ch (Ci sz_26 (A5 rfl <| A7 rfl <| Ak rfl <| A7 rfl <| A1 rfl <| Al rfl <| Ak rfl <| A7 rfl <| A1 rfl <| Ar rfl <| Al rfl <| Ad) (Ad) (i := 4) rfl (.here) (by first | rfl | exact hl15.plain.one) (.next <| .next <| .next <| .next <| .here) ?_)
        refine Ch (Ci sz_4 (A5 rfl <| A7 rfl <| Ak rfl <| A7 rfl <| Ar rfl <| Al rfl <| Ad) Ab (i := 3) rfl (.here) (by first | rfl | exact hl15.plain.one) (.next <| .next <| .next <| .here) ?_)
        refine Ah <| Ba ?_
        refine Eb (.one (.here) <| .one (.here) <| .one (.next <| .here) <| .one (.next <| .here) <| .one (.next <| .here) <| .one (.next <| .here) <| .nil) ?_
        refine .inl ⟨rfl, _, rfl, hle, ?_⟩
        exact ⟨_, by rw [cleanS_none hcs]; exact hl15, by rw [cleanS_none hcs]; first | done | rfl⟩
       ·
        have hv2b := hv2
        rw [hcs] at hv2b
        replace hv2b : Nats _ v2 bb := hv2b
        have hbl := hv2b.plain.lt
        refine Bp ?_
        refine Bc <| Bc <| Bg <| Ac <| Af <| B9 (.inr (by kernel_rfl)) (fun _ _ h => h) fun ds => ?_
        refine Aa rfl (Ap one_4 (Al rfl <| Ak rfl <| A7 rfl <| Ar rfl <| Al rfl <| Ad) (Cell.own 3 rfl rfl)) ?_
        refine Aa rfl (Cl (Ad)) ?_
        refine Aa rfl (Ag (Ad)) ?_
        refine As rfl rfl (Ad) (by rw [hcs]; rfl) ?_
        refine Aa rfl (Ag (A1 rfl <| At rfl hs15)) ?_
        refine As rfl rfl (Al rfl <| Ad) (by rw [hcs]; rfl) ?_
        refine Aa rfl (Bk Bj (Ad) hl15.plain) ?_
        refine As rfl rfl (Ar rfl <| Ad) (by rw [hcs]; rfl) ?_
        refine Aa rfl (Ap Cf (A1 rfl <| Ar rfl <| Ak rfl <| A7 rfl <| A1 rfl <| Al rfl <| Ak rfl <| A7 rfl <| A1 rfl <| Ar rfl <| Al rfl <| Ad) (Cell.own 4 rfl rfl)) ?_
        refine As rfl rfl (Ar rfl <| Al rfl <| Ad) (by rw [hcs]; rfl) ?_
        refine Aa rfl (Bk Bj (Ad) hv2.plain) ?_
        refine As rfl rfl (A1 rfl <| Ad) (by rw [hcs]; rfl) ?_
        refine Aa rfl (Bv (Ar rfl <| Ad) (Ad)) ?_
        refine Aa rfl (Bd (A1 rfl <| Al rfl <| Ad) (by rw [hcs]; rfl) (Ad)) ?_
        refine Aa rfl (Ag (Ad)) ?_
        by_cases h1 : (uncleanL s x).length < bb.length
        ·
         refine Aw rfl rfl (Ad) (.inl (congrArg Value.bool (decide_eq_true (by rw [hcs]; show (_ : Int) < (bb.length : Int); omega)))) rfl ?_
         refine Aw rfl rfl (Al rfl <| Ad) (.inl (congrArg Value.bool (decide_eq_true (by rw [hcs]; show (_ : Int) < (bb.length : Int); omega)))) rfl ?_
         refine Aw rfl rfl (Ar rfl <| Ad) (.inl (congrArg Value.bool (decide_eq_true (by rw [hcs]; show (_ : Int) < (bb.length : Int); omega)))) rfl ?_
         refine Aw rfl rfl (Ar rfl <| Al rfl <| Ad) (.inl (congrArg Value.bool (decide_eq_true (by rw [hcs]; show (_ : Int) < (bb.length : Int); omega)))) rfl ?_
         refine Aw rfl rfl (A1 rfl <| Ad) (.inl (congrArg Value.bool (decide_eq_true (by rw [hcs]; show (_ : Int) < (bb.length : Int); omega)))) rfl ?_
         refine Aw rfl rfl (A1 rfl <| Al rfl <| Ad) (.inl (congrArg Value.bool (decide_eq_true (by rw [hcs]; show (_ : Int) < (bb.length : Int); omega)))) rfl ?_
         refine Aw rfl rfl (Ad) (.inr rfl) rfl ?_
         refine Aw rfl rfl (Al rfl <| Ad) (.inr rfl) rfl ?_
         refine Aw rfl rfl (Ar rfl <| Ad) (.inr rfl) rfl ?_
         refine Aw rfl rfl (Ar rfl <| Al rfl <| Ad) (.inr rfl) rfl ?_
         refine Aw rfl rfl (A7 rfl <| Ar rfl <| Ad) (.inl (congrArg Value.bool (decide_eq_true (by rw [hcs]; show (_ : Int) < (bb.length : Int); omega)))) rfl ?_
         refine Aa rfl (A3 (A7 rfl <| Ar rfl <| Al rfl <| Ad) (decide_eq_true (by rw [hcs]; show (_ : Int) < (bb.length : Int); omega)) Ab) ?_
         refine Ah <| Ac <| Aq (Ad) rfl ?_
         subst hoL
         refine B9 (.inr (by kernel_rfl)) (fun _ _ h => h) fun ds => ?_
         refine Aa rfl (Ag (A5 rfl <| A1 rfl <| Ar rfl <| Al rfl <| At rfl hs15)) ?_
         refine Ch (Ci sz_26 (A5 rfl <| A7 rfl <| Ak rfl <| A7 rfl <| A1 rfl <| Al rfl <| Ak rfl <| A7 rfl <| A1 rfl <| Ar rfl <| Al rfl <| Ad) (Ad) (i := 4) rfl (.here) (by first | rfl | exact hl15.plain.one) (.next <| .next <| .next <| .next <| .here) ?_)
         refine Ch (Ci sz_4 (A5 rfl <| A7 rfl <| Ak rfl <| A7 rfl <| Ar rfl <| Al rfl <| Ad) Ab (i := 3) rfl (.here) (by first | rfl | exact hl15.plain.one) (.next <| .next <| .next <| .here) ?_)
         refine Ah <| Ba ?_
         refine Eb (.one (.here) <| .one (.here) <| .one (.next <| .here) <| .one (.next <| .here) <| .one (.next <| .here) <| .one (.next <| .here) <| .nil) ?_
         refine .inl ⟨rfl, _, rfl, hle, ?_⟩
         exact ⟨_, by rw [cleanS_yes hcs (.inl h1)]; exact hl15, by rw [cleanS_yes hcs (.inl h1)]; first | done | rfl⟩
        ·
         refine As rfl rfl (Ad) (decide_eq_false (by rw [hcs]; show ¬ (_ : Int) < (bb.length : Int); omega)) ?_
         refine Aa rfl (Ag (A7 rfl <| Ar rfl <| Al rfl <| At rfl hs15)) ?_
         refine As rfl rfl (Al rfl <| Ad) (decide_eq_false (by rw [hcs]; show ¬ (_ : Int) < (bb.length : Int); omega)) ?_
         refine Aa rfl (Bk Bj (Ad) hl15.plain) ?_
         refine As rfl rfl (Ar rfl <| Ad) (decide_eq_false (by rw [hcs]; show ¬ (_ : Int) < (bb.length : Int); omega)) ?_
         refine Aa rfl (Ap Cf (A7 rfl <| A1 rfl <| Al rfl <| Ak rfl <| A7 rfl <| A1 rfl <| Al rfl <| Ak rfl <| A7 rfl <| A1 rfl <| Ar rfl <| Al rfl <| Ad) (Cell.own 4 rfl rfl)) ?_
         refine As rfl rfl (Ar rfl <| Al rfl <| Ad) (decide_eq_false (by rw [hcs]; show ¬ (_ : Int) < (bb.length : Int); omega)) ?_
         refine Aa rfl (Bk Bj (Ad) hv2.plain) ?_
         refine As rfl rfl (A1 rfl <| Ad) (decide_eq_false (by rw [hcs]; show ¬ (_ : Int) < (bb.length : Int); omega)) ?_
         refine Aa rfl (By (Ar rfl <| Ad) (Ad)) ?_
         refine As rfl rfl (A1 rfl <| Al rfl <| Ad) (decide_eq_false (by rw [hcs]; show ¬ (_ : Int) < (bb.length : Int); omega)) ?_
         refine Aa rfl (Ag (Ad)) ?_
         by_cases h2 : (uncleanL s x).length = bb.length
         ·
          refine As rfl rfl (Ad) (decide_eq_true (by rw [hcs]; show (_ : Int) = (bb.length : Int); omega)) ?_
          refine Aa rfl (Ag (A5 rfl <| Al rfl <| At rfl hs15)) ?_
          refine As rfl rfl (Al rfl <| Ad) (decide_eq_true (by rw [hcs]; show (_ : Int) = (bb.length : Int); omega)) ?_
          refine Aa rfl (Ap Cf (A5 rfl <| Ar rfl <| Ak rfl <| A7 rfl <| A1 rfl <| Al rfl <| Ak rfl <| A7 rfl <| A1 rfl <| Ar rfl <| Al rfl <| Ad) (Cell.own 4 rfl rfl)) ?_
          refine As rfl rfl (Ar rfl <| Ad) (decide_eq_true (by rw [hcs]; show (_ : Int) = (bb.length : Int); omega)) ?_
          refine Bw rfl (Bb bd_84 Az (.cons (Al rfl <| Ad) (.cons (Ad) .nil)) (compare_ok hl15 hv2) (fun _ _ h => h)) ?_
          refine As rfl rfl (Ar rfl <| Al rfl <| Ad) (decide_eq_true (by rw [hcs]; show (_ : Int) = (bb.length : Int); omega)) ?_
          refine Aa rfl (Bv (Ad) Ab) ?_
          refine As rfl rfl (A7 rfl <| Ar rfl <| Ad) (decide_eq_false (by rw [hcs]; show ¬ (_ : Int) < (bb.length : Int); omega)) ?_
          refine Aa rfl (A3 (A1 rfl <| Ad) (decide_eq_true (by rw [hcs]; show (_ : Int) = (bb.length : Int); omega)) (Ad)) ?_
          refine Aa rfl (Bd (A7 rfl <| Ar rfl <| Al rfl <| Ad) (decide_eq_false (by rw [hcs]; show ¬ (_ : Int) < (bb.length : Int); omega)) (Ad)) ?_
          refine Ah <| Ac ?_
          by_cases h3 : cmpL (uncleanL s x) bb < 0
          ·
           refine Aq (Ad) (by rw [hcs]; exact decide_eq_true h3) ?_
           subst hoL
           refine B9 (.inr (by kernel_rfl)) (fun _ _ h => h) fun ds => ?_
           refine Aa rfl (Ag (A5 rfl <| A1 rfl <| Ar rfl <| Al rfl <| At rfl hs15)) ?_
           refine Ch (Ci sz_26 (A5 rfl <| A7 rfl <| Ak rfl <| A7 rfl <| A1 rfl <| Al rfl <| Ak rfl <| A7 rfl <| A1 rfl <| Ar rfl <| Al rfl <| Ad) (Ad) (i := 4) rfl (.here) (by first | rfl | exact hl15.plain.one) (.next <| .next <| .next <| .next <| .here) ?_)
           refine Ch (Ci sz_4 (A5 rfl <| A7 rfl <| Ak rfl <| A7 rfl <| Ar rfl <| Al rfl <| Ad) Ab (i := 3) rfl (.here) (by first | rfl | exact hl15.plain.one) (.next <| .next <| .next <| .here) ?_)
           refine Ah <| Ba ?_
           refine Eb (.one (.here) <| .one (.here) <| .one (.next <| .here) <| .one (.next <| .here) <| .one (.next <| .here) <| .one (.next <| .here) <| .nil) ?_
           refine .inl ⟨rfl, _, rfl, hle, ?_⟩
           exact ⟨_, by rw [cleanS_yes hcs (.inr ⟨h2, h3⟩)]; exact hl15, by rw [cleanS_yes hcs (.inr ⟨h2, h3⟩)]; first | done | rfl⟩
          ·
           refine Ao (Ad) (by rw [hcs]; exact decide_eq_false h3) ?_
           subst hoL
           refine Ax <| Ba ?_
           refine Eb (.one (.here) <| .one (.here) <| .one (.next <| .here) <| .one (.next <| .here) <| .one (.next <| .here) <| .one (.next <| .here) <| .nil) ?_
           refine .inl ⟨rfl, _, rfl, hle, ?_⟩
           exact ⟨_, by rw [cleanS_no hcs (fun h => h.elim h1 (fun h => h3 h.2))]; exact hv2b, by rw [cleanS_no hcs (fun h => h.elim h1 (fun h => h3 h.2)), hcs]; first | done | rfl⟩
         ·
          refine Aw rfl rfl (Ad) (.inl (congrArg Value.bool (decide_eq_false (by rw [hcs]; show ¬ (_ : Int) = (bb.length : Int); omega)))) rfl ?_
          refine Aw rfl rfl (Al rfl <| Ad) (.inl (congrArg Value.bool (decide_eq_false (by rw [hcs]; show ¬ (_ : Int) = (bb.length : Int); omega)))) rfl ?_
          refine Aw rfl rfl (Ar rfl <| Ad) (.inl (congrArg Value.bool (decide_eq_false (by rw [hcs]; show ¬ (_ : Int) = (bb.length : Int); omega)))) rfl ?_
          refine Aw rfl rfl (Ar rfl <| Al rfl <| Ad) (.inl (congrArg Value.bool (decide_eq_false (by rw [hcs]; show ¬ (_ : Int) = (bb.length : Int); omega)))) rfl ?_
          refine As rfl rfl (A7 rfl <| Ar rfl <| Ad) (decide_eq_false (by rw [hcs]; show ¬ (_ : Int) < (bb.length : Int); omega)) ?_
          refine Aa rfl (Bd (A1 rfl <| Ad) (decide_eq_false (by rw [hcs]; show ¬ (_ : Int) = (bb.length : Int); omega)) Ab) ?_
          refine Aa rfl (Bd (A7 rfl <| Ar rfl <| Al rfl <| Ad) (decide_eq_false (by rw [hcs]; show ¬ (_ : Int) < (bb.length : Int); omega)) (Ad)) ?_
          refine Ah <| Ac <| Ao (Ad) rfl ?_
          subst hoL
          refine Ax <| Ba ?_
          refine Eb (.one (.here) <| .one (.here) <| .one (.next <| .here) <| .one (.next <| .here) <| .one (.next <| .here) <| .one (.next <| .here) <| .nil) ?_
          refine .inl ⟨rfl, _, rfl, hle, ?_⟩
          exact ⟨_, by rw [cleanS_no hcs (fun h => h.elim h1 (fun h => h2 h.1))]; exact hv2b, by rw [cleanS_no hcs (fun h => h.elim h1 (fun h => h2 h.1)), hcs]; first | done | rfl⟩
    obtain ⟨v2, hv2, rfl⟩ := hJ
    refine Ba <| Ac ?_
    rcases opt_or (cleanR s (allTrees s)) with hcs | ⟨bb, hcs⟩
    ·
     refine Af <| Af <| Ai fun ds => Aa rfl (Ap one_4 (A1 rfl <| Al rfl <| Ad) (Cell.own 0 rfl rfl)) ?_
     refine Aa rfl (Cl (Ad)) ?_
     refine Ah <| Ac <| Aq (Ad) (by rw [hcs]; rfl) ?_
     refine Af <| Ai fun ds => Ch (Ci sz_26 (A7 rfl <| Al rfl <| Ak rfl <| A7 rfl <| A1 rfl <| Ar rfl <| Al rfl <| Ad) Ab (i := 1) rfl (.here) rfl (.next <| .here) ?_)
     refine Aa rfl (Ae Ab) ?_
     refine Ah <| Ac <| A2 <| A8 ?_
     refine Au rfl (.one Cf (A7 rfl <| Ar rfl <| Ak rfl <| A7 rfl <| A1 rfl <| Ar rfl <| Al rfl <| Ad) (Cell.own 1 rfl rfl) (.tmp (Ad) .nil)) ?_
     rw [cleanE_none h0 hcs]
     exact ⟨_, rfl, Sl.nil⟩
    ·
     refine Af <| Af <| Ai fun ds => Aa rfl (Ap one_4 (A1 rfl <| Al rfl <| Ad) (Cell.own 0 rfl rfl)) ?_
     refine Aa rfl (Cl (Ad)) ?_
     refine Ah <| Ac <| Ao (Ad) (by rw [hcs]; rfl) ?_
     refine Ax <| Ac <| Af <| Ai fun ds => Aa rfl (Ap Cf (A7 rfl <| Al rfl <| Ak rfl <| A7 rfl <| A1 rfl <| Ar rfl <| Al rfl <| Ad) (Cell.own 1 rfl rfl)) ?_
     refine Ch (Ci sz_26 (A7 rfl <| Ar rfl <| Ak rfl <| A7 rfl <| A1 rfl <| Ar rfl <| Al rfl <| Ad) (Ad) (i := 1) rfl (.here) hv2.plain.one (.next <| .here) ?_)
     refine Aa rfl (Ae Ab) ?_
     refine Ah <| Ac <| A2 <| Au rfl (.one Cf (A7 rfl <| Ar rfl <| Al rfl <| Ak rfl <| A7 rfl <| A1 rfl <| Ar rfl <| Al rfl <| Ad) (Cell.own 1 rfl rfl) (.tmp (Ad) .nil)) ?_
     rw [cleanE_some h0 hcs]
     rw [hcs] at hv2
     exact ⟨_, rfl, hv2⟩
 ·
  refine Af <| Ai fun ds => Bi rfl (B3 (Aj rfl) rfl fun b39 hb39 nb39 => ?_)
  refine Bi rfl (Ca zr_26 rfl fun b40 hb40 nb40 => ?_)
  refine Aa rfl (Ae Ab) ?_
  refine Ah <| Ac <| Af <| Ai fun ds => Aa rfl (A9 B6 (Ar rfl <| Ad) rfl rfl (A6 1 rfl)) ?_
  refine Bw rfl (Bb bd_65 Az (.cons (Ad) .nil) (open_bad hr h0) (fun _ _ h => h)) ?_
  refine Aa rfl (Ag (Ad)) ?_
  refine Aa rfl (Ay (Ad) rfl) ?_
  refine Aa rfl (Ay (Al rfl <| Ad) rfl) ?_
  refine Aa rfl (Ae (Al rfl <| Ad)) ?_
  refine Aa rfl (Ae (Al rfl <| Ad)) ?_
  refine Ah <| Ac <| Af <| Af <| Ai fun ds => Aa rfl (Ag (Ad)) ?_
  refine Aa rfl (B1 (Ad) Ab) ?_
  refine Ah <| Ac <| Aq (Ad) (decide_eq_true h0) ?_
  refine Af <| Ai fun ds => Aa rfl (Ag (Ar rfl <| Ad)) ?_
  refine Ch (Ci sz_26 (A7 rfl <| Ar rfl <| Al rfl <| Ad) Ab (i := 0) rfl (.here) rfl (.here) ?_)
  refine Aa rfl (Ae (Ad)) ?_
  refine Ah <| Ac <| A2 <| A8 ?_
  refine Au rfl (.one Cf (A7 rfl <| A1 rfl <| Ad) (Cell.own 0 rfl rfl) (.tmp (Ad) .nil)) ?_
  rw [cleanE_bad h0]
  exact ⟨_, rfl, Sl.nil⟩
end Go.Proofs.Ytccogmkhijgelaa
namespace Go.Proofs.Ytccogmkhijgelaa
open Go.RowKit
def plA : Plc := ⟨⟨#[97]⟩, 0⟩
def plB : Plc := ⟨⟨#[98]⟩, 1⟩
def plC : Plc := ⟨⟨#[99]⟩, 0⟩
def edQ1 : Edn := ⟨⟨#[113, 49]⟩, 1600, 1600, [1, 1, 1]⟩
def edQ2 : Edn := ⟨⟨#[113, 50]⟩, 1605, 1610, [2, 1, 1]⟩
def edF1 : Edn := ⟨⟨#[102, 49]⟩, 1623, 1623, [2, 2, 1]⟩
def edQ3 : Edn := ⟨⟨#[113, 51]⟩, 1608, 1630, [0, 1, 2]⟩
def stemX : Stm := ⟨[plA, plB, plC], [edQ1, edQ2, edF1, edQ3]⟩
def bestX : List Int := [-1, 0, 1, 0]
def starX : List Int := [-1, 0, 0, 0]
def lineX : List Int := [-1, 0, 1, 2]
def twoX : List Int := [-1, 0, 1, 1]
theorem ev_p1 : apartE stemX 0 2 = ([0, 1], 0) := by kernel_rfl
theorem ev_c1 : changesE stemX starX = (4, 0) := by kernel_rfl
theorem ev_c2 : changesE stemX lineX = (0, 9) := by kernel_rfl
theorem ev_y1 : yearsE stemX twoX = ([(1600, 1600), (1605, 1610), (1623, 1623), (1608, 1630)], 0) := by kernel_rfl
theorem ev_b1 : bestTE stemX = (bestX, 3, 2, 0) := by kernel_rfl
theorem ev_f1 : firstTE stemX = ([0], 0) := by kernel_rfl
theorem ev_m1 : fromE stemX 1 2 = (1, 0) := by kernel_rfl
theorem ev_r1 : readE stemX bestX 3 0 = ([1], 0) := by kernel_rfl
theorem ev_l1 : cleanE stemX = ([], 0) := by kernel_rfl
theorem ev_s1 : secE stemX starX 2 = (1, 1, 0) := by kernel_rfl
theorem ev_s2 : secE stemX bestX 2 = (0, 0, 8) := by kernel_rfl
end Go.Proofs.Ytccogmkhijgelaa
namespace Go.Proofs.Ytccogmkhijgelaa
open Go.RowKit
theorem zr_25 : ZeroT Try.prog 25 (.agg #[.slice none 0 0, .slice none 0 0]) := C1 (by kernel_rfl)
theorem bd_20 : Body Try.prog 20 := Bo (by kernel_rfl)
theorem bd_21 : Body Try.prog 21 := Bo (by kernel_rfl)
theorem bd_23 : Body Try.prog 23 := Bo (by kernel_rfl)
theorem bd_25 : Body Try.prog 25 := Bo (by kernel_rfl)
theorem bd_26 : Body Try.prog 26 := Bo (by kernel_rfl)
theorem bd_27 : Body Try.prog 27 := Bo (by kernel_rfl)
theorem bd_29 : Body Try.prog 29 := Bo (by kernel_rfl)
theorem bd_31 : Body Try.prog 31 := Bo (by kernel_rfl)
theorem bd_33 : Body Try.prog 33 := Bo (by kernel_rfl)
theorem bd_35 : Body Try.prog 35 := Bo (by kernel_rfl)
theorem bd_37 : Body Try.prog 37 := Bo (by kernel_rfl)
theorem bd_39 : Body Try.prog 39 := Bo (by kernel_rfl)
theorem bd_95 : Body Try.prog 95 := Bo (by kernel_rfl)
theorem bt_25 : BuildT Try.prog 25 [.slice none 0 0, .slice none 0 0] [(0, 1), (1, 1)] := buildT_of zr_25 (by kernel_rfl) (by decide)
theorem bt_60 : BuildT Try.prog 60 [.int .i64 0, .int .i64 0] [(0, 1), (1, 1)] := buildT_of zr_60 (by kernel_rfl) (by decide)
theorem bt_64 : BuildT Try.prog 64 [.string ⟨#[]⟩, .int .i64 0, .int .i64 0, .slice none 0 0] [(0, 1), (1, 2), (3, 1)] := buildT_of zr_64 (by kernel_rfl) (by decide)
theorem bt_70 : BuildT Try.prog 70 [.string ⟨#[]⟩, .int .i64 0] [(0, 1), (1, 1)] := buildT_of zr_70 (by kernel_rfl) (by decide)
theorem sz_25 : SizeT Try.prog 25 2 := Ct (by kernel_rfl)
theorem ints_box3 {F : Heap} {b T : Nat} {x y z : Int} (h : F b = some (bx T [.int .i64 x, .int .i64 y, .int .i64 z])) : Ints F (.slice (some ⟨b, 0, none⟩) 3 3) [x, y, z] :=
 sl_box (xs := [x, y, z]) h rfl rfl (fun _ => rfl) (by decide)
theorem ints_box4 {F : Heap} {b T : Nat} {x y z w : Int} (h : F b = some (bx T [.int .i64 x, .int .i64 y, .int .i64 z, .int .i64 w])) : Ints F (.slice (some ⟨b, 0, none⟩) 4 4) [x, y, z, w] :=
 sl_box (xs := [x, y, z, w]) h rfl rfl (fun _ => rfl) (by decide)
theorem plcX_box3 {F : Heap} {b T : Nat} (h : F b = some (bx T [.string ⟨#[97]⟩, .int .i64 0, .string ⟨#[98]⟩, .int .i64 1, .string ⟨#[99]⟩, .int .i64 0])) : Sl F (.slice (some ⟨b, 0, none⟩) 3 3) 2 Plc.enc [plA, plB, plC] :=
 sl_box (xs := [plA, plB, plC]) h rfl rfl (fun _ => rfl) (by decide)
theorem ednX_box4 {F : Heap} {b T : Nat} {v1 v2 v3 v4 : Value} (h : F b = some (bx T [.string ⟨#[113, 49]⟩, .int .i64 1600, .int .i64 1600, v1, .string ⟨#[113, 50]⟩, .int .i64 1605, .int .i64 1610, v2, .string ⟨#[102, 49]⟩, .int .i64 1623, .int .i64 1623, v3, .string ⟨#[113, 51]⟩, .int .i64 1608, .int .i64 1630, v4])) : Sl F (.slice (some ⟨b, 0, none⟩) 4 4) 4 edE [(v1, edQ1), (v2, edQ2), (v3, edF1), (v4, edQ3)] :=
 sl_box (xs := [(v1, edQ1), (v2, edQ2), (v3, edF1), (v4, edQ3)]) h rfl rfl (fun _ => rfl) (by decide)
theorem spansX_box4 {F : Heap} {b T : Nat} (h : F b = some (bx T [.int .i64 1600, .int .i64 1600, .int .i64 1605, .int .i64 1610, .int .i64 1623, .int .i64 1623, .int .i64 1608, .int .i64 1630])) : Sl F (.slice (some ⟨b, 0, none⟩) 4 4) 2 spanE [(1600, 1600), (1605, 1610), (1623, 1623), (1608, 1630)] :=
 sl_box (xs := ([(1600, 1600), (1605, 1610), (1623, 1623), (1608, 1630)] : List (Int × Int))) h rfl rfl (fun _ => rfl) (by decide)
set_option maxRecDepth 100000 in
theorem printed_ok {F : Heap} (nm : ByteArray) (lo hi a b c : Int) : Ok Try.prog 95 [.string nm, .int .i64 lo, .int .i64 hi, .int .i64 a, .int .i64 b, .int .i64 c].toArray F fun u F' => ∃ v, u = .agg #[.string nm, .int .i64 lo, .int .i64 hi, v] ∧ Ints F' v [a, b, c] := by
 refine Ok.intro Try.func95 rfl Try.ntmps95 rfl fun w0 => ?_
 refine Af <| Ai fun ds => Bi rfl (Ca zr_64 rfl fun b1 hb1 nb1 => ?_)
 refine Ah <| Ac <| Af <| Ai fun ds => Aa rfl (Ag (Al rfl <| Aj rfl)) ?_
 refine Aa rfl (Ag (Ar rfl <| Aj rfl)) ?_
 refine Aa rfl (Ag (Ar rfl <| Al rfl <| Aj rfl)) ?_
 refine Aa rfl (Ec bt_60 (.cons (Al rfl <| Ad) rfl (.cons (Ad) rfl .nil)) (.cons rfl rfl (Nat.le_of_ble_eq_true rfl) (.cons (.here) .nil) (.cons rfl rfl (Nat.le_of_ble_eq_true rfl) (.cons (.next <| .here) .nil) .nil))) ?_
 refine Aa rfl (Ag (A1 rfl <| Al rfl <| Aj rfl)) ?_
 refine Aa rfl (Ag (A1 rfl <| Ar rfl <| Aj rfl)) ?_
 refine Aa rfl (Ag (A1 rfl <| Ar rfl <| Al rfl <| Aj rfl)) ?_
 refine Bi rfl (B5 Bj C9 rfl (.cons (Ar rfl <| Ad) (.cons (Al rfl <| Ad) (.cons (Ad) .nil))) rfl rfl (by decide) (by simp [Value.oneCell']) fun b2 hb2 nb2 => ?_)
 refine B4 (i := 0) rfl hb2 .here fun F3 hF4 hz5 => ?_
 have hsl6 := ints_box3 hz5
 refine Aa rfl (Ec bt_64 (.cons (A1 rfl <| Ar rfl <| Al rfl <| Ad) rfl (.cons (A1 rfl <| Ad) rfl (.cons (Ad) rfl .nil))) (.cons rfl rfl (Nat.le_of_ble_eq_true rfl) (.cons (.here) .nil) (.cons rfl rfl (Nat.le_of_ble_eq_true rfl) (.cons (.next <| .here) (.cons (.next <| .next <| .here) .nil)) (.cons rfl rfl (Nat.le_of_ble_eq_true rfl) (.cons (.next <| .next <| .next <| .here) .nil) .nil)))) ?_
 refine Ch (Cd sz_64 (A7 rfl <| Al rfl <| Ad) (Ad) (i := 0) rfl rfl rfl rfl (by simp [Value.oneCell']) (.here) ?_)
 refine Ah <| Ac <| A2 <| Au rfl (.agg agg_64 (A7 rfl <| Al rfl <| Ad) rfl rfl (A6 0 rfl) .nil) ?_
 exact ⟨_, rfl, hsl6⟩
set_option maxRecDepth 100000 in
theorem stemX_ok {F : Heap} : Ok Try.prog 39 [].toArray F fun u F' => ∃ vp ve ps, u = .agg #[vp, ve] ∧ StmR F' vp ve ps stemX := by
 refine Ok.intro Try.func39 rfl Try.ntmps39 rfl fun w0 => ?_
 refine Af <| Ai fun ds => Bi rfl (Ca zr_25 rfl fun b1 hb1 nb1 => ?_)
 refine Ah <| Ac <| Af <| Ai fun ds => Aa rfl (Ec bt_70 (.cons Ab rfl .nil) (.cons rfl rfl (Nat.le_of_ble_eq_true rfl) (.cons (.here) .nil) .nil)) ?_
 refine Aa rfl (Ec bt_70 (.cons Ab rfl (.cons Ab rfl .nil)) (.cons rfl rfl (Nat.le_of_ble_eq_true rfl) (.cons (.here) .nil) (.cons rfl rfl (Nat.le_of_ble_eq_true rfl) (.cons (.next <| .here) .nil) .nil))) ?_
 refine Aa rfl (Ec bt_70 (.cons Ab rfl .nil) (.cons rfl rfl (Nat.le_of_ble_eq_true rfl) (.cons (.here) .nil) .nil)) ?_
 refine Bi rfl (x_buildN (offs := [(0, 2), (2, 2), (4, 2)]) (zl := [.string ⟨#[]⟩, .int .i64 0, .string ⟨#[]⟩, .int .i64 0, .string ⟨#[]⟩, .int .i64 0]) C3 zr_70 rfl (.cons (Ar rfl <| Ad) rfl (.cons (Al rfl <| Ad) rfl (.cons (Ad) rfl .nil))) (by intro i p h; rcases i with _ | _ | _ | i <;> simp at h <;> subst h <;> rfl) (.cons rfl rfl (Nat.le_of_ble_eq_true rfl) (.cons (.here) (.cons (.next <| .here) .nil)) (.cons rfl rfl (Nat.le_of_ble_eq_true rfl) (.cons (.next <| .next <| .here) (.cons (.next <| .next <| .next <| .here) .nil)) (.cons rfl rfl (Nat.le_of_ble_eq_true rfl) (.cons (.next <| .next <| .next <| .next <| .here) (.cons (.next <| .next <| .next <| .next <| .next <| .here) .nil)) .nil))) (by decide) (by decide) fun b2 hb2 nb2 => ?_)
 refine B4 (i := 0) rfl hb2 .here fun F3 hF4 hz5 => ?_
 have hsl6 := plcX_box3 hz5
 refine Bi rfl (Cj bd_95 Az (.cons Ab (.cons Ab (.cons Ab (.cons Ab (.cons Ab (.cons Ab .nil)))))) (printed_ok _ _ _ _ _ _) fun v7 F8 hr9 hF10 => ?_)
 replace hsl6 := hsl6.mono hF10
 obtain ⟨vq1, rfl, hq1⟩ := hr9
 refine Bi rfl (Cj bd_95 Az (.cons Ab (.cons Ab (.cons Ab (.cons Ab (.cons Ab (.cons Ab .nil)))))) (printed_ok _ _ _ _ _ _) fun v11 F12 hr13 hF14 => ?_)
 replace hsl6 := hsl6.mono hF14
 replace hq1 := hq1.mono hF14
 obtain ⟨vq2, rfl, hq2⟩ := hr13
 refine Bi rfl (Cj bd_95 Az (.cons Ab (.cons Ab (.cons Ab (.cons Ab (.cons Ab (.cons Ab .nil)))))) (printed_ok _ _ _ _ _ _) fun v15 F16 hr17 hF18 => ?_)
 replace hsl6 := hsl6.mono hF18
 replace hq1 := hq1.mono hF18
 replace hq2 := hq2.mono hF18
 obtain ⟨vf1, rfl, hf1⟩ := hr17
 refine Bi rfl (Cj bd_95 Az (.cons Ab (.cons Ab (.cons Ab (.cons Ab (.cons Ab (.cons Ab .nil)))))) (printed_ok _ _ _ _ _ _) fun v19 F20 hr21 hF22 => ?_)
 replace hsl6 := hsl6.mono hF22
 replace hq1 := hq1.mono hF22
 replace hq2 := hq2.mono hF22
 replace hf1 := hf1.mono hF22
 obtain ⟨vq3, rfl, hq3⟩ := hr21
 refine Bi rfl (x_buildN (offs := [(0, 4), (4, 4), (8, 4), (12, 4)]) (zl := [.string ⟨#[]⟩, .int .i64 0, .int .i64 0, .slice none 0 0, .string ⟨#[]⟩, .int .i64 0, .int .i64 0, .slice none 0 0, .string ⟨#[]⟩, .int .i64 0, .int .i64 0, .slice none 0 0, .string ⟨#[]⟩, .int .i64 0, .int .i64 0, .slice none 0 0]) B7 zr_64 rfl (.cons (Ar rfl <| Al rfl <| Ad) rfl (.cons (Ar rfl <| Ad) rfl (.cons (Al rfl <| Ad) rfl (.cons (Ad) rfl .nil)))) (by intro i p h; rcases i with _ | _ | _ | _ | i <;> simp at h <;> subst h <;> rfl) (.cons rfl rfl (Nat.le_of_ble_eq_true rfl) (.cons (.here) (.cons (.next <| .here) (.cons (.next <| .next <| .here) (.cons (.next <| .next <| .next <| .here) .nil)))) (.cons rfl rfl (Nat.le_of_ble_eq_true rfl) (.cons (.next <| .next <| .next <| .next <| .here) (.cons (.next <| .next <| .next <| .next <| .next <| .here) (.cons (.next <| .next <| .next <| .next <| .next <| .next <| .here) (.cons (.next <| .next <| .next <| .next <| .next <| .next <| .next <| .here) .nil)))) (.cons rfl rfl (Nat.le_of_ble_eq_true rfl) (.cons (.next <| .next <| .next <| .next <| .next <| .next <| .next <| .next <| .here) (.cons (.next <| .next <| .next <| .next <| .next <| .next <| .next <| .next <| .next <| .here) (.cons (.next <| .next <| .next <| .next <| .next <| .next <| .next <| .next <| .next <| .next <| .here) (.cons (.next <| .next <| .next <| .next <| .next <| .next <| .next <| .next <| .next <| .next <| .next <| .here) .nil)))) (.cons rfl rfl (Nat.le_of_ble_eq_true rfl) (.cons (.next <| .next <| .next <| .next <| .next <| .next <| .next <| .next <| .next <| .next <| .next <| .next <| .here) (.cons (.next <| .next <| .next <| .next <| .next <| .next <| .next <| .next <| .next <| .next <| .next <| .next <| .next <| .here) (.cons (.next <| .next <| .next <| .next <| .next <| .next <| .next <| .next <| .next <| .next <| .next <| .next <| .next <| .next <| .here) (.cons (.next <| .next <| .next <| .next <| .next <| .next <| .next <| .next <| .next <| .next <| .next <| .next <| .next <| .next <| .next <| .here) .nil)))) .nil)))) (by decide) (by decide) fun b23 hb23 nb23 => ?_)
 refine B4 (i := 0) rfl hb23 .here fun F24 hF25 hz26 => ?_
 replace hsl6 := hsl6.mono hF25
 replace hq1 := hq1.mono hF25
 replace hq2 := hq2.mono hF25
 replace hf1 := hf1.mono hF25
 replace hq3 := hq3.mono hF25
 have hsl27 := ednX_box4 hz26
 refine Aa rfl (Ec bt_25 (.cons (A1 rfl <| Al rfl <| Ad) rfl (.cons (Ad) rfl .nil)) (.cons rfl rfl (Nat.le_of_ble_eq_true rfl) (.cons (.here) .nil) (.cons rfl rfl (Nat.le_of_ble_eq_true rfl) (.cons (.next <| .here) .nil) .nil))) ?_
 refine Ch (Cd sz_25 (A7 rfl <| Ar rfl <| Ad) (Ad) (i := 0) rfl rfl rfl rfl (by simp [Value.oneCell']) (.here) ?_)
 refine Ah <| Ac <| A2 <| Au rfl (.agg B6 (A7 rfl <| Ar rfl <| Ad) rfl rfl (A6 0 rfl) .nil) ?_
 refine ⟨_, _, [(vq1, edQ1), (vq2, edQ2), (vf1, edF1), (vq3, edQ3)], rfl, ⟨hsl6, hsl27, ?_, rfl⟩⟩
 intro p hp
 simp only [List.mem_cons, List.not_mem_nil, or_false] at hp
 rcases hp with rfl | rfl | rfl | rfl
 · exact hq1
 · exact hq2
 · exact hf1
 · exact hq3
set_option maxRecDepth 100000 in
theorem awake_ok {F : Heap} : Ok Try.prog 26 [].toArray F fun u _ => u = .bool true := by
 refine Ok.intro Try.func26 rfl Try.ntmps26 rfl fun w0 => ?_
 refine Af <| Ai fun ds => Aa rfl (Ae Ab) ?_
 refine Ah <| Ac <| Af <| Ai fun ds => Bi rfl (Cj bd_39 Az .nil stemX_ok fun v1 F2 hr3 hF4 => ?_)
 obtain ⟨vp, ve, ps, rfl, hr⟩ := hr3
 refine Bi rfl (Ca zr_25 rfl fun b5 hb5 nb5 => ?_)
 refine Ch (Cd sz_25 (Ad) (Al rfl <| Ad) (i := 0) rfl rfl rfl rfl hr.ones (.here) ?_)
 refine Ah <| Ac <| Af <| Ai fun ds => Bi rfl (B5 Bj C9 rfl (.cons Ab (.cons Ab (.cons Ab (.cons Ab .nil)))) rfl rfl (by decide) (by simp [Value.oneCell']) fun b6 hb6 nb6 => ?_)
 refine B4 (i := 0) rfl hb6 .here fun F7 hF8 hz9 => ?_
 replace hr := hr.mono hF8
 have hsl10 := ints_box4 hz9
 refine Aa rfl (Ae (Ad)) ?_
 refine Ah <| Ac <| Af <| Ai fun ds => Aa rfl (A9 B6 (Ar rfl <| Ad) rfl rfl (A6 0 rfl)) ?_
 refine Bi rfl (Cj bd_18 Az (.cons (Ad) (.cons Ab (.cons Ab .nil))) ((Dv hr 0 2).mono fun u F2 _ h => (by rw [ev_p1] at h; exact h : ∃ ws, u = .tuple #[ws, .int .i64 0] ∧ Nats F2 ws [0, 1])) fun v11 F12 hr13 hF14 => ?_)
 replace hr := hr.mono hF14
 replace hsl10 := hsl10.mono hF14
 obtain ⟨hq1_, rfl, hq1⟩ := hr13
 refine Aa rfl (Ag (Ad)) ?_
 refine Aa rfl (Ay (Ad) rfl) ?_
 refine Aa rfl (Ay (Al rfl <| Ad) rfl) ?_
 refine Aa rfl (Ae (Al rfl <| Ad)) ?_
 refine Aa rfl (Ae (Al rfl <| Ad)) ?_
 refine Ah <| Ac <| Af <| Ai fun ds => Aa rfl (A9 B6 (A7 rfl <| Al rfl <| Ad) rfl rfl (A6 0 rfl)) ?_
 refine Bi rfl (B5 Bj C9 rfl (.cons Ab (.cons Ab (.cons Ab (.cons Ab .nil)))) rfl rfl (by decide) (by simp [Value.oneCell']) fun b15 hb15 nb15 => ?_)
 refine B4 (i := 0) rfl hb15 .here fun F16 hF17 hz18 => ?_
 replace hr := hr.mono hF17
 replace hsl10 := hsl10.mono hF17
 replace hq1 := hq1.mono hF17
 have hsl19 := ints_box4 hz18
 refine Bw rfl (Bb bd_21 Az (.cons (Al rfl <| Ad) (.cons (Ad) .nil)) (Eh hr (l := starX) hsl19) (fun _ _ h => h.trans (show _ = Value.tuple #[.int .i64 4, .int .i64 0] by unfold changesEV; rw [ev_c1]))) ?_
 refine Aa rfl (Ag (Ad)) ?_
 refine Aa rfl (Ay (Ad) rfl) ?_
 refine Aa rfl (Ay (Al rfl <| Ad) rfl) ?_
 refine Aa rfl (Ae (Al rfl <| Ad)) ?_
 refine Aa rfl (Ae (Al rfl <| Ad)) ?_
 refine Ah <| Ac <| Af <| Ai fun ds => Aa rfl (A9 B6 (A5 rfl <| Al rfl <| Ad) rfl rfl (A6 0 rfl)) ?_
 refine Bi rfl (B5 Bj C9 rfl (.cons Ab (.cons Ab (.cons Ab (.cons Ab .nil)))) rfl rfl (by decide) (by simp [Value.oneCell']) fun b20 hb20 nb20 => ?_)
 refine B4 (i := 0) rfl hb20 .here fun F21 hF22 hz23 => ?_
 replace hr := hr.mono hF22
 replace hsl10 := hsl10.mono hF22
 replace hq1 := hq1.mono hF22
 have hsl24 := ints_box4 hz23
 refine Bw rfl (Bb bd_21 Az (.cons (Al rfl <| Ad) (.cons (Ad) .nil)) (Eh hr (l := lineX) hsl24) (fun _ _ h => h.trans (show _ = Value.tuple #[.int .i64 0, .int .i64 9] by unfold changesEV; rw [ev_c2]))) ?_
 refine Aa rfl (Ag (Ad)) ?_
 refine Aa rfl (Ay (Ad) rfl) ?_
 refine Aa rfl (Ay (Al rfl <| Ad) rfl) ?_
 refine Aa rfl (Ae (Al rfl <| Ad)) ?_
 refine Aa rfl (Ae (Al rfl <| Ad)) ?_
 refine Ah <| Ac <| Af <| Ai fun ds => Aa rfl (A9 B6 (A5 rfl <| A7 rfl <| Al rfl <| Ad) rfl rfl (A6 0 rfl)) ?_
 refine Bi rfl (B5 Bj C9 rfl (.cons Ab (.cons Ab (.cons Ab (.cons Ab .nil)))) rfl rfl (by decide) (by simp [Value.oneCell']) fun b25 hb25 nb25 => ?_)
 refine B4 (i := 0) rfl hb25 .here fun F26 hF27 hz28 => ?_
 replace hr := hr.mono hF27
 replace hsl10 := hsl10.mono hF27
 replace hq1 := hq1.mono hF27
 have hsl29 := ints_box4 hz28
 refine Bi rfl (Cj bd_23 Az (.cons (Al rfl <| Ad) (.cons (Ad) .nil)) ((years_top_ok hr (l := twoX) hsl29).mono fun u F2 _ h => (by rw [ev_y1] at h; exact h : ∃ ws, u = .tuple #[ws, .int .i64 0] ∧ (fun F v l => Sl F v 2 spanE l) F2 ws [(1600, 1600), (1605, 1610), (1623, 1623), (1608, 1630)])) fun v30 F31 hr32 hF33 => ?_)
 replace hr := hr.mono hF33
 replace hsl10 := hsl10.mono hF33
 replace hq1 := hq1.mono hF33
 obtain ⟨hq2_, rfl, hq2⟩ := hr32
 refine Aa rfl (Ag (Ad)) ?_
 refine Aa rfl (Ay (Ad) rfl) ?_
 refine Aa rfl (Ay (Al rfl <| Ad) rfl) ?_
 refine Aa rfl (Ae (Al rfl <| Ad)) ?_
 refine Aa rfl (Ae (Al rfl <| Ad)) ?_
 refine Ah <| Ac <| Af <| Ai fun ds => Aa rfl (A9 B6 (Bm rfl <| Al rfl <| Ad) rfl rfl (A6 0 rfl)) ?_
 refine Bi rfl (Cj bd_27 Az (.cons (Ad) .nil) ((best_top_ok hr).mono fun u F2 _ h => (by rw [ev_b1] at h; exact h : ∃ ws, u = .tuple #[ws, .int .i64 3, .int .i64 2, .int .i64 0] ∧ Ints F2 ws bestX)) fun v34 F35 hr36 hF37 => ?_)
 replace hr := hr.mono hF37
 replace hsl10 := hsl10.mono hF37
 replace hq1 := hq1.mono hF37
 replace hq2 := hq2.mono hF37
 obtain ⟨hq3_, rfl, hq3⟩ := hr36
 refine Aa rfl (Ag (Ad)) ?_
 refine Aa rfl (Ay (Ad) rfl) ?_
 refine Aa rfl (Ay (Al rfl <| Ad) rfl) ?_
 refine Aa rfl (Ay (Ar rfl <| Ad) rfl) ?_
 refine Aa rfl (Ay (Ar rfl <| Al rfl <| Ad) rfl) ?_
 refine Aa rfl (Ae (Ar rfl <| Al rfl <| Ad)) ?_
 refine Aa rfl (Ae (Ar rfl <| Al rfl <| Ad)) ?_
 refine Aa rfl (Ae (Ar rfl <| Al rfl <| Ad)) ?_
 refine Aa rfl (Ae (Ar rfl <| Al rfl <| Ad)) ?_
 refine Ah <| Ac <| Af <| Ai fun ds => Aa rfl (A9 B6 (Bm rfl <| A7 rfl <| A1 rfl <| Ad) rfl rfl (A6 0 rfl)) ?_
 refine Bi rfl (Cj bd_29 Az (.cons (Ad) .nil) ((first_top_ok hr).mono fun u F2 _ h => (by rw [ev_f1] at h; exact h : ∃ ws, u = .tuple #[ws, .int .i64 0] ∧ Nats F2 ws [0])) fun v38 F39 hr40 hF41 => ?_)
 replace hr := hr.mono hF41
 replace hsl10 := hsl10.mono hF41
 replace hq1 := hq1.mono hF41
 replace hq2 := hq2.mono hF41
 replace hq3 := hq3.mono hF41
 obtain ⟨hq4_, rfl, hq4⟩ := hr40
 refine Aa rfl (Ag (Ad)) ?_
 refine Aa rfl (Ay (Ad) rfl) ?_
 refine Aa rfl (Ay (Al rfl <| Ad) rfl) ?_
 refine Aa rfl (Ae (Al rfl <| Ad)) ?_
 refine Aa rfl (Ae (Al rfl <| Ad)) ?_
 refine Ah <| Ac <| Af <| Ai fun ds => Aa rfl (A9 B6 (Bm rfl <| A5 rfl <| Ar rfl <| Al rfl <| Ad) rfl rfl (A6 0 rfl)) ?_
 refine Bw rfl (Bb bd_31 Az (.cons (Ad) (.cons Ab (.cons Ab .nil))) (from_top_ok hr 1 2) (fun _ _ h => h.trans (show _ = Value.tuple #[.int .i64 1, .int .i64 0] by unfold fromV; rw [ev_m1]))) ?_
 refine Aa rfl (Ag (Ad)) ?_
 refine Aa rfl (Ay (Ad) rfl) ?_
 refine Aa rfl (Ay (Al rfl <| Ad) rfl) ?_
 refine Aa rfl (Ae (Al rfl <| Ad)) ?_
 refine Aa rfl (Ae (Al rfl <| Ad)) ?_
 refine Ah <| Ac <| Af <| Ai fun ds => Aa rfl (A9 B6 (Bm rfl <| A5 rfl <| A7 rfl <| Ar rfl <| Ad) rfl rfl (A6 0 rfl)) ?_
 refine Aa rfl (Ag (Bm rfl <| A5 rfl <| A7 rfl <| Al rfl <| Ad)) ?_
 refine Bi rfl (Cj bd_35 Az (.cons (Al rfl <| Ad) (.cons (Ad) (.cons Ab (.cons Ab .nil)))) ((reading_top_ok hr (l := bestX) hsl10 3 0).mono fun u F2 _ h => (by rw [ev_r1] at h; exact h : ∃ ws, u = .tuple #[ws, .int .i64 0] ∧ Ints F2 ws [1])) fun v42 F43 hr44 hF45 => ?_)
 replace hr := hr.mono hF45
 replace hsl10 := hsl10.mono hF45
 replace hq1 := hq1.mono hF45
 replace hq2 := hq2.mono hF45
 replace hq3 := hq3.mono hF45
 replace hq4 := hq4.mono hF45
 obtain ⟨hq5_, rfl, hq5⟩ := hr44
 refine Aa rfl (Ag (Ad)) ?_
 refine Aa rfl (Ay (Ad) rfl) ?_
 refine Aa rfl (Ay (Al rfl <| Ad) rfl) ?_
 refine Aa rfl (Ae (Al rfl <| Ad)) ?_
 refine Aa rfl (Ae (Al rfl <| Ad)) ?_
 refine Ah <| Ac <| Af <| Ai fun ds => Aa rfl (A9 B6 (Bm rfl <| Bm rfl <| Ar rfl <| Ad) rfl rfl (A6 0 rfl)) ?_
 refine Bi rfl (Cj bd_33 Az (.cons (Ad) .nil) ((clean_top_ok hr).mono fun u F2 _ h => (by rw [ev_l1] at h; exact h : ∃ ws, u = .tuple #[ws, .int .i64 0] ∧ Nats F2 ws [])) fun v46 F47 hr48 hF49 => ?_)
 replace hr := hr.mono hF49
 replace hsl10 := hsl10.mono hF49
 replace hq1 := hq1.mono hF49
 replace hq2 := hq2.mono hF49
 replace hq3 := hq3.mono hF49
 replace hq4 := hq4.mono hF49
 replace hq5 := hq5.mono hF49
 obtain ⟨hq6_, rfl, hq6⟩ := hr48
 refine Aa rfl (Ag (Ad)) ?_
 refine Aa rfl (Ay (Ad) rfl) ?_
 refine Aa rfl (Ay (Al rfl <| Ad) rfl) ?_
 refine Aa rfl (Ae (Al rfl <| Ad)) ?_
 refine Aa rfl (Ae (Al rfl <| Ad)) ?_
 refine Ah <| Ac <| Af <| Ai fun ds => Aa rfl (A9 B6 (Bm rfl <| Bm rfl <| A7 rfl <| Al rfl <| Ad) rfl rfl (A6 0 rfl)) ?_
 refine Bi rfl (B5 Bj C9 rfl (.cons Ab (.cons Ab (.cons Ab (.cons Ab .nil)))) rfl rfl (by decide) (by simp [Value.oneCell']) fun b50 hb50 nb50 => ?_)
 refine B4 (i := 0) rfl hb50 .here fun F51 hF52 hz53 => ?_
 replace hr := hr.mono hF52
 replace hsl10 := hsl10.mono hF52
 replace hq1 := hq1.mono hF52
 replace hq2 := hq2.mono hF52
 replace hq3 := hq3.mono hF52
 replace hq4 := hq4.mono hF52
 replace hq5 := hq5.mono hF52
 replace hq6 := hq6.mono hF52
 have hsl54 := ints_box4 hz53
 refine Bw rfl (Bb bd_37 Az (.cons (Al rfl <| Ad) (.cons (Ad) (.cons Ab .nil))) (second_top_ok hr (l := starX) hsl54 2) (fun _ _ h => h.trans (show _ = Value.tuple #[.int .i64 1, .int .i64 1, .int .i64 0] by unfold secV; rw [ev_s1]))) ?_
 refine Aa rfl (Ag (Ad)) ?_
 refine Aa rfl (Ay (Ad) rfl) ?_
 refine Aa rfl (Ay (Al rfl <| Ad) rfl) ?_
 refine Aa rfl (Ay (Ar rfl <| Ad) rfl) ?_
 refine Aa rfl (Ae (Ar rfl <| Ad)) ?_
 refine Aa rfl (Ae (Ar rfl <| Ad)) ?_
 refine Aa rfl (Ae (Ar rfl <| Ad)) ?_
 refine Ah <| Ac <| Af <| Ai fun ds => Aa rfl (A9 B6 (Bm rfl <| Bm rfl <| A5 rfl <| Ar rfl <| Al rfl <| Ad) rfl rfl (A6 0 rfl)) ?_
 refine Aa rfl (Ag (Bm rfl <| Bm rfl <| A5 rfl <| Ar rfl <| Ad)) ?_
 refine Bw rfl (Bb bd_37 Az (.cons (Al rfl <| Ad) (.cons (Ad) (.cons Ab .nil))) (second_top_ok hr (l := bestX) hsl10 2) (fun _ _ h => h.trans (show _ = Value.tuple #[.int .i64 0, .int .i64 0, .int .i64 8] by unfold secV; rw [ev_s2]))) ?_
 refine Aa rfl (Ag (Ad)) ?_
 refine Aa rfl (Ay (Ad) rfl) ?_
 refine Aa rfl (Ay (Al rfl <| Ad) rfl) ?_
 refine Aa rfl (Ay (Ar rfl <| Ad) rfl) ?_
 refine Aa rfl (Ae (Ar rfl <| Ad)) ?_
 refine Aa rfl (Ae (Ar rfl <| Ad)) ?_
 refine Aa rfl (Ae (Ar rfl <| Ad)) ?_
 refine Ah <| Ac <| Af <| Ai fun ds => Aa rfl (Ag (Bm rfl <| Bm rfl <| A5 rfl <| A1 rfl <| Ad)) ?_
 refine Aa rfl (By (Ad) Ab) ?_
 refine Aa rfl (Ag (Ad)) ?_
 refine As rfl rfl (Ad) (by first | rfl | decide) ?_
 refine Aa rfl (Ag (Bm rfl <| Bm rfl <| A7 rfl <| A1 rfl <| Ar rfl <| Al rfl <| Ad)) ?_
 refine As rfl rfl (Al rfl <| Ad) (by first | rfl | decide) ?_
 refine Aa rfl (By (Ad) Ab) ?_
 refine Aa rfl (A3 (Ar rfl <| Ad) (by first | rfl | decide) (Ad)) ?_
 refine Aa rfl (Ag (Ad)) ?_
 refine As rfl rfl (Ad) (by first | rfl | decide) ?_
 refine Aa rfl (Ag (Bm rfl <| Bm rfl <| Ar rfl <| Al rfl <| Ad)) ?_
 refine As rfl rfl (Al rfl <| Ad) (by first | rfl | decide) ?_
 refine Aa rfl (By (Ad) Ab) ?_
 refine Aa rfl (A3 (Ar rfl <| Ad) (by first | rfl | decide) (Ad)) ?_
 refine Aa rfl (Ag (Ad)) ?_
 refine As rfl rfl (Ad) (by first | rfl | decide) ?_
 refine Aa rfl (Ag (Bm rfl <| A5 rfl <| A7 rfl <| A1 rfl <| Ad)) ?_
 refine As rfl rfl (Al rfl <| Ad) (by first | rfl | decide) ?_
 refine Aa rfl (By (Ad) Ab) ?_
 refine Aa rfl (A3 (Ar rfl <| Ad) (by first | rfl | decide) (Ad)) ?_
 refine Aa rfl (Ag (Ad)) ?_
 refine As rfl rfl (Ad) (by first | rfl | decide) ?_
 refine Aa rfl (Ag (Bm rfl <| A5 rfl <| A7 rfl <| Al rfl <| Ad)) ?_
 refine As rfl rfl (Al rfl <| Ad) (by first | rfl | decide) ?_
 refine Aa rfl (By (Ad) Ab) ?_
 refine Aa rfl (A3 (Ar rfl <| Ad) (by first | rfl | decide) (Ad)) ?_
 refine Aa rfl (Ag (Ad)) ?_
 refine As rfl rfl (Ad) (by first | rfl | decide) ?_
 refine Aa rfl (Ag (Bm rfl <| A5 rfl <| A1 rfl <| Ar rfl <| Ad)) ?_
 refine As rfl rfl (Al rfl <| Ad) (by first | rfl | decide) ?_
 refine Aa rfl (By (Ad) Ab) ?_
 refine Aa rfl (A3 (Ar rfl <| Ad) (by first | rfl | decide) (Ad)) ?_
 refine Aa rfl (Ag (Ad)) ?_
 refine As rfl rfl (Ad) (by first | rfl | decide) ?_
 refine Aa rfl (Ag (Bm rfl <| A5 rfl <| Ar rfl <| Ad)) ?_
 refine As rfl rfl (Al rfl <| Ad) (by first | rfl | decide) ?_
 refine Aa rfl (By (Ad) Ab) ?_
 refine Aa rfl (A3 (Ar rfl <| Ad) (by first | rfl | decide) (Ad)) ?_
 refine Aa rfl (Ag (Ad)) ?_
 refine As rfl rfl (Ad) (by first | rfl | decide) ?_
 refine Aa rfl (Ag (Bm rfl <| A7 rfl <| A1 rfl <| Ar rfl <| Al rfl <| Ad)) ?_
 refine As rfl rfl (Al rfl <| Ad) (by first | rfl | decide) ?_
 refine Aa rfl (By (Ad) Ab) ?_
 refine Aa rfl (A3 (Ar rfl <| Ad) (by first | rfl | decide) (Ad)) ?_
 refine Aa rfl (Ag (Ad)) ?_
 refine As rfl rfl (Ad) (by first | rfl | decide) ?_
 refine Aa rfl (Ag (Bm rfl <| A7 rfl <| Al rfl <| Ad)) ?_
 refine As rfl rfl (Al rfl <| Ad) (by first | rfl | decide) ?_
 refine Aa rfl (By (Ad) Ab) ?_
 refine Aa rfl (A3 (Ar rfl <| Ad) (by first | rfl | decide) (Ad)) ?_
 refine Aa rfl (Ag (Ad)) ?_
 refine As rfl rfl (Ad) (by first | rfl | decide) ?_
 refine Aa rfl (Ag (Bm rfl <| Bm rfl <| Bm rfl <| A1 rfl <| Ar rfl <| Al rfl <| Ad)) ?_
 refine As rfl rfl (Al rfl <| Ad) (by first | rfl | decide) ?_
 refine Aa rfl (By (Ad) Ab) ?_
 refine Aa rfl (A3 (Ar rfl <| Ad) (by first | rfl | decide) (Ad)) ?_
 refine Aa rfl (Ag (Ad)) ?_
 refine As rfl rfl (Ad) (by first | rfl | decide) ?_
 refine Aa rfl (Ag (Bm rfl <| A1 rfl <| Ar rfl <| Al rfl <| Ad)) ?_
 refine As rfl rfl (Al rfl <| Ad) (by first | rfl | decide) ?_
 refine Aa rfl (By (Ad) Ab) ?_
 refine Aa rfl (A3 (Ar rfl <| Ad) (by first | rfl | decide) (Ad)) ?_
 refine Aa rfl (Ag (Ad)) ?_
 refine As rfl rfl (Ad) (by first | rfl | decide) ?_
 refine Aa rfl (Ag (Bm rfl <| Bm rfl <| Bm rfl <| Bm rfl <| Ad)) ?_
 refine As rfl rfl (Al rfl <| Ad) (by first | rfl | decide) ?_
 refine Bi rfl (B5 Bj C9 rfl (.cons Ab (.cons Ab .nil)) rfl rfl (by decide) (by simp [Value.oneCell']) fun b55 hb55 nb55 => ?_)
 refine B4 (i := 0) rfl hb55 .here fun F56 hF57 hz58 => ?_
 replace hsl10 := hsl10.mono hF57
 replace hq1 := hq1.mono hF57
 replace hq2 := hq2.mono hF57
 replace hq3 := hq3.mono hF57
 replace hq4 := hq4.mono hF57
 replace hq5 := hq5.mono hF57
 replace hq6 := hq6.mono hF57
 have hsl59 := ints_box2 hz58
 refine As rfl rfl (Ar rfl <| Ad) (by first | rfl | decide) ?_
 refine Bw rfl (Bb bd_20 Az (.cons (Al rfl <| Ad) (.cons (Ad) .nil)) (refInts_ok (Nats.ints hq1) hsl59) (fun _ _ h => h)) ?_
 refine Aa rfl (A3 (Ar rfl <| Al rfl <| Ad) (by first | rfl | decide) (Ad)) ?_
 refine Aa rfl (Ag (Ad)) ?_
 refine As rfl rfl (Ad) (by first | rfl | decide) ?_
 refine Aa rfl (Ag (Bm rfl <| Bm rfl <| Bm rfl <| A5 rfl <| A7 rfl <| A1 rfl <| Al rfl <| Ad)) ?_
 refine As rfl rfl (Al rfl <| Ad) (by first | rfl | decide) ?_
 refine Aa rfl (By (Ad) Ab) ?_
 refine Aa rfl (A3 (Ar rfl <| Ad) (by first | rfl | decide) (Ad)) ?_
 refine Aa rfl (Ag (Ad)) ?_
 refine As rfl rfl (Ad) (by first | rfl | decide) ?_
 refine Aa rfl (Ag (Bm rfl <| Bm rfl <| Bm rfl <| A5 rfl <| Al rfl <| Ad)) ?_
 refine As rfl rfl (Al rfl <| Ad) (by first | rfl | decide) ?_
 refine Aa rfl (Ec bt_60 (.cons Ab rfl (.cons Ab rfl .nil)) (.cons rfl rfl (Nat.le_of_ble_eq_true rfl) (.cons (.here) .nil) (.cons rfl rfl (Nat.le_of_ble_eq_true rfl) (.cons (.next <| .here) .nil) .nil))) ?_
 refine As rfl rfl (Ar rfl <| Ad) (by first | rfl | decide) ?_
 refine Aa rfl (Ec bt_60 (.cons Ab rfl (.cons Ab rfl .nil)) (.cons rfl rfl (Nat.le_of_ble_eq_true rfl) (.cons (.here) .nil) (.cons rfl rfl (Nat.le_of_ble_eq_true rfl) (.cons (.next <| .here) .nil) .nil))) ?_
 refine As rfl rfl (Ar rfl <| Al rfl <| Ad) (by first | rfl | decide) ?_
 refine Aa rfl (Ec bt_60 (.cons Ab rfl (.cons Ab rfl .nil)) (.cons rfl rfl (Nat.le_of_ble_eq_true rfl) (.cons (.here) .nil) (.cons rfl rfl (Nat.le_of_ble_eq_true rfl) (.cons (.next <| .here) .nil) .nil))) ?_
 refine As rfl rfl (A1 rfl <| Ad) (by first | rfl | decide) ?_
 refine Aa rfl (Ec bt_60 (.cons Ab rfl (.cons Ab rfl .nil)) (.cons rfl rfl (Nat.le_of_ble_eq_true rfl) (.cons (.here) .nil) (.cons rfl rfl (Nat.le_of_ble_eq_true rfl) (.cons (.next <| .here) .nil) .nil))) ?_
 refine As rfl rfl (A1 rfl <| Al rfl <| Ad) (by first | rfl | decide) ?_
 refine Bi rfl (x_buildN (offs := [(0, 2), (2, 2), (4, 2), (6, 2)]) (zl := [.int .i64 0, .int .i64 0, .int .i64 0, .int .i64 0, .int .i64 0, .int .i64 0, .int .i64 0, .int .i64 0]) D9 zr_60 rfl (.cons (Ar rfl <| Al rfl <| Ad) rfl (.cons (Ar rfl <| Ad) rfl (.cons (Al rfl <| Ad) rfl (.cons (Ad) rfl .nil)))) (by intro i p h; rcases i with _ | _ | _ | _ | i <;> simp at h <;> subst h <;> rfl) (.cons rfl rfl (Nat.le_of_ble_eq_true rfl) (.cons (.here) (.cons (.next <| .here) .nil)) (.cons rfl rfl (Nat.le_of_ble_eq_true rfl) (.cons (.next <| .next <| .here) (.cons (.next <| .next <| .next <| .here) .nil)) (.cons rfl rfl (Nat.le_of_ble_eq_true rfl) (.cons (.next <| .next <| .next <| .next <| .here) (.cons (.next <| .next <| .next <| .next <| .next <| .here) .nil)) (.cons rfl rfl (Nat.le_of_ble_eq_true rfl) (.cons (.next <| .next <| .next <| .next <| .next <| .next <| .here) (.cons (.next <| .next <| .next <| .next <| .next <| .next <| .next <| .here) .nil)) .nil)))) (by decide) (by decide) fun b60 hb60 nb60 => ?_)
 refine B4 (i := 0) rfl hb60 .here fun F61 hF62 hz63 => ?_
 replace hsl10 := hsl10.mono hF62
 replace hq2 := hq2.mono hF62
 replace hq3 := hq3.mono hF62
 replace hq4 := hq4.mono hF62
 replace hq5 := hq5.mono hF62
 replace hq6 := hq6.mono hF62
 have hsl64 := spansX_box4 hz63
 refine As rfl rfl (A1 rfl <| Ar rfl <| Ad) (by first | rfl | decide) ?_
 refine Bw rfl (Bb bd_25 Az (.cons (A1 rfl <| Al rfl <| Ad) (.cons (Ad) .nil)) (refSpans_ok hq2 hsl64) (fun _ _ h => h)) ?_
 refine Aa rfl (A3 (A1 rfl <| Ar rfl <| Al rfl <| Ad) (by first | rfl | decide) (Ad)) ?_
 refine Aa rfl (Ag (Ad)) ?_
 refine As rfl rfl (Ad) (by first | rfl | decide) ?_
 refine Aa rfl (Ag (Bm rfl <| Bm rfl <| Bm rfl <| A5 rfl <| Al rfl <| Ad)) ?_
 refine As rfl rfl (Al rfl <| Ad) (by first | rfl | decide) ?_
 refine Aa rfl (Ag (Bm rfl <| Bm rfl <| Bm rfl <| Bm rfl <| A5 rfl <| A7 rfl <| Al rfl <| Ad)) ?_
 refine As rfl rfl (Ar rfl <| Ad) (by first | rfl | decide) ?_
 refine Bw rfl (Bb bd_20 Az (.cons (Al rfl <| Ad) (.cons (Ad) .nil)) (refInts_ok hq3 hsl10) (fun _ _ h => h)) ?_
 refine Aa rfl (A3 (Ar rfl <| Al rfl <| Ad) (by first | rfl | decide) (Ad)) ?_
 refine Aa rfl (Ag (Ad)) ?_
 refine As rfl rfl (Ad) (by first | rfl | decide) ?_
 refine Aa rfl (Ag (Bm rfl <| Bm rfl <| Bm rfl <| A5 rfl <| A1 rfl <| Al rfl <| Ad)) ?_
 refine As rfl rfl (Al rfl <| Ad) (by first | rfl | decide) ?_
 refine Aa rfl (By (Ad) Ab) ?_
 refine Aa rfl (A3 (Ar rfl <| Ad) (by first | rfl | decide) (Ad)) ?_
 refine Aa rfl (Ag (Ad)) ?_
 refine As rfl rfl (Ad) (by first | rfl | decide) ?_
 refine Aa rfl (Ag (Bm rfl <| Bm rfl <| Bm rfl <| A5 rfl <| A7 rfl <| Ad)) ?_
 refine As rfl rfl (Al rfl <| Ad) (by first | rfl | decide) ?_
 refine Aa rfl (By (Ad) Ab) ?_
 refine Aa rfl (A3 (Ar rfl <| Ad) (by first | rfl | decide) (Ad)) ?_
 refine Aa rfl (Ag (Ad)) ?_
 refine As rfl rfl (Ad) (by first | rfl | decide) ?_
 refine Aa rfl (Ag (Bm rfl <| Bm rfl <| Bm rfl <| A5 rfl <| A1 rfl <| Al rfl <| Ad)) ?_
 refine As rfl rfl (Al rfl <| Ad) (by first | rfl | decide) ?_
 refine Bi rfl (B5 Bj C9 rfl (.cons Ab .nil) rfl rfl (by decide) (by simp [Value.oneCell']) fun b65 hb65 nb65 => ?_)
 refine B4 (i := 0) rfl hb65 .here fun F66 hF67 hz68 => ?_
 replace hq4 := hq4.mono hF67
 replace hq5 := hq5.mono hF67
 replace hq6 := hq6.mono hF67
 have hsl69 := Cw hz68
 refine As rfl rfl (Ar rfl <| Ad) (by first | rfl | decide) ?_
 refine Bw rfl (Bb bd_20 Az (.cons (Al rfl <| Ad) (.cons (Ad) .nil)) (refInts_ok (Nats.ints hq4) hsl69) (fun _ _ h => h)) ?_
 refine Aa rfl (A3 (Ar rfl <| Al rfl <| Ad) (by first | rfl | decide) (Ad)) ?_
 refine Aa rfl (Ag (Ad)) ?_
 refine As rfl rfl (Ad) (by first | rfl | decide) ?_
 refine Aa rfl (Ag (Bm rfl <| Bm rfl <| Bm rfl <| A5 rfl <| Ar rfl <| Al rfl <| Ad)) ?_
 refine As rfl rfl (Al rfl <| Ad) (by first | rfl | decide) ?_
 refine Aa rfl (By (Ad) Ab) ?_
 refine Aa rfl (A3 (Ar rfl <| Ad) (by first | rfl | decide) (Ad)) ?_
 refine Aa rfl (Ag (Ad)) ?_
 refine As rfl rfl (Ad) (by first | rfl | decide) ?_
 refine Aa rfl (Ag (Bm rfl <| Bm rfl <| Bm rfl <| A7 rfl <| A1 rfl <| Ar rfl <| Al rfl <| Ad)) ?_
 refine As rfl rfl (Al rfl <| Ad) (by first | rfl | decide) ?_
 refine Bi rfl (B5 Bj C9 rfl (.cons Ab .nil) rfl rfl (by decide) (by simp [Value.oneCell']) fun b70 hb70 nb70 => ?_)
 refine B4 (i := 0) rfl hb70 .here fun F71 hF72 hz73 => ?_
 replace hq5 := hq5.mono hF72
 replace hq6 := hq6.mono hF72
 have hsl74 := Cw hz73
 refine As rfl rfl (Ar rfl <| Ad) (by first | rfl | decide) ?_
 refine Bw rfl (Bb bd_20 Az (.cons (Al rfl <| Ad) (.cons (Ad) .nil)) (refInts_ok hq5 hsl74) (fun _ _ h => h)) ?_
 refine Aa rfl (A3 (Ar rfl <| Al rfl <| Ad) (by first | rfl | decide) (Ad)) ?_
 refine Aa rfl (Ag (Ad)) ?_
 refine As rfl rfl (Ad) (by first | rfl | decide) ?_
 refine Aa rfl (Ag (Bm rfl <| Bm rfl <| Bm rfl <| A7 rfl <| A1 rfl <| Al rfl <| Ad)) ?_
 refine As rfl rfl (Al rfl <| Ad) (by first | rfl | decide) ?_
 refine Aa rfl (Bk Bj (Ad) hq6.plain) ?_
 refine As rfl rfl (Ar rfl <| Ad) (by first | rfl | decide) ?_
 refine Aa rfl (By (Ad) Ab) ?_
 refine Aa rfl (A3 (Ar rfl <| Al rfl <| Ad) (by first | rfl | decide) (Ad)) ?_
 refine Aa rfl (Ag (Ad)) ?_
 refine As rfl rfl (Ad) (by first | rfl | decide) ?_
 refine Aa rfl (Ag (Bm rfl <| Bm rfl <| Bm rfl <| A7 rfl <| Al rfl <| Ad)) ?_
 refine As rfl rfl (Al rfl <| Ad) (by first | rfl | decide) ?_
 refine Aa rfl (By (Ad) Ab) ?_
 refine Aa rfl (A3 (Ar rfl <| Ad) (by first | rfl | decide) (Ad)) ?_
 refine Aa rfl (Ag (Ad)) ?_
 refine As rfl rfl (Ad) (by first | rfl | decide) ?_
 refine Aa rfl (Ag (Bm rfl <| Bm rfl <| Bm rfl <| A7 rfl <| A1 rfl <| Ad)) ?_
 refine As rfl rfl (Al rfl <| Ad) (by first | rfl | decide) ?_
 refine Aa rfl (By (Ad) Ab) ?_
 refine Aa rfl (A3 (Ar rfl <| Ad) (by first | rfl | decide) (Ad)) ?_
 refine Aa rfl (Ae (Ad)) ?_
 refine Ah <| Ac <| A2 <| Au rfl (.tmp (Ad) .nil) ?_
 show _ = _
 first | rfl | decide
end Go.Proofs.Ytccogmkhijgelaa
namespace Go.Proofs.Ytccogmkhijgelaa
def turnN (xs : List Nat) (n : Nat) : Nat := xs[n % xs.length]?.getD 0
theorem turnN_lt {xs : List Nat} (h : ∀ x ∈ xs, x < 256) {n : Nat} : turnN xs n < 256 := by
 unfold turnN
 cases hx : xs[n % xs.length]? with
 | none => decide
 | some x => exact h x (List.mem_of_getElem? hx)
theorem turnN_nil {n : Nat} : turnN [] n = 0 := by simp [turnN]
theorem turnN_at {xs : List Nat} {n : Nat} (h : n % xs.length < xs.length) : turnN xs n = xs[n % xs.length] := by simp [turnN, h]
/-- What was taken so far, and what is left. -/
structure TreeI (n : Nat) (g : Nat → Int) (taken left : List Nat) : Prop where
 nodup : (taken ++ left).Nodup
 len : taken.length + left.length = n
 all : ∀ i, i < n ↔ i ∈ taken ++ left
 root : ∀ (h : 0 < taken.length), g taken[0] = -1
 up : ∀ j (h : j < taken.length), 0 < j → ∃ k, ∃ hk : k < j, g taken[j] = (taken[k] : Int)
theorem TreeI.start {n : Nat} {g : Nat → Int} : TreeI n g [] (List.range n) := ⟨by simpa using List.nodup_range, by simp, fun i => by simp, fun h => absurd h (by simp), fun j h => absurd h (by simp)⟩
theorem erase_perm {α : Type} {l : List α} {k : Nat} (hk : k < l.length) : l.Perm (l[k] :: l.eraseIdx k) := by
 rw [List.eraseIdx_eq_take_drop_succ]
 have h : l = l.take k ++ l[k] :: l.drop (k + 1) := by rw [← List.drop_eq_getElem_cons hk, List.take_append_drop]
 conv => lhs; rw [h]
 exact List.perm_middle
section
variable {n : Nat} {g : Nat → Int} {taken left : List Nat} {k : Nat}
theorem TreeI.perm (hk : k < left.length) : (taken ++ left).Perm ((taken ++ [left[k]]) ++ left.eraseIdx k) := by
 rw [List.append_assoc]
 exact (erase_perm hk).append_left taken
theorem TreeI.fresh (h : TreeI n g taken left) (hk : k < left.length) {j : Nat} (hj : j < taken.length) : taken[j] ≠ left[k] := fun he => by
 have := (List.nodup_append.1 h.nodup).2.2 _ (List.getElem_mem hj) _ (List.getElem_mem hk)
 exact this he
theorem TreeI.lt (h : TreeI n g taken left) (hk : k < left.length) : left[k] < n := (h.all _).2 (List.mem_append_right _ (List.getElem_mem hk))
theorem TreeI.step (h : TreeI n g taken left) (hk : k < left.length) {g' : Nat → Int} (hg : ∀ i, i ≠ left[k] → g' i = g i) (h0 : taken.length = 0 → g' left[k] = -1) (h1 : 0 < taken.length → ∃ q, ∃ hq : q < taken.length, g' left[k] = (taken[q] : Int)) :
   TreeI n g' (taken ++ [left[k]]) (left.eraseIdx k) := by
 have hp := TreeI.perm (taken := taken) hk
 refine ⟨hp.nodup_iff.1 h.nodup, by have := h.len; rw [List.length_append, List.length_eraseIdx_of_lt hk, List.length_singleton]; omega, fun i => (h.all i).trans hp.mem_iff, fun hl => ?_, fun j hj hj0 => ?_⟩
 · by_cases ht : 0 < taken.length
   · rw [List.getElem_append_left ht, hg _ (h.fresh hk ht)]; exact h.root ht
   · rw [List.getElem_append_right (by omega)]
     simp only [List.getElem_singleton]
     exact h0 (by omega)
 · by_cases ht : j < taken.length
   · obtain ⟨q, hq, he⟩ := h.up j ht hj0
     refine ⟨q, hq, ?_⟩
     rw [List.getElem_append_left ht, List.getElem_append_left (by omega), hg _ (h.fresh hk ht)]; exact he
   · have hj2 : j = taken.length := by simp at hj; omega
     subst hj2
     obtain ⟨q, hq, he⟩ := h1 hj0
     refine ⟨q, hq, ?_⟩
     rw [List.getElem_append_right (Nat.le_refl _), List.getElem_append_left hq]
     simp only [List.getElem_singleton]
     exact he
end
theorem reach_le {l : List Int} {i f : Nat} (h : reach l f i = true) : ∀ d, reach l (f + d) i = true
 | 0 => h
 | d + 1 => reach_succ (reach_le h d)
theorem firsts_uniq {l : List Int} {r : Nat} (hr : upN l r = -1) : ∀ {k : Nat}, (∀ i, i < k → upN l i = -1 → i = r) → firstsN l k = if r < k then 1 else 0
 | 0, _ => by simp [firstsN]
 | k + 1, h => by
   unfold firstsN
   rw [firsts_uniq hr (fun i hi => h i (by omega))]
   by_cases hk : upN l k = -1
   · have := h k (by omega) hk
     subst this
     rw [if_pos hk, if_neg (by omega), if_pos (by omega)]; rfl
   · rw [if_neg hk]
     have : r ≠ k := fun e => hk (by rw [← e]; exact hr)
     by_cases hrk : r < k
     · rw [if_pos hrk, if_pos (by omega)]
     · rw [if_neg hrk, if_neg (by omega)]
def listG (g : Nat → Int) (n : Nat) : List Int := (List.range n).map g
theorem TreeI.tree {n : Nat} {g : Nat → Int} {taken : List Nat} (h : TreeI n g taken []) (hn : 0 < n) : IsTree (listG g n) := by
 have hlen : (listG g n).length = n := by simp [listG]
 have hup : ∀ i, i < n → upN (listG g n) i = g i := fun i hi => upN_map hi
 have hall : ∀ i, i < n ↔ i ∈ taken := fun i => by rw [h.all i, List.append_nil]
 have htl : taken.length = n := by have := h.len; simpa using this
 have hlt : ∀ j (hj : j < taken.length), taken[j] < n := fun j hj => (hall _).2 (List.getElem_mem hj)
 refine ⟨fun i hi => ?_, fun i hi => ?_, ?_⟩
 · rw [hlen] at hi ⊢
   rw [hup i hi]
   obtain ⟨j, hj, rfl⟩ := List.getElem_of_mem ((hall i).1 hi)
   by_cases hj0 : j = 0
   · subst hj0; rw [h.root hj]; omega
   · obtain ⟨k, hk, he⟩ := h.up j hj (by omega)
     rw [he]
     have := hlt k (by omega)
     omega
 · rw [hlen] at hi ⊢
   obtain ⟨j, hj, rfl⟩ := List.getElem_of_mem ((hall i).1 hi)
   have key : ∀ j (hj : j < taken.length), reach (listG g n) j taken[j] = true := by
     intro j
     induction j using Nat.strongRecOn with
     | _ j ih =>
       intro hj
       by_cases hj0 : j = 0
       · subst hj0; exact reach_end (by rw [hup _ (hlt 0 hj)]; exact h.root hj)
       · obtain ⟨k, hk, he⟩ := h.up j hj (by omega)
         obtain ⟨j', rfl⟩ : ∃ j', j = j' + 1 := ⟨j - 1, by omega⟩
         rw [reach_step (j := taken[k]) (by rw [hup _ (hlt _ hj)]; exact he)]
         have := reach_le (ih k hk (by omega)) (j' - k)
         rw [show k + (j' - k) = j' by omega] at this
         exact this
   have := reach_le (key j hj) (n - j)
   rw [show j + (n - j) = n by omega] at this
   exact this
 · rw [hlen]
   have h0 : 0 < taken.length := by omega
   rw [firsts_uniq (r := taken[0]) (by rw [hup _ (hlt 0 h0)]; exact h.root h0) fun i hi hu => ?_, if_pos (hlt 0 h0)]
   rw [hup i hi] at hu
   obtain ⟨j, hj, rfl⟩ := List.getElem_of_mem ((hall i).1 hi)
   by_cases hj0 : j = 0
   · subst hj0; rfl
   · obtain ⟨k, hk, he⟩ := h.up j hj (by omega)
     omega
end Go.Proofs.Ytccogmkhijgelaa
namespace Go.Proofs.Ytccogmkhijgelaa
open Go.RowKit
theorem bd_96 : Body Try.prog 96 := Bo (by kernel_rfl)
theorem one_5 : OneT Try.prog 5 := Dl (by kernel_rfl)
theorem sl_50 : SliceT Try.prog 50 5 1 := sliceT_of (by kernel_rfl)
set_option maxRecDepth 100000 in
theorem valid_ok {F : Heap} {vp ve : Value} {ps : List (Value × Edn)} {s : Stm} (hr : StmR F vp ve ps s) : Ok Try.prog 40 [.agg #[vp, ve]].toArray F fun u _ => u = .bool (decide ((checkT s).2.2 = 0)) := by
 refine Ok.intro Try.func40 rfl Try.ntmps40 rfl fun w0 => ?_
 refine Af <| Ai fun ds => Bi rfl (B3 (Aj rfl) rfl fun b1 hb1 nb1 => ?_)
 refine Aa rfl (Ae Ab) ?_
 refine Ah <| Ac <| Af <| Ai fun ds => Aa rfl (A9 B6 (Al rfl <| Ad) rfl rfl (A6 0 rfl)) ?_
 refine Bw rfl (Bb bd_17 Az (.cons (Ad) .nil) (refCheckT_ok hr) (fun _ _ h => h.trans (show checkTV s = .tuple #[.int .i64 (checkT s).1, .int .i64 (checkT s).2.1, .int .i64 (checkT s).2.2] from rfl))) ?_
 refine Aa rfl (Ag (Ad)) ?_
 refine Aa rfl (Ay (Ad) rfl) ?_
 refine Aa rfl (Ay (Al rfl <| Ad) rfl) ?_
 refine Aa rfl (Ay (Ar rfl <| Ad) rfl) ?_
 refine Aa rfl (Ae (Ar rfl <| Ad)) ?_
 refine Aa rfl (Ae (Ar rfl <| Ad)) ?_
 refine Aa rfl (Ae (Ar rfl <| Ad)) ?_
 refine Ah <| Ac <| Af <| Ai fun ds => Aa rfl (Ag (Ad)) ?_
 refine Aa rfl (By (Ad) Ab) ?_
 refine Aa rfl (Ae (Ad)) ?_
 refine Ah <| Ac <| A2 <| Au rfl (.tmp (Ad) .nil) ?_
 rfl
set_option maxRecDepth 100000 in
theorem turn_ok {F : Heap} {vx : Value} {xs : List Nat} (hxs : Sl F vx 1 u8E xs) (hxb : ∀ x ∈ xs, x < 256) {n : Nat} {z : Int} (hz : z = (n : Int)) : Ok Try.prog 96 [vx, .int .i64 z].toArray F fun u _ => u = .int .i64 (turnN xs n : Int) := by
 subst hz
 refine Ok.intro Try.func96 rfl Try.ntmps96 rfl fun w0 => ?_
 have hL := hxs.plain.lt
 by_cases h0 : xs.length = 0
 ·
  refine Af <| Ai fun ds => Aa rfl (Ae Ab) ?_
  refine Ah <| Ac <| Af <| Af <| Ai fun ds => Aa rfl (Ag (Al rfl <| Aj rfl)) ?_
  refine Aa rfl (Bk sl_50 (Ad) hxs.plain) ?_
  refine Aa rfl (By (Ad) Ab) ?_
  refine Ah <| Ac <| Aq (Ad) (by first | rfl | exact decide_eq_true (by omega)) ?_
  refine Af <| Ai fun ds => Aa rfl (Ae Ab) ?_
  refine Ah <| Ac <| A2 <| A8 ?_
  refine Au rfl (.tmp (Ad) .nil) ?_
  show _ = _
  have : xs = [] := List.eq_nil_of_length_eq_zero h0
  subst this
  rw [turnN_nil]; rfl
 ·
  refine Af <| Ai fun ds => Aa rfl (Ae Ab) ?_
  refine Ah <| Ac <| Af <| Af <| Ai fun ds => Aa rfl (Ag (Al rfl <| Aj rfl)) ?_
  refine Aa rfl (Bk sl_50 (Ad) hxs.plain) ?_
  refine Aa rfl (By (Ad) Ab) ?_
  refine Ah <| Ac <| Ao (Ad) (by first | rfl | exact decide_eq_false (by omega)) ?_
  have hlt : n % xs.length < xs.length := Nat.mod_lt _ (by omega)
  have hb := hxb _ (List.getElem_mem hlt)
  refine Ax <| Ac <| Af <| Ai fun ds => Aa rfl (Ag (A1 rfl <| Aj rfl)) ?_
  refine Aa rfl (Ag (A1 rfl <| Al rfl <| Aj rfl)) ?_
  refine Aa rfl (Ag (A1 rfl <| Ar rfl <| Aj rfl)) ?_
  refine Aa rfl (Bk sl_50 (Ad) hxs.plain) ?_
  refine Aa rfl (q_rem (Ar rfl <| Ad) (Ad) (Int.natCast_nonneg _) (by omega)) ?_
  refine Aa rfl (Bf (k := n % xs.length) sl_50 (A1 rfl <| Ad) hxs.plain (Ad) (by omega) hlt) ?_
  refine Aa rfl (Ap one_5 (Ad) (hxs.cell1 hlt rfl)) ?_
  refine Aa rfl (q_convert ⟨_, Try.underlying5⟩ Try.underlying3 (Ad) (IntWalk.i64_in _ ⟨by omega, by omega⟩)) ?_
  refine Aa rfl (Ae (Ad)) ?_
  refine Ah <| Ac <| A2 <| Au rfl (.tmp (Ad) .nil) ?_
  show _ = _
  rw [turnN_at hlt]; rfl
theorem iL_zero {n : Nat} : List.replicate n (Value.int .i64 0) = (iL (fun _ => 0) n).flatMap intE := by
 induction n with
 | zero => rfl
 | succ n ih => rw [List.replicate_succ', iL_succ, List.flatMap_append, ih]; rfl
theorem nat_get {xs : List Nat} {i : Nat} (h : i < xs.length) : (xs.flatMap natE)[i * 1]? = some (.int .i64 (xs[i] : Int)) := flat_at (enc := natE) (s := 1) (fun _ => rfl) (j := 0) xs i h rfl
theorem set_one {g : Nat → Int} {i : Nat} {v w : Int} : updI (updI g i v) i w = updI g i w := by funext j; unfold updI; split <;> rfl
theorem row_addr {b n c : Nat} : addc (base (.slice (some ⟨b, 0, none⟩) n n)) (c * 1) = ⟨b, c * 1, none⟩ := by simp [base, addc]
theorem updI_ne {g : Nat → Int} {i : Nat} {v : Int} : ∀ j, j ≠ i → updI g i v j = g j := fun j h => by unfold updI; rw [if_neg h]
theorem updI_eq {g : Nat → Int} {i : Nat} {v : Int} : updI g i v i = v := by unfold updI; rw [if_pos rfl]
set_option maxRecDepth 100000 in
theorem tree_ok7 {F : Heap} {vx : Value} {xs : List Nat} (hxs : Sl F vx 1 u8E xs) (hxb : ∀ x ∈ xs, x < 256) {many : Nat} (hm0 : 0 < many) (hm5 : many ≤ 5) : Ok Try.prog 41 [.int .i64 (many : Int), vx].toArray F fun u F' => ∃ l, Ints F' u l ∧ l.length = many ∧ IsTree l := by
 have hle0 : F.le F := Heap.le_refl _
 refine Ok.intro Try.func41 rfl Try.ntmps41 rfl fun w0 => ?_
 have hxl := hxs.plain.lt
 refine Af <| Ai fun ds => Aa rfl (Ae Ab) ?_
 refine Ah <| Ac <| Af <| Ai fun ds => Aa rfl (Ag (Al rfl <| Aj rfl)) ?_
 refine Bi rfl (x_make (k := many) Bj el_3 rfl rfl (Ad) (Ad) rfl (by omega) (by omega) fun b1 hb1 nb1 => ?_)
 refine Aa rfl (Ae (Ad)) ?_
 refine Ah <| Ac <| Af <| Ai fun ds => Aa rfl (Ae Ab) ?_
 refine Aa rfl (Ae Ab) ?_
 refine Ah <| Ac <| Af <| Af <| Ai fun ds => Aa rfl (Ae Ab) ?_
 refine Ah <| Ac <| A0 <| Bt [6, 8, 13, 14, 15, 16, 17, 18, 19, 20, 21] (fun m e σ => ∃ k : Nat, m + k = many ∧ e 8 = .int .i64 (k : Int) ∧ ∃ v6 R6, e 6 = v6 ∧ Own 3 1 v6 (List.range k).length ((List.range k).flatMap natE) R6 ∧ σ = ⟨F, (b1, bx 3 ((iL (fun _ => 0) many).flatMap intE)) :: R6⟩) (many) ?_ ?_
 · exact ⟨0, by omega, (Ad), _, _, (Ar rfl <| Ad), Own.nil, by rw [iL_zero]⟩
 ·
  rintro m e _ ⟨k, hm9, hs8, v6, R6, hs6, ho, rfl⟩; have hrl : (List.range k).length = k := List.length_range
  by_cases hlt : k < many
  ·
   refine Af <| Af <| Ai fun ds => Aa rfl (Ag (At rfl hs8)) ?_
   refine Aa rfl (Ag (Al rfl <| Ak rfl <| A1 rfl <| Ar rfl <| Al rfl <| Aj rfl)) ?_
   refine Aa rfl (Bv (Al rfl <| Ad) (Ad)) ?_
   refine Ah <| Ac <| Aq (Ad) (by first | rfl | exact decide_eq_true (by omega)) ?_
   refine Ax <| Ac <| Af <| A0 <| Ai fun ds => Aa rfl (Ag (Ar rfl <| Al rfl <| At rfl hs6)) ?_
   refine Aa rfl (Ag (A1 rfl <| At rfl hs8)) ?_
   refine Bi rfl (B5 Bj C9 rfl (.cons (Ad) .nil) rfl rfl (by decide) (by simp [Value.oneCell']) fun b3 hb3 nb3 => ?_)
   refine Bi rfl (Cr Bj el_3 (Ar rfl <| Ad) ho (Ad) (Dk (s := 1) 0 rfl rfl (by simp [Value.oneCell'])) (by omega) (by omega) (.s <| .s <| .z) .last fun v4 R5 ho6 => ?_)
   have ho2 := ho6.snoc (x := k) rfl rfl
   refine Aa rfl (Ae (Ad)) ?_
   refine Ah <| Ba <| Ac <| Dg (fun _ _ h => h.drop (.cons _ <| .cons_cons _ <| .refl _)) ?_
   refine Ai fun ds => Aa rfl (Ag (A7 rfl <| At rfl hs8)) ?_
   refine Aa rfl (Bu (Ad) Ab rfl (by omega) (by omega)) ?_
   refine Aa rfl (Ae (Ad)) ?_
   refine Ah <| Ac ⟨_, m - 1, Off.eq (Dx rfl <| ou2 rfl <| D0 rfl <| Be), by omega, ?_⟩
   exact ⟨k + 1, by omega, (Ad), _, _, (Ar rfl <| Al rfl <| Ad), by rw [List.range_succ]; exact ho2, rfl⟩
  ·
   refine Af <| Af <| Ai fun ds => Aa rfl (Ag (At rfl hs8)) ?_
   refine Aa rfl (Ag (Al rfl <| Ak rfl <| A1 rfl <| Ar rfl <| Al rfl <| Aj rfl)) ?_
   refine Aa rfl (Bv (Al rfl <| Ad) (Ad)) ?_
   refine Ah <| Ac <| Ao (Ad) (by first | rfl | exact decide_eq_false (by omega)) ?_
   obtain rfl : many = k := by omega
   refine Cx (σ := ⟨_, _⟩) (by rfl) ho (.s <| .z) .last fun F7 hF8 hz9 => ?_
   replace hxs := hxs.mono hF8
   replace hle0 := Heap.le_trans hle0 hF8
   have hlf := ho.sl (fun _ => rfl) hz9 (by omega)
   refine Bp ?_
   refine Bc <| Bc <| Bg <| Ac <| Af <| A0 <| Bt [6, 7, 9, 10, 22, 23, 24, 25, 26, 27, 28, 29, 30, 31, 32, 33, 34, 35, 36, 37, 38, 39, 40, 41, 42, 43, 44, 45, 46, 47, 48, 49, 50, 51, 52, 53, 54, 55, 56, 57, 58, 59, 60, 61, 62, 63, 64, 65, 66, 67, 68, 69, 70, 71] (fun m e σ => ∃ G, F7.le G ∧ ∃ (g : Nat → Int) (taken left : List Nat) (v6 v7 : Value) (R7 : List (Nat × Obj)), m = left.length ∧ e 6 = v6 ∧ e 7 = v7 ∧ Nats G v6 left ∧ Own 3 1 v7 taken.length (taken.flatMap natE) R7 ∧ TreeI many g taken left ∧ σ = ⟨G, (b1, bx 3 ((iL g many).flatMap intE)) :: R7⟩) (many) ?_ ?_
   · exact ⟨_, Heap.le_refl _, fun _ => 0, [], _, _, _, _, List.length_range.symm, (Ar rfl <| Al rfl <| At rfl hs6), (Ar rfl <| Al rfl <| Ak rfl <| Al rfl <| Ad), hlf, Ed, TreeI.start, rfl⟩
   ·
    rintro m2 e2 _ ⟨G, hFG, g, taken, left, v6, v7, R7, rfl, ht6, ht7, hlf, ho, hI, rfl⟩; replace hxs := hxs.mono hFG; replace hle0 := Heap.le_trans hle0 hFG; have hlf9 := hlf.plain.lt; have hlen0 := hI.len
    by_cases hl0 : left.length = 0
    ·
     refine Af <| Af <| Ai fun ds => Aa rfl (Ag (At rfl ht6)) ?_
     refine Aa rfl (Bk Bj (Ad) hlf.plain) ?_
     refine Aa rfl (C8 (Ad) Ab) ?_
     refine Ah <| Ac <| Ao (Ad) (decide_eq_false (by omega)) ?_
     have hle := List.eq_nil_of_length_eq_zero hl0
     subst hle
     refine Bp ?_
     refine Bc <| Bc <| Bg <| Ac <| Af <| Cb (i := 0) rfl hb1 (.here) fun F11 hF12 hz5 => ?_
     refine Ai fun ds => Aa rfl (Ag (Ar rfl <| Al rfl <| Ak rfl <| Ar rfl <| Al rfl <| Ak rfl <| Ar rfl <| Al rfl <| Ad)) ?_
     refine Aa rfl (Ae (Ad)) ?_
     refine Ah <| Ac <| A2 <| Au rfl (.tmp (Ad) .nil) ?_
     refine ⟨iL g many, sl_box hz5 rfl C6 (fun _ => rfl) (by omega), C6, ?_⟩
     exact hI.tree hm0
    ·
     refine Af <| Af <| Ai fun ds => Aa rfl (Ag (At rfl ht6)) ?_
     refine Aa rfl (Bk Bj (Ad) hlf.plain) ?_
     refine Aa rfl (C8 (Ad) Ab) ?_
     refine Ah <| Ac <| Aq (Ad) (decide_eq_true (by omega)) ?_
     have hkk : (turnN xs taken.length % left.length) < left.length := Nat.mod_lt _ (by omega)
     have hil := hI.lt hkk
     have hlen := hI.len
     have ht1 : turnN xs taken.length < 256 := turnN_lt hxb
     have ht2 : turnN xs (many + taken.length) < 256 := turnN_lt hxb
     refine Ax <| Ac <| A0 <| Af <| Ai fun ds => Aa rfl (Ag (Ar rfl <| Al rfl <| Ak rfl <| Ar rfl <| Al rfl <| Ak rfl <| A1 rfl <| Ar rfl <| Al rfl <| Aj rfl)) ?_
     refine Aa rfl (Ag (A1 rfl <| At rfl ht7)) ?_
     refine Aa rfl (Bk Bj (Ad) (ho.plain (by omega))) ?_
     refine Bw rfl (Bb bd_96 Az (.cons (Ar rfl <| Ad) (.cons (Ad) .nil)) (turn_ok hxs hxb rfl) (fun _ _ h => h)) ?_
     refine Aa rfl (Ag (A1 rfl <| Ar rfl <| Al rfl <| At rfl ht6)) ?_
     refine Aa rfl (Bk Bj (Ad) hlf.plain) ?_
     refine Aa rfl (q_rem (Ar rfl <| Ad) (Ad) (Int.natCast_nonneg _) (by omega)) ?_
     refine Aa rfl (Ae (Ad)) ?_
     refine Ah <| Ac <| Af <| Ai fun ds => Aa rfl (Ag (A7 rfl <| Ar rfl <| Al rfl <| At rfl ht6)) ?_
     refine Aa rfl (Ag (Al rfl <| Ad)) ?_
     refine Aa rfl (Bf (k := (turnN xs taken.length % left.length)) Bj (Al rfl <| Ad) hlf.plain (Ad) (by omega) hkk) ?_
     refine Aa rfl (Ap Bl (Ad) (hlf.cell1 hkk rfl)) ?_
     refine Aa rfl (Ae (Ad)) ?_
     refine Ah <| Ac <| Af ?_
     have hleS := hle0
     refine Cv (.inl rfl) (fun _ _ h => h) (.cons_cons _ <| .refl _) [] (by kernel_rfl) fun ds => ?_
     refine A4 1 rfl (by kernel_rfl) (by kernel_rfl) (by kernel_rfl) (by kernel_rfl) rfl rfl (fun _ h => h.drop (.cons_cons _ <| .refl _)) (fun _ _ _ h => h) (Ag (A5 rfl <| At rfl ht6)) ?_
     refine A4 2 rfl (by kernel_rfl) (by kernel_rfl) (by kernel_rfl) (by kernel_rfl) rfl rfl (fun _ h => h.drop (.cons_cons _ <| .refl _)) (fun _ _ _ h => h) (Ag (A1 rfl <| Ar rfl <| Ad)) ?_
     refine A4 3 rfl (by kernel_rfl) (by kernel_rfl) (by kernel_rfl) (by kernel_rfl) rfl rfl (fun _ h => h.drop (.cons_cons _ <| .refl _)) (fun _ _ _ h => h) (q_sliceTo Bj (Al rfl <| Ad) hlf.plain (Ad) (k := (turnN xs taken.length % left.length)) (by omega) (by omega)) ?_
     refine A4 5 rfl (by kernel_rfl) (by kernel_rfl) (by kernel_rfl) (by kernel_rfl) rfl rfl (fun _ h => h.drop (.cons_cons _ <| .refl _)) (fun _ _ _ h => h) (Ag (A5 rfl <| Ar rfl <| Al rfl <| At rfl ht6)) ?_
     refine A4 6 rfl (by kernel_rfl) (by kernel_rfl) (by kernel_rfl) (by kernel_rfl) rfl rfl (fun _ h => h.drop (.cons_cons _ <| .refl _)) (fun _ _ _ h => h) (Ag (A7 rfl <| Al rfl <| Ad)) ?_
     refine A4 7 rfl (by kernel_rfl) (by kernel_rfl) (by kernel_rfl) (by kernel_rfl) rfl rfl (fun _ h => h.drop (.cons_cons _ <| .refl _)) (fun _ _ _ h => h) (Bu (Ad) Ab rfl (by omega) (by omega)) ?_
     refine A4 8 rfl (by kernel_rfl) (by kernel_rfl) (by kernel_rfl) (by kernel_rfl) rfl rfl (fun _ h => h.drop (.cons_cons _ <| .refl _)) (fun _ _ _ h => h) (q_sliceFrom Bj (Ar rfl <| Ad) hlf.plain (Ad) (k := (turnN xs taken.length % left.length) + 1) (by omega) (by omega)) ?_
     refine WX_x 0 rfl (by kernel_rfl) rfl (x_build0 Bj fun b13 hb13 nb13 => ⟨fun _ _ => (fun _ h => h.drop (.cons _ <| .cons_cons _ <| .refl _)), ?_⟩)
     refine WX_x 4 rfl (by kernel_rfl) rfl (Cr Bj el_3 (Ad) (own_box rfl) (A1 rfl <| Al rfl <| Ad) ((hlf.to (k := (turnN xs taken.length % left.length)) (by omega)).src (fun _ => rfl) natE_one) (by rw [List.length_take]; omega) (by rw [List.length_take]; omega) (.z) .box fun v14 R15 ho16 => ⟨fun _ _ => (fun _ h => h.drop (List.sublist_append_of_sublist_right <| .cons_cons _ <| .refl _)), ?_⟩)
     refine WX_x 9 rfl (by kernel_rfl) rfl (Cr Bj el_3 (Ad) ho16 (Ar rfl <| Ad) ((hlf.from (k := (turnN xs taken.length % left.length) + 1) (by omega)).src (fun _ => rfl) natE_one) (by rw [List.length_take, List.length_drop]; omega) (by rw [List.length_take, List.length_drop]; omega) (.z) .more fun v17 R18 ho19 => ⟨fun _ _ => (fun _ h => h.drop (List.sublist_append_of_sublist_right <| .cons_cons _ <| .refl _)), ?_⟩)
     have ho45 : Own 3 1 v17 (left.eraseIdx (turnN xs taken.length % left.length)).length ((left.eraseIdx (turnN xs taken.length % left.length)).flatMap natE) R18 := by rw [List.eraseIdx_eq_take_drop_succ]; simpa using ho19
     refine A4 10 rfl (by kernel_rfl) (by kernel_rfl) (by kernel_rfl) (by kernel_rfl) rfl rfl (fun _ h => h.drop (List.sublist_append_of_sublist_right <| .cons_cons _ <| .refl _)) (fun _ _ _ h => h) (Ae (Ad)) ?_
     refine Cz (by kernel_rfl) ?_ _
     refine Ac <| Af <| Cx (σ := ⟨_, _⟩) (by rfl) ho45 (.z) .more fun F20 hF21 hz22 => ?_
     replace hxs := hxs.mono hF21
     replace hFG := Heap.le_trans hFG hF21
     refine WC_pickB (.one (.skip <| .here) <| .lastb (.lastS)) ?_
     have hlf2 := ho45.sl (fun _ => rfl) hz22 (by rw [List.length_eraseIdx_of_lt hkk]; omega)
     refine Ai fun ds => Aa rfl (Ag (A5 rfl <| A7 rfl <| Ar rfl <| Al rfl <| Ak rfl <| Ar rfl <| Al rfl <| Ak rfl <| Ar rfl <| Al rfl <| Ad)) ?_
     refine Aa rfl (Ag (A7 rfl <| A1 rfl <| Ad)) ?_
     refine Aa rfl (Bf (k := left[(turnN xs taken.length % left.length)]) Bj (Al rfl <| Ad) (plain_row (Nat.le_refl _) (by omega)) (Ad) rfl hil) ?_
     refine Ch (x_storeK sz_3 (Ad) row_addr Ab (i := 0) rfl (by rw [iL_len1]; omega) rfl (.here) ?_)
     refine Ah <| Ac <| Af <| Af ?_
     rw [iL_set hil]
     by_cases ht0 : taken.length = 0
     ·
      refine Ai fun ds => Aa rfl (Ag (A5 rfl <| A7 rfl <| A1 rfl <| Ar rfl <| At rfl ht7)) ?_
      refine Aa rfl (Bk Bj (Ad) (ho.plain (by omega))) ?_
      refine Aa rfl (C8 (Ad) Ab) ?_
      refine Ah <| Ac <| Ao (Ad) (decide_eq_false (by omega)) ?_
      refine Ax <| Ac <| Ai fun ds => Aa rfl (Ag (Bm rfl <| Al rfl <| At rfl ht7)) ?_
      refine Aa rfl (Ag (A5 rfl <| Ar rfl <| Ad)) ?_
      refine Bi rfl (B5 Bj C9 rfl (.cons (Ad) .nil) rfl rfl (by decide) (by simp [Value.oneCell']) fun b23 hb23 nb23 => ?_)
      refine Bi rfl (Cr Bj el_3 (Ar rfl <| Ad) ho (Ad) (Dk (s := 1) 0 rfl rfl (by simp [Value.oneCell'])) (by omega) (by omega) (.s <| .s <| .z) .last fun v24 R25 ho26 => ?_)
      have ho9 := ho26.snoc (x := left[(turnN xs taken.length % left.length)]) rfl rfl
      refine WL_orderB (.one (.next <| .here) <| .lastb (.next <| .last)) ?_
      refine Aa rfl (Ae (Ad)) ?_
      refine Ah <| Ba ?_
      refine Ac ⟨_, (left.eraseIdx (turnN xs taken.length % left.length)).length, Off.eq (ou32 rfl <| D8 rfl <| ou2 rfl <| Be), (by rw [List.length_eraseIdx_of_lt hkk]; omega), ?_⟩
      refine ⟨_, hFG, updI g left[(turnN xs taken.length % left.length)] (-1), _, _, _, _, _, rfl, (A7 rfl <| Ar rfl <| Al rfl <| Ad), (Ad), hlf2, ho9, hI.step hkk updI_ne (fun h => updI_eq) (fun h => absurd h (by omega)), rfl⟩
     ·
      have hqq : (turnN xs (many + taken.length) / 2 % taken.length) < taken.length := Nat.mod_lt _ (by omega)
      refine Ai fun ds => Aa rfl (Ag (A5 rfl <| A7 rfl <| A1 rfl <| Ar rfl <| At rfl ht7)) ?_
      refine Aa rfl (Bk Bj (Ad) (ho.plain (by omega))) ?_
      refine Aa rfl (C8 (Ad) Ab) ?_
      refine Ah <| Ac <| Aq (Ad) (decide_eq_true (by omega)) ?_
      refine Ai fun ds => Aa rfl (Ag (Bm rfl <| Al rfl <| Ak rfl <| Ar rfl <| Al rfl <| Ak rfl <| Ar rfl <| Al rfl <| Ad)) ?_
      refine Aa rfl (Ag (A5 rfl <| Ar rfl <| Ad)) ?_
      refine Aa rfl (Ag (Bm rfl <| Ar rfl <| Al rfl <| At rfl ht7)) ?_
      refine Aa rfl (Ag (Bm rfl <| A1 rfl <| Ak rfl <| Ar rfl <| Al rfl <| Ak rfl <| A1 rfl <| Ar rfl <| Al rfl <| Aj rfl)) ?_
      refine Aa rfl (Ag (Bm rfl <| A1 rfl <| Al rfl <| Ak rfl <| Ar rfl <| Al rfl <| Ak rfl <| A1 rfl <| Ar rfl <| Al rfl <| Aj rfl)) ?_
      refine Aa rfl (Ag (Bm rfl <| A1 rfl <| Ar rfl <| At rfl ht7)) ?_
      refine Aa rfl (Bk Bj (Ad) (ho.plain (by omega))) ?_
      refine Aa rfl (Bu (Ar rfl <| Ad) (Ad) rfl (by omega) (by omega)) ?_
      refine Bw rfl (Bb bd_96 Az (.cons (A1 rfl <| Ad) (.cons (Ad) .nil)) (turn_ok hxs hxb (n := many + taken.length) (by push_cast; rfl)) (fun _ _ h => h)) ?_
      refine Aa rfl (q_quo (Ad) Ab (Int.natCast_nonneg _) (by omega) (by decide)) ?_
      refine Aa rfl (Ag (Bm rfl <| A7 rfl <| Ar rfl <| Al rfl <| At rfl ht7)) ?_
      refine Aa rfl (Bk Bj (Ad) (ho.plain (by omega))) ?_
      refine Aa rfl (q_rem (Ar rfl <| Ad) (Ad) (by omega) (by omega)) ?_
      refine Aa rfl (Bf (k := (turnN xs (many + taken.length) / 2 % taken.length)) Bj (A7 rfl <| Ar rfl <| Ad) (ho.plain (by omega)) (Ad) (by push_cast; rfl) hqq) ?_
      refine Aa rfl (Ap Bl (Ad) (own_cell ho (fun p hp => .tail _ (hp)) (nat_get hqq))) ?_
      refine Aa rfl (Bf (k := left[(turnN xs taken.length % left.length)]) Bj (A7 rfl <| A1 rfl <| Ar rfl <| Ad) (plain_row (Nat.le_refl _) (by omega)) (A7 rfl <| A1 rfl <| Al rfl <| Ad) rfl hil) ?_
      refine Ch (x_storeK sz_3 (Ad) row_addr (Al rfl <| Ad) (i := 0) rfl (by rw [iL_len1]; omega) rfl (.here) ?_)
      refine Ah <| Ac ?_
      rw [iL_set hil, set_one]
      refine Ai fun ds => Aa rfl (Ag (Bm rfl <| A5 rfl <| Al rfl <| At rfl ht7)) ?_
      refine Aa rfl (Ag (Bm rfl <| Ar rfl <| Ad)) ?_
      refine Bi rfl (B5 Bj C9 rfl (.cons (Ad) .nil) rfl rfl (by decide) (by simp [Value.oneCell']) fun b27 hb27 nb27 => ?_)
      refine Bi rfl (Cr Bj el_3 (Ar rfl <| Ad) ho (Ad) (Dk (s := 1) 0 rfl rfl (by simp [Value.oneCell'])) (by omega) (by omega) (.s <| .s <| .z) .last fun v28 R29 ho30 => ?_)
      have ho9 := ho30.snoc (x := left[(turnN xs taken.length % left.length)]) rfl rfl
      refine WL_orderB (.one (.next <| .here) <| .lastb (.next <| .last)) ?_
      refine Aa rfl (Ae (Ad)) ?_
      refine Ah <| Ba ?_
      refine Ac ⟨_, (left.eraseIdx (turnN xs taken.length % left.length)).length, Off.eq (ou32 rfl <| C4 rfl <| D8 rfl <| ou2 rfl <| Be), (by rw [List.length_eraseIdx_of_lt hkk]; omega), ?_⟩
      refine ⟨_, hFG, updI g left[(turnN xs taken.length % left.length)] (taken[(turnN xs (many + taken.length) / 2 % taken.length)] : Int), _, _, _, _, _, rfl, (A5 rfl <| A7 rfl <| Ar rfl <| Al rfl <| Ad), (Ad), hlf2, ho9, hI.step hkk updI_ne (fun h => absurd h ht0) (fun h => ⟨_, hqq, updI_eq⟩), rfl⟩
end Go.Proofs.Ytccogmkhijgelaa
namespace Go.Proofs.Ytccogmkhijgelaa
theorem tree_err0 {s : Stm} {l : List Int} (h0 : (checkT s).2.2 = 0) (hl : l.length = s.editions.length) (ht : IsTree l) : treeErr s l = 0 := by
 have h1 : trTo s l l.length = 0 := by
   unfold trTo
   rw [gTo_ok (treeZ_ok h0 hl), List.take_length, if_neg]
   intro h
   rw [List.any_eq_true] at h
   obtain ⟨x, hx, hb⟩ := h
   obtain ⟨i, hi, rfl⟩ := List.getElem_of_mem hx
   have := ht.in_ i hi
   rw [up_at hi] at hb
   simp [inT, inB] at hb
   omega
 rw [treeErr_in h1, ht.isT]; rfl
theorem cost_nofit {s : Stm} {l : List Int} (h : fitsT s l = false) : costL s l = 1000 := by unfold costL; unfold fitsT at h; rw [h]; rfl
theorem fit_of_cost {s : Stm} {l : List Int} (h : costL s l < 1000) : fitsT s l = true := by
 cases hf : fitsT s l with
 | true => rfl
 | false => rw [cost_nofit hf] at h; omega
section
variable {s : Stm} {l : List Int}
end
def apartTo (s : Stm) (l : List Int) : Nat → Int
 | 0 => 0
 | k + 1 => if upN l k = -1 then apartTo s l k else apartTo s l k + ((apartL s (upN l k).toNat k).length : Nat)
def knownTo (s : Stm) (k p : Nat) : Bool := ((List.range k).all fun i => (List.range s.places.length).all fun q => decide (0 < s.r i q)) && (List.range p).all fun q => decide (0 < s.r k q)
theorem known_start {s : Stm} : knownTo s 0 0 = true := by simp [knownTo]
theorem known_place {s : Stm} {k p : Nat} : knownTo s k (p + 1) = (knownTo s k p && decide (0 < s.r k p)) := by
 unfold knownTo; rw [List.range_succ (n := p), List.all_append]; simp [Bool.and_assoc]
theorem known_next {s : Stm} {k : Nat} : knownTo s (k + 1) 0 = knownTo s k s.places.length := by
 unfold knownTo; rw [List.range_succ (n := k), List.all_append]; simp
theorem known_all {s : Stm} {k : Nat} (h : knownTo s k 0 = true) : ∀ i p, i < k → p < s.places.length → 0 < s.r i p := by
 unfold knownTo at h
 simp only [Bool.and_eq_true, List.all_eq_true, List.mem_range, decide_eq_true_eq] at h
 exact fun i p hi hp => h.1 i hi p hp
theorem eds_zero {s : Stm} {a b : Nat} (h0 : (checkT s).2.2 = 0) (ha : a < s.editions.length) (hb : b < s.editions.length) : edsErr s (a : Int) (b : Int) = 0 := eds_ok h0 (by simp [inB]; omega) (by simp [inB]; omega)
theorem differ_swap {s : Stm} {a b p : Nat} : differB s a b p = differB s b a p := by
 unfold differB
 rw [Bool.eq_iff_iff]
 simp only [Bool.and_eq_true, decide_eq_true_eq]
 constructor
 · rintro ⟨h1, h2, h3⟩; exact ⟨h2, h1, fun h => h3 h.symm⟩
 · rintro ⟨h1, h2, h3⟩; exact ⟨h2, h1, fun h => h3 h.symm⟩
theorem apart_swap {s : Stm} {a b : Nat} : apartL s a b = apartL s b a := by
 unfold apartL selN
 congr 1
 funext p
 exact differ_swap
def oneOf (b : Bool) : Int := if b = true then 1 else 0
theorem apart_len {s : Stm} {a b : Nat} : ((apartL s a b).length : Int) = sumN s.places.length fun p => oneOf (differB s a b p) := by
 unfold apartL
 generalize s.places.length = n
 induction n with
 | zero => rfl
 | succ n ih =>
   rw [Dr]
   simp only [sumN]
   rw [← ih]
   unfold oneOf
   split <;> simp
theorem apartTo_succ {s : Stm} {l : List Int} {k : Nat} : apartTo s l (k + 1) = if upN l k = -1 then apartTo s l k else apartTo s l k + ((apartL s (upN l k).toNat k).length : Nat) := rfl
/-- Of one place. -/
def apP (s : Stm) (l : List Int) (p k : Nat) : Int := if upN l k = -1 then 0 else oneOf (differB s (upN l k).toNat k p)
theorem apartTo_sum {s : Stm} {l : List Int} : ∀ k, apartTo s l k = sumN s.places.length fun p => sumN k (apP s l p)
 | 0 => by simp only [apartTo, sumN]; exact sumN_zero.symm
 | k + 1 => by
   have ih := apartTo_sum (s := s) (l := l) k
   have e : (sumN s.places.length fun p => sumN (k + 1) (apP s l p)) = apartTo s l k + sumN s.places.length fun p => apP s l p k := by rw [ih, ← sumN_add]; rfl
   rw [e, apartTo_succ]
   by_cases h : upN l k = -1
   · rw [if_pos h, Cm (g := fun _ => 0) fun p _ => by unfold apP; rw [if_pos h], sumN_zero]; omega
   · rw [if_neg h, apart_len, Cm (f := fun p => apP s l p k) (g := fun p => oneOf (differB s (upN l k).toNat k p)) fun p _ => by unfold apP; rw [if_neg h]]
theorem apart_chg {s : Stm} {l : List Int} {p : Nat} {g : Nat → Int} (hin : TreeIn l) (hf : Filling s l p g) {k : Nat} (hk : k < l.length) : apP s l p k ≤ chg l g k := by
 unfold apP chg
 by_cases h : upN l k = -1
 · rw [if_pos h, if_pos h]; exact Int.le_refl _
 · rw [if_neg h, if_neg h]
   obtain ⟨j, hj, hjl⟩ := hin.nat hk h
   rw [hj, Int.toNat_natCast]
   unfold oneOf
   split
   · rename_i hd
     unfold differB at hd
     simp only [Bool.and_eq_true, decide_eq_true_eq] at hd
     have h1 := hf.fit j hjl
     have h2 := hf.fit k hk
     unfold fitR at h1 h2
     rw [if_neg (by omega)]; exact Int.le_refl _
   · split <;> omega
theorem apart_chg_eq {s : Stm} {l : List Int} {p : Nat} {g : Nat → Int} (hin : TreeIn l) (hf : Filling s l p g) (hk0 : ∀ i, i < l.length → 0 < s.r i p) {k : Nat} (hk : k < l.length) : apP s l p k = chg l g k := by
 unfold apP chg
 by_cases h : upN l k = -1
 · rw [if_pos h, if_pos h]
 · rw [if_neg h, if_neg h]
   obtain ⟨j, hj, hjl⟩ := hin.nat hk h
   rw [hj, Int.toNat_natCast]
   have h1 := hf.fit j hjl
   have h2 := hf.fit k hk
   have h3 := hk0 j hjl
   have h4 := hk0 k hk
   unfold fitR at h1 h2
   unfold oneOf differB
   rw [decide_eq_true h3, decide_eq_true h4]
   simp only [Bool.true_and, decide_eq_true_eq]
   by_cases h5 : g j = g k
   · rw [if_pos h5, if_neg (by omega)]
   · rw [if_neg h5, if_pos (by omega)]
theorem cost_sum {s : Stm} {l : List Int} (h : costL s l < 1000) : costL s l = sumN s.places.length (leastL s l) ∧ ∀ p, p < s.places.length → leastL s l p < 1000 := by
 have hf := fit_of_cost h
 unfold fitsT at hf
 unfold costL at h ⊢
 rw [if_pos hf] at h ⊢
 refine ⟨by omega, fun p hp => ?_⟩
 have := sumN_mem (n := s.places.length) (i := p) (f := leastL s l) (fun i _ => least_bound.1) hp
 omega
theorem least_some {s : Stm} {l : List Int} {p : Nat} (hl : l.length = s.editions.length) (h : leastL s l p < 1000) : ∃ g, Filling s l p g ∧ Possible s l p g ∧ changesOf l g = leastL s l p := by
 rcases foldmin_or (f := countL s l p) (l := allFill s p) (m := 1000) with h1 | ⟨x, hx, h1⟩
 · have : leastL s l p = 1000 := h1
   omega
 · have h2 : leastL s l p = countL s l p x := h1
   have h3 := ((allFill_mem hl).1 hx).2
   rw [h2] at h
   unfold countL at h h2
   split at h
   · rename_i h4
     rw [if_pos h4] at h2
     exact ⟨_, h3, possB_iff.1 h4, h2.symm⟩
   · omega
/-- P7.11. -/
theorem apart_cost {s : Stm} {l : List Int} (ht : IsTree l) (hl : l.length = s.editions.length) (h : costL s l < 1000) : apartTo s l l.length ≤ costL s l ∧ ((∀ i p, i < l.length → p < s.places.length → 0 < s.r i p) → apartTo s l l.length = costL s l) := by
 obtain ⟨h1, h2⟩ := cost_sum h
 rw [h1, apartTo_sum]
 constructor
 · refine sumN_le fun p hp => ?_
   obtain ⟨g, hf, -, h3⟩ := least_some hl (h2 p hp)
   rw [← h3]
   exact sumN_le fun k hk => apart_chg ht.in_ hf hk
 · intro hk0
   refine Cm fun p hp => ?_
   obtain ⟨g, hf, -, h3⟩ := least_some hl (h2 p hp)
   rw [← h3]
   exact Cm fun k hk => apart_chg_eq ht.in_ hf (fun i hi => hk0 i p hi hp) hk
theorem apartTo_bound {s : Stm} {l : List Int} : ∀ k, 0 ≤ apartTo s l k ∧ apartTo s l k ≤ k * (s.places.length : Int)
 | 0 => by simp [apartTo]
 | k + 1 => by
   have ih := apartTo_bound (s := s) (l := l) k
   have h2 : (apartL s (upN l k).toNat k).length ≤ s.places.length := Dd
   have h3 : ((k + 1 : Nat) : Int) * (s.places.length : Int) = (k : Int) * s.places.length + s.places.length := by push_cast; rw [Int.add_mul, Int.one_mul]
   rw [h3]
   rw [apartTo_succ]
   split <;> omega
end Go.Proofs.Ytccogmkhijgelaa
namespace Go.Proofs.Ytccogmkhijgelaa
open Go.RowKit
theorem bd_40 : Body Try.prog 40 := Bo (by kernel_rfl)
theorem bd_41 : Body Try.prog 41 := Bo (by kernel_rfl)
end Go.Proofs.Ytccogmkhijgelaa
namespace Go.Proofs.Ytccogmkhijgelaa
open Go.RowKit
set_option maxRecDepth 100000 in
theorem apartLaw_ok {F : Heap} {vp ve : Value} {ps : List (Value × Edn)} {s : Stm} (hr : StmR F vp ve ps s) {vx : Value} {xs : List Nat} (hxs : Sl F vx 1 u8E xs) (hxb : ∀ x ∈ xs, x < 256) : Ok Try.prog 10 [.agg #[vp, ve], vx].toArray F fun u _ => u = .bool true := by
 have hle0 : F.le F := Heap.le_refl _
 refine Ok.intro Try.func10 rfl Try.ntmps10 rfl fun w0 => ?_
 have hL1 := hr.eds.plain.lt
 have hL2 := hr.places.plain.lt
 have hlen := hr.len
 by_cases h0 : (checkT s).2.2 = 0
 ·
  have hv := Di h0
  have hne := hv.ne
  have hnp := hv.np
  refine Af <| Ai fun ds => Bi rfl (B3 (Aj rfl) rfl fun b1 hb1 nb1 => ?_)
  refine Aa rfl (Ae Ab) ?_
  refine Ah <| Ac <| Af <| Af <| Ai fun ds => Aa rfl (A9 B6 (Al rfl <| Ad) rfl rfl (A6 0 rfl)) ?_
  refine Bw rfl (Bb bd_40 Az (.cons (Ad) .nil) (valid_ok hr) (fun _ _ h => h)) ?_
  refine Aa rfl (Cl (Ad)) ?_
  refine Ah <| Ac <| Ao (Ad) (by simp [h0]) ?_
  refine Ax <| Ac <| Af <| Ai fun ds => Aa rfl (Am Br (A1 rfl <| Ad)) ?_
  refine Aa rfl (Ap B0 (Ad) (Cell.own 0 rfl rfl)) ?_
  refine Aa rfl (Bk B7 (Ad) hr.eds.plain) ?_
  refine Aa rfl (Ag (A7 rfl <| Aj rfl)) ?_
  refine Bi rfl (Cj bd_41 Az (.cons (Al rfl <| Ad) (.cons (Ad) .nil)) (tree_ok7 hxs hxb (many := ps.length) (by omega) (by omega)) fun v2 F3 hr4 hF5 => ?_)
  replace hr := hr.mono hF5
  replace hle0 := Heap.le_trans hle0 hF5
  obtain ⟨l, hl, hll0, ht⟩ := hr4
  have hll : l.length = s.editions.length := by omega
  have hok := tree_err0 h0 hll ht
  refine Aa rfl (Ae (Ad)) ?_
  refine Ah <| Ac <| Af ?_
  have hcb := costL_bound (s := s) (l := l)
  refine Ai fun ds => Aa rfl (Ae Ab) ?_
  refine Aa rfl (Ae Ab) ?_
  refine Ah <| Ac <| Af <| Af <| Ai fun ds => Aa rfl (Ae Ab) ?_
  refine Ah <| Ac <| A0 <| Bt [4, 8, 9, 10, 11, 12, 13, 14, 15, 36, 37, 38, 39, 40, 41, 42, 43, 44, 45, 46, 47, 48, 49, 50, 51, 52, 53, 54, 55, 56, 57, 58, 59, 60, 61, 62, 63, 64, 65, 66, 67, 68, 69, 70, 71, 72, 73, 74, 75, 76, 77, 78, 79, 80, 81, 82, 83, 84, 85, 86, 87, 88, 89, 90, 91, 92, 93, 94, 95, 96, 97, 98, 99, 100, 101, 102] (fun m e σ => ∃ G, F3.le G ∧ ∃ i : Nat, m + i = l.length ∧ e 10 = .int .i64 (i : Int) ∧ e 8 = .int .i64 (apartTo s l i) ∧ e 9 = .bool (knownTo s i 0) ∧ σ = ⟨G, [(b1, bx 25 [vp, ve])]⟩) (l.length) ?_ ?_
  · exact ⟨_, Heap.le_refl _, 0, by omega, (Ad), (Ar rfl <| Ad), ((Al rfl <| Ad)).trans (by rw [known_start]), rfl⟩
  ·
   rintro m e _ ⟨G, hFG, i, hm, hs10, hs8, hs9, rfl⟩; replace hr := hr.mono hFG; replace hl := hl.mono hFG; replace hle0 := Heap.le_trans hle0 hFG
   by_cases hlt : i < l.length
   ·
    have hil := hlt
    have hab := apartTo_bound (s := s) (l := l) i
    have hab2 : (i : Int) * (s.places.length : Int) ≤ 5 * 6 := by refine Int.le_trans (Int.mul_le_mul_of_nonneg_left (show (s.places.length : Int) ≤ 6 by omega) (by omega)) (Int.mul_le_mul_of_nonneg_right (by omega) (by decide))
    refine Af <| Af <| Ai fun ds => Aa rfl (Ag (At rfl hs10)) ?_
    refine Aa rfl (Ag (Al rfl <| Ak rfl <| Ar rfl <| Al rfl <| Ad)) ?_
    refine Aa rfl (Bk Bj (Ad) hl.plain) ?_
    refine Aa rfl (Bv (Ar rfl <| Ad) (Ad)) ?_
    refine Ah <| Ac <| Aq (Ad) (by first | rfl | exact decide_eq_true (by omega)) ?_
    refine Ax <| Ac <| Af <| A0 <| Af <| Af <| Ai fun ds => Aa rfl (Ae Ab) ?_
    refine Ah <| Ac <| A0 <| Bt [9, 11, 42, 43, 44, 45, 46, 47, 48, 49, 50, 51, 52, 53, 54, 55, 56, 57, 58, 59, 60, 61] (fun m e σ => ∃ p : Nat, m + p = s.places.length ∧ e 11 = .int .i64 (p : Int) ∧ e 9 = .bool (knownTo s i p) ∧ σ = ⟨G, [(b1, bx 25 [vp, ve])]⟩) (s.places.length) ?_ ?_
    · exact ⟨0, by omega, (Ad), (A1 rfl <| Al rfl <| At rfl hs9), rfl⟩
    ·
     rintro m2 e2 _ ⟨p, hm2, ht11, ht9, rfl⟩
     by_cases hp : p < s.places.length
     ·
      have hil : i < s.editions.length := by omega
      have hip : i < ps.length := by omega
      have hri := hr.rd hip
      have hpi : p < (s.ed i).rd.length := by rw [hv.rdl i hil]; exact hp
      have er := rdT_at hpi
      refine Af <| Af <| Ai fun ds => Aa rfl (Ag (At rfl ht11)) ?_
      refine Aa rfl (Am Cs (Al rfl <| Ak rfl <| A1 rfl <| Al rfl <| Ak rfl <| A7 rfl <| A1 rfl <| Al rfl <| Ad)) ?_
      refine Aa rfl (Ap C0 (Ad) (Cell.own 0 rfl rfl)) ?_
      refine Aa rfl (Bk C3 (Ad) hr.places.plain) ?_
      refine Aa rfl (Bv (Ar rfl <| Al rfl <| Ad) (Ad)) ?_
      refine Ah <| Ac <| Aq (Ad) (by first | rfl | exact decide_eq_true (by omega)) ?_
      by_cases hkn : knownTo s i p = true
      ·
       refine Ax <| Ac <| Af <| A0 <| Ai fun ds => Aa rfl (Ag (A1 rfl <| Al rfl <| At rfl ht9)) ?_
       refine Aa rfl (Ag (Ad)) ?_
       refine As rfl rfl (Ad) hkn ?_
       refine Aa rfl (Am Br (A1 rfl <| Ar rfl <| Al rfl <| Ak rfl <| A1 rfl <| Al rfl <| Ak rfl <| A7 rfl <| A1 rfl <| Al rfl <| Ad)) ?_
       refine As rfl rfl (Al rfl <| Ad) hkn ?_
       refine Aa rfl (Ap B0 (Ad) (Cell.own 0 rfl rfl)) ?_
       refine As rfl rfl (Ar rfl <| Ad) hkn ?_
       refine Aa rfl (Ag (A7 rfl <| Al rfl <| Ak rfl <| A1 rfl <| Al rfl <| At rfl hs10)) ?_
       refine As rfl rfl (Ar rfl <| Al rfl <| Ad) hkn ?_
       refine Aa rfl (Bf (k := i) B7 (Al rfl <| Ad) hr.eds.plain (Ad) rfl hip) ?_
       refine As rfl rfl (A1 rfl <| Ad) hkn ?_
       refine Aa rfl (Bs Cc (Ad)) ?_
       refine As rfl rfl (A1 rfl <| Al rfl <| Ad) hkn ?_
       refine Aa rfl (Ap Cf (Ad) (hr.eds.cell hip rfl)) ?_
       refine As rfl rfl (A1 rfl <| Ar rfl <| Ad) hkn ?_
       refine Aa rfl (Ag (A7 rfl <| A1 rfl <| Al rfl <| At rfl ht11)) ?_
       refine As rfl rfl (A1 rfl <| Ar rfl <| Al rfl <| Ad) hkn ?_
       refine Aa rfl (Bf (k := p) Bj (Al rfl <| Ad) hri.plain (Ad) rfl hpi) ?_
       refine As rfl rfl (A7 rfl <| Ad) hkn ?_
       refine Aa rfl (Ap Bl (Ad) (hri.cell1 hpi rfl)) ?_
       refine As rfl rfl (A7 rfl <| Al rfl <| Ad) hkn ?_
       refine Aa rfl (C8 (Ad) Ab) ?_
       refine Aa rfl (A3 (A7 rfl <| Ar rfl <| Ad) hkn (Ad)) ?_
       refine Aa rfl (Ae (Ad)) ?_
       refine Ah <| Ba <| Ac <| Ai fun ds => Aa rfl (Ag (A5 rfl <| Ar rfl <| Al rfl <| At rfl ht11)) ?_
       refine Aa rfl (Bu (Ad) Ab rfl (by omega) (by omega)) ?_
       refine Aa rfl (Ae (Ad)) ?_
       refine Ah <| Ac ⟨_, m2 - 1, Off.eq (C4 rfl <| D8 rfl <| ou2 rfl <| Be), by omega, ?_⟩
       exact ⟨p + 1, by omega, (Ad), ((Ar rfl <| Al rfl <| Ad)).trans (by rw [known_place, hkn, er]; rfl), rfl⟩
      ·
       replace hkn : knownTo s i p = false := by simpa using hkn
       refine Ax <| Ac <| Af <| A0 <| Ai fun ds => Aa rfl (Ag (A1 rfl <| Al rfl <| At rfl ht9)) ?_
       refine Aa rfl (Ag (Ad)) ?_
       refine Aw rfl rfl (Ad) (.inl (congrArg Value.bool hkn)) rfl ?_
       refine Aw rfl rfl (Al rfl <| Ad) (.inl (congrArg Value.bool hkn)) rfl ?_
       refine Aw rfl rfl (Ar rfl <| Ad) (.inl (congrArg Value.bool hkn)) rfl ?_
       refine Aw rfl rfl (Ar rfl <| Al rfl <| Ad) (.inl (congrArg Value.bool hkn)) rfl ?_
       refine Aw rfl rfl (A1 rfl <| Ad) (.inl (congrArg Value.bool hkn)) rfl ?_
       refine Aw rfl rfl (A1 rfl <| Al rfl <| Ad) (.inl (congrArg Value.bool hkn)) rfl ?_
       refine Aw rfl rfl (A1 rfl <| Ar rfl <| Ad) (.inl (congrArg Value.bool hkn)) rfl ?_
       refine Aw rfl rfl (A1 rfl <| Ar rfl <| Al rfl <| Ad) (.inl (congrArg Value.bool hkn)) rfl ?_
       refine Aw rfl rfl (A7 rfl <| Ad) (.inl (congrArg Value.bool hkn)) rfl ?_
       refine Aw rfl rfl (A7 rfl <| Al rfl <| Ad) (.inl (congrArg Value.bool hkn)) rfl ?_
       refine Aa rfl (Bd (A7 rfl <| Ar rfl <| Ad) hkn Ab) ?_
       refine Aa rfl (Ae (Ad)) ?_
       refine Ah <| Ba <| Ac <| Ai fun ds => Aa rfl (Ag (A5 rfl <| Ar rfl <| Al rfl <| At rfl ht11)) ?_
       refine Aa rfl (Bu (Ad) Ab rfl (by omega) (by omega)) ?_
       refine Aa rfl (Ae (Ad)) ?_
       refine Ah <| Ac ⟨_, m2 - 1, Off.eq (C4 rfl <| D8 rfl <| ou2 rfl <| Be), by omega, ?_⟩
       exact ⟨p + 1, by omega, (Ad), ((Ar rfl <| Al rfl <| Ad)).trans (by rw [known_place, hkn]; rfl), rfl⟩
     ·
      refine Af <| Af <| Ai fun ds => Aa rfl (Ag (At rfl ht11)) ?_
      refine Aa rfl (Am Cs (Al rfl <| Ak rfl <| A1 rfl <| Al rfl <| Ak rfl <| A7 rfl <| A1 rfl <| Al rfl <| Ad)) ?_
      refine Aa rfl (Ap C0 (Ad) (Cell.own 0 rfl rfl)) ?_
      refine Aa rfl (Bk C3 (Ad) hr.places.plain) ?_
      refine Aa rfl (Bv (Ar rfl <| Al rfl <| Ad) (Ad)) ?_
      refine Ah <| Ac <| Ao (Ad) (by first | rfl | exact decide_eq_false (by omega)) ?_
      obtain rfl : p = s.places.length := by omega
      by_cases hu : upN l i = -1
      ·
       refine Bp ?_
       refine Bc <| Bc <| Bg <| Ac <| Af <| Af <| Ai fun ds => Aa rfl (Ag (A1 rfl <| Al rfl <| Ak rfl <| A1 rfl <| Al rfl <| Ak rfl <| Ar rfl <| Al rfl <| Ad)) ?_
       refine Aa rfl (Ag (A1 rfl <| Ar rfl <| Ak rfl <| A1 rfl <| Al rfl <| At rfl hs10)) ?_
       refine Aa rfl (Bf (k := i) Bj (Al rfl <| Ad) hl.plain (Ad) rfl hil) ?_
       refine Aa rfl (Ap Bl (Ad) (hl.cell1 hil rfl)) ?_
       refine Aa rfl (By (Ad) Ab) ?_
       refine Ah <| Ac <| Aq (Ad) (by rw [up_at hil]; exact decide_eq_true hu) ?_
       refine Bp ?_
       refine Bc (Bg ?_)
       refine Ac <| Ai fun ds => Aa rfl (Ag (A7 rfl <| Ar rfl <| Ak rfl <| A1 rfl <| Al rfl <| At rfl hs10)) ?_
       refine Aa rfl (Bu (Ad) Ab rfl (by omega) (by omega)) ?_
       refine Aa rfl (Ae (Ad)) ?_
       refine Ah <| Ac ⟨_, m - 1, Off.eq (Dx rfl <| D8 rfl <| D0 rfl <| off_in rfl <| D8 rfl <| D0 rfl <| Be), by omega, ?_⟩
       exact ⟨_, hFG, i + 1, by omega, (Ad), ((A7 rfl <| A1 rfl <| Al rfl <| Ak rfl <| A1 rfl <| Al rfl <| At rfl hs8)).trans (by rw [apartTo_succ, if_pos hu]), ((A7 rfl <| A1 rfl <| Al rfl <| At rfl ht9)).trans (by rw [known_next]), rfl⟩
      ·
       obtain ⟨k, hk, hkl⟩ := ht.in_.nat hil hu
       have hlk : l[i] = (k : Int) := by rw [up_at hil, hk]
       have hku : (upN l i).toNat = k := by omega
       have hsl : (apartL s k i).length ≤ s.places.length := Dd
       have hz1 := eds_zero (a := k) (b := i) h0 (by omega) (by omega)
       have hz2 := eds_zero (a := i) (b := k) h0 (by omega) (by omega)
       refine Bp ?_
       refine Bc <| Bc <| Bg <| Ac <| Af <| Af <| Ai fun ds => Aa rfl (Ag (A1 rfl <| Al rfl <| Ak rfl <| A1 rfl <| Al rfl <| Ak rfl <| Ar rfl <| Al rfl <| Ad)) ?_
       refine Aa rfl (Ag (A1 rfl <| Ar rfl <| Ak rfl <| A1 rfl <| Al rfl <| At rfl hs10)) ?_
       refine Aa rfl (Bf (k := i) Bj (Al rfl <| Ad) hl.plain (Ad) rfl hil) ?_
       refine Aa rfl (Ap Bl (Ad) (hl.cell1 hil rfl)) ?_
       refine Aa rfl (By (Ad) Ab) ?_
       refine Ah <| Ac <| Ao (Ad) (by rw [up_at hil]; exact decide_eq_false hu) ?_
       refine Ax <| Ac <| Af ?_
       have hleS := hle0
       refine Cv (.inl rfl) (fun _ _ h => h) (.cons_cons _ <| .refl _) [] (by kernel_rfl) fun ds => ?_
       refine A4 0 rfl (by kernel_rfl) (by kernel_rfl) (by kernel_rfl) (by kernel_rfl) rfl rfl (fun _ h => h.drop (.cons_cons _ <| .refl _)) (fun _ _ _ h => h) (A9 B6 (A7 rfl <| Ar rfl <| Ak rfl <| A1 rfl <| Al rfl <| Ak rfl <| A7 rfl <| A1 rfl <| Al rfl <| Ad) rfl rfl (A6 0 rfl)) ?_
       refine A4 1 rfl (by kernel_rfl) (by kernel_rfl) (by kernel_rfl) (by kernel_rfl) rfl rfl (fun _ h => h.drop (.cons_cons _ <| .refl _)) (fun _ _ _ h => h) (Ag (A7 rfl <| Ar rfl <| Al rfl <| Ak rfl <| A1 rfl <| Al rfl <| Ak rfl <| Ar rfl <| Al rfl <| Ad)) ?_
       refine A4 2 rfl (by kernel_rfl) (by kernel_rfl) (by kernel_rfl) (by kernel_rfl) rfl rfl (fun _ h => h.drop (.cons_cons _ <| .refl _)) (fun _ _ _ h => h) (Ag (A7 rfl <| A1 rfl <| Ak rfl <| A1 rfl <| Al rfl <| At rfl hs10)) ?_
       refine A4 3 rfl (by kernel_rfl) (by kernel_rfl) (by kernel_rfl) (by kernel_rfl) rfl rfl (fun _ h => h.drop (.cons_cons _ <| .refl _)) (fun _ _ _ h => h) (Bf (k := i) Bj (Al rfl <| Ad) hl.plain (Ad) rfl hil) ?_
       refine A4 4 rfl (by kernel_rfl) (by kernel_rfl) (by kernel_rfl) (by kernel_rfl) rfl rfl (fun _ h => h.drop (.cons_cons _ <| .refl _)) (fun _ _ _ h => h) (Ap Bl (Ad) (hl.cell1 hil rfl)) ?_
       refine A4 5 rfl (by kernel_rfl) (by kernel_rfl) (by kernel_rfl) (by kernel_rfl) rfl rfl (fun _ h => h.drop (.cons_cons _ <| .refl _)) (fun _ _ _ h => h) (Ag (A7 rfl <| A1 rfl <| Ar rfl <| Al rfl <| Ak rfl <| A1 rfl <| Al rfl <| At rfl hs10)) ?_
       refine WX_x 6 rfl (by kernel_rfl) rfl (Cj bd_18 Az (.cons (A1 rfl <| Al rfl <| Ad) (.cons (Al rfl <| Ad) (.cons (Ad) .nil))) (Dv hr _ _) fun v8 F9 hr10 hF11 => ⟨fun _ _ _ h => (h.drop (.cons_cons _ <| .refl _)).weak hF11 hleS, ?_⟩)
       replace hr := hr.mono hF11
       replace hl := hl.mono hF11
       replace hFG := Heap.le_trans hFG hF11
       replace hle0 := Heap.le_trans hle0 hF11
       have hap0 := hr10
       rw [hlk, apartE_ok hz1] at hap0
       obtain ⟨hq1_, rfl, hq1⟩ := hap0
       replace hq1 : Nats _ hq1_ (apartL s k i) := hq1
       refine A4 7 rfl (by kernel_rfl) (by kernel_rfl) (by kernel_rfl) (by kernel_rfl) rfl rfl (fun _ h => (h.drop (.cons_cons _ <| .refl _)).weak hF11 hleS) (fun _ _ _ h => h) (Ag (Ad)) ?_
       refine A4 8 rfl (by kernel_rfl) (by kernel_rfl) (by kernel_rfl) (by kernel_rfl) rfl rfl (fun _ h => (h.drop (.cons_cons _ <| .refl _)).weak hF11 hleS) (fun _ _ _ h => h) (Ay (Ad) rfl) ?_
       refine A4 9 rfl (by kernel_rfl) (by kernel_rfl) (by kernel_rfl) (by kernel_rfl) rfl rfl (fun _ h => (h.drop (.cons_cons _ <| .refl _)).weak hF11 hleS) (fun _ _ _ h => h) (Ay (Al rfl <| Ad) rfl) ?_
       refine A4 10 rfl (by kernel_rfl) (by kernel_rfl) (by kernel_rfl) (by kernel_rfl) rfl rfl (fun _ h => (h.drop (.cons_cons _ <| .refl _)).weak hF11 hleS) (fun _ _ _ h => h) (Ae (Al rfl <| Ad)) ?_
       refine A4 11 rfl (by kernel_rfl) (by kernel_rfl) (by kernel_rfl) (by kernel_rfl) rfl rfl (fun _ h => (h.drop (.cons_cons _ <| .refl _)).weak hF11 hleS) (fun _ _ _ h => h) (Ae (Al rfl <| Ad)) ?_
       refine Cz (by kernel_rfl) ?_ _
       refine Ac <| Af ?_
       have hleS := hle0
       refine Cv (.inl rfl) (fun _ _ h => h) (.cons_cons _ <| .refl _) [] (by kernel_rfl) fun ds => ?_
       refine A4 0 rfl (by kernel_rfl) (by kernel_rfl) (by kernel_rfl) (by kernel_rfl) rfl rfl (fun _ h => h.drop (.cons_cons _ <| .refl _)) (fun _ _ _ h => h) (A9 B6 (A5 rfl <| A1 rfl <| Ar rfl <| Ak rfl <| A1 rfl <| Al rfl <| Ak rfl <| A7 rfl <| A1 rfl <| Al rfl <| Ad) rfl rfl (A6 0 rfl)) ?_
       refine A4 1 rfl (by kernel_rfl) (by kernel_rfl) (by kernel_rfl) (by kernel_rfl) rfl rfl (fun _ h => h.drop (.cons_cons _ <| .refl _)) (fun _ _ _ h => h) (Ag (A5 rfl <| A1 rfl <| Ar rfl <| Al rfl <| Ak rfl <| A1 rfl <| Al rfl <| At rfl hs10)) ?_
       refine A4 2 rfl (by kernel_rfl) (by kernel_rfl) (by kernel_rfl) (by kernel_rfl) rfl rfl (fun _ h => h.drop (.cons_cons _ <| .refl _)) (fun _ _ _ h => h) (Ag (A5 rfl <| A7 rfl <| Ak rfl <| A1 rfl <| Al rfl <| Ak rfl <| Ar rfl <| Al rfl <| Ad)) ?_
       refine A4 3 rfl (by kernel_rfl) (by kernel_rfl) (by kernel_rfl) (by kernel_rfl) rfl rfl (fun _ h => h.drop (.cons_cons _ <| .refl _)) (fun _ _ _ h => h) (Ag (A5 rfl <| A7 rfl <| Al rfl <| Ak rfl <| A1 rfl <| Al rfl <| At rfl hs10)) ?_
       refine A4 4 rfl (by kernel_rfl) (by kernel_rfl) (by kernel_rfl) (by kernel_rfl) rfl rfl (fun _ h => h.drop (.cons_cons _ <| .refl _)) (fun _ _ _ h => h) (Bf (k := i) Bj (Al rfl <| Ad) hl.plain (Ad) rfl hil) ?_
       refine A4 5 rfl (by kernel_rfl) (by kernel_rfl) (by kernel_rfl) (by kernel_rfl) rfl rfl (fun _ h => h.drop (.cons_cons _ <| .refl _)) (fun _ _ _ h => h) (Ap Bl (Ad) (hl.cell1 hil rfl)) ?_
       refine WX_x 6 rfl (by kernel_rfl) rfl (Cj bd_18 Az (.cons (A1 rfl <| Al rfl <| Ad) (.cons (A1 rfl <| Ad) (.cons (Ad) .nil))) (Dv hr _ _) fun v12 F13 hr14 hF15 => ⟨fun _ _ _ h => (h.drop (.cons_cons _ <| .refl _)).weak hF15 hleS, ?_⟩)
       replace hFG := Heap.le_trans hFG hF15
       replace hq1 := hq1.mono hF15
       have hap0 := hr14
       rw [hlk, apartE_ok hz2, apart_swap] at hap0
       obtain ⟨hq2_, rfl, hq2⟩ := hap0
       replace hq2 : Nats _ hq2_ (apartL s k i) := hq2
       refine A4 7 rfl (by kernel_rfl) (by kernel_rfl) (by kernel_rfl) (by kernel_rfl) rfl rfl (fun _ h => (h.drop (.cons_cons _ <| .refl _)).weak hF15 hleS) (fun _ _ _ h => h) (Ag (Ad)) ?_
       refine A4 8 rfl (by kernel_rfl) (by kernel_rfl) (by kernel_rfl) (by kernel_rfl) rfl rfl (fun _ h => (h.drop (.cons_cons _ <| .refl _)).weak hF15 hleS) (fun _ _ _ h => h) (Ay (Ad) rfl) ?_
       refine A4 9 rfl (by kernel_rfl) (by kernel_rfl) (by kernel_rfl) (by kernel_rfl) rfl rfl (fun _ h => (h.drop (.cons_cons _ <| .refl _)).weak hF15 hleS) (fun _ _ _ h => h) (Ay (Al rfl <| Ad) rfl) ?_
       refine A4 10 rfl (by kernel_rfl) (by kernel_rfl) (by kernel_rfl) (by kernel_rfl) rfl rfl (fun _ h => (h.drop (.cons_cons _ <| .refl _)).weak hF15 hleS) (fun _ _ _ h => h) (Ae (Al rfl <| Ad)) ?_
       refine A4 11 rfl (by kernel_rfl) (by kernel_rfl) (by kernel_rfl) (by kernel_rfl) rfl rfl (fun _ h => (h.drop (.cons_cons _ <| .refl _)).weak hF15 hleS) (fun _ _ _ h => h) (Ae (Al rfl <| Ad)) ?_
       refine Cz (by kernel_rfl) ?_ _
       refine Ac <| Af <| Af <| Ai fun ds => Aa rfl (Ag (A7 rfl <| A1 rfl <| Ad)) ?_
       refine Aa rfl (B1 (Ad) Ab) ?_
       refine Aa rfl (Ag (Ad)) ?_
       refine As rfl rfl (Ad) (decide_eq_false (fun h => h rfl)) ?_
       refine Aa rfl (Ag (Ar rfl <| Al rfl <| Ad)) ?_
       refine As rfl rfl (Al rfl <| Ad) (decide_eq_false (fun h => h rfl)) ?_
       refine Aa rfl (B1 (Ad) Ab) ?_
       refine Aa rfl (Bd (Ar rfl <| Ad) (decide_eq_false (fun h => h rfl)) (Ad)) ?_
       refine Aa rfl (Ag (Ad)) ?_
       refine As rfl rfl (Ad) (decide_eq_false (fun h => h rfl)) ?_
       refine Aa rfl (Ag (A5 rfl <| A1 rfl <| Ad)) ?_
       refine As rfl rfl (Al rfl <| Ad) (decide_eq_false (fun h => h rfl)) ?_
       refine Aa rfl (Ag (A7 rfl <| Al rfl <| Ad)) ?_
       refine As rfl rfl (Ar rfl <| Ad) (decide_eq_false (fun h => h rfl)) ?_
       refine Bw rfl (Bb bd_20 Az (.cons (Al rfl <| Ad) (.cons (Ad) .nil)) (refInts_ok (Nats.ints hq1) (Nats.ints hq2)) (fun _ _ h => h)) ?_
       refine As rfl rfl (Ar rfl <| Al rfl <| Ad) (decide_eq_false (fun h => h rfl)) ?_
       refine Aa rfl (Cl (Ad)) ?_
       refine Aa rfl (Bd (A1 rfl <| Ad) (decide_eq_false (fun h => h rfl)) (Ad)) ?_
       refine Ah <| Ac <| Ao (Ad) (by rw [decide_eq_true rfl]; rfl) ?_
       refine Ax <| Ac <| Ai fun ds => Aa rfl (Ag (Bm rfl <| A7 rfl <| A1 rfl <| Ar rfl <| Ak rfl <| A1 rfl <| Al rfl <| At rfl hs8)) ?_
       refine Aa rfl (Ag (A5 rfl <| A7 rfl <| Ar rfl <| Ad)) ?_
       refine Aa rfl (Bk Bj (Ad) hq1.plain) ?_
       refine Aa rfl (Bu (Ar rfl <| Ad) (Ad) rfl (by omega) (by omega)) ?_
       refine Aa rfl (Ae (Ad)) ?_
       refine Ah <| Ba <| Ac <| Ai fun ds => Aa rfl (Ag (Bm rfl <| A5 rfl <| Ar rfl <| Al rfl <| Ak rfl <| A1 rfl <| Al rfl <| At rfl hs10)) ?_
       refine Aa rfl (Bu (Ad) Ab rfl (by omega) (by omega)) ?_
       refine Aa rfl (Ae (Ad)) ?_
       refine Ah <| Ac ⟨_, m - 1, Off.eq (ou32 rfl <| C4 rfl <| D8 rfl <| ou2 rfl <| off_in rfl <| D8 rfl <| D0 rfl <| Be), by omega, ?_⟩
       exact ⟨_, hFG, i + 1, by omega, (Ad), ((Ar rfl <| Al rfl <| Ad)).trans (by rw [apartTo_succ, if_neg hu, hku]), ((Bm rfl <| A5 rfl <| A1 rfl <| Ar rfl <| At rfl ht9)).trans (by rw [known_next]), rfl⟩
   ·
    refine Af <| Af <| Ai fun ds => Aa rfl (Ag (At rfl hs10)) ?_
    refine Aa rfl (Ag (Al rfl <| Ak rfl <| Ar rfl <| Al rfl <| Ad)) ?_
    refine Aa rfl (Bk Bj (Ad) hl.plain) ?_
    refine Aa rfl (Bv (Ar rfl <| Ad) (Ad)) ?_
    refine Ah <| Ac <| Ao (Ad) (by first | rfl | exact decide_eq_false (by omega)) ?_
    obtain rfl : i = l.length := by omega
    by_cases hc : costL s l = 1000
    ·
     have hce := changesE_down hok hc
     refine Bp ?_
     refine Bc <| Bc <| Bg <| Ac <| Af <| Ai fun ds => Aa rfl (A9 B6 (A1 rfl <| Ak rfl <| A7 rfl <| A1 rfl <| Al rfl <| Ad) rfl rfl (A6 0 rfl)) ?_
     refine Aa rfl (Ag (A1 rfl <| Al rfl <| Ak rfl <| Ar rfl <| Al rfl <| Ad)) ?_
     refine Bw rfl (Bb bd_21 Az (.cons (Al rfl <| Ad) (.cons (Ad) .nil)) (Eh hr hl) (fun _ _ h => h.trans (show changesEV s l = .tuple #[.int .i64 (changesE s l).1, .int .i64 (changesE s l).2] from rfl))) ?_
     refine Aa rfl (Ag (Ad)) ?_
     refine Aa rfl (Ay (Ad) rfl) ?_
     refine Aa rfl (Ay (Al rfl <| Ad) rfl) ?_
     refine Aa rfl (Ae (Al rfl <| Ad)) ?_
     refine Aa rfl (Ae (Al rfl <| Ad)) ?_
     refine Ah <| Ac <| Af <| Af <| Ai fun ds => Aa rfl (Ag (Ad)) ?_
     refine Aa rfl (B1 (Ad) Ab) ?_
     refine Ah <| Ac <| Aq (Ad) (by rw [hce]; decide) ?_
     refine Af <| Ai fun ds => Aa rfl (Ag (Ar rfl <| Ad)) ?_
     refine Aa rfl (By (Ad) Ab) ?_
     refine Aa rfl (Ag (Ad)) ?_
     refine As rfl rfl (Ad) (by rw [hce]; rfl) ?_
     refine Bw rfl (Bb bd_26 Az .nil awake_ok (fun _ _ h => h)) ?_
     refine Aa rfl (A3 (Al rfl <| Ad) (by rw [hce]; rfl) (Ad)) ?_
     refine Aa rfl (Ae (Ad)) ?_
     refine Ah <| Ac <| A2 <| A8 ?_
     refine Au rfl (.tmp (Ad) .nil) ?_
     rfl
    ·
     have hce := changesE_ok hok hc
     obtain ⟨q1, q2⟩ := apart_cost ht hll (show costL s l < 1000 by omega)
     refine Bp ?_
     refine Bc <| Bc <| Bg <| Ac <| Af <| Ai fun ds => Aa rfl (A9 B6 (A1 rfl <| Ak rfl <| A7 rfl <| A1 rfl <| Al rfl <| Ad) rfl rfl (A6 0 rfl)) ?_
     refine Aa rfl (Ag (A1 rfl <| Al rfl <| Ak rfl <| Ar rfl <| Al rfl <| Ad)) ?_
     refine Bw rfl (Bb bd_21 Az (.cons (Al rfl <| Ad) (.cons (Ad) .nil)) (Eh hr hl) (fun _ _ h => h.trans (show changesEV s l = .tuple #[.int .i64 (changesE s l).1, .int .i64 (changesE s l).2] from rfl))) ?_
     refine Aa rfl (Ag (Ad)) ?_
     refine Aa rfl (Ay (Ad) rfl) ?_
     refine Aa rfl (Ay (Al rfl <| Ad) rfl) ?_
     refine Aa rfl (Ae (Al rfl <| Ad)) ?_
     refine Aa rfl (Ae (Al rfl <| Ad)) ?_
     refine Ah <| Ac <| Af <| Af <| Ai fun ds => Aa rfl (Ag (Ad)) ?_
     refine Aa rfl (B1 (Ad) Ab) ?_
     refine Ah <| Ac <| Ao (Ad) (by rw [hce]; exact decide_eq_false (fun h => h rfl)) ?_
     refine Ax <| Ac <| Af <| Ai fun ds => Aa rfl (Ag (Ar rfl <| Al rfl <| Ad)) ?_
     refine Aa rfl (Ag (A7 rfl <| A1 rfl <| Ar rfl <| Al rfl <| At rfl hs8)) ?_
     refine Aa rfl (Do (Al rfl <| Ad) (Ad)) ?_
     refine Aa rfl (Ag (Ad)) ?_
     refine As rfl rfl (Ad) (by rw [hce]; exact decide_eq_true (by simp only; omega)) ?_
     refine Aa rfl (Ag (A5 rfl <| Ar rfl <| At rfl hs9)) ?_
     refine As rfl rfl (Al rfl <| Ad) (by rw [hce]; exact decide_eq_true (by simp only; omega)) ?_
     refine Aa rfl (Cl (Ad)) ?_
     refine As rfl rfl (Ar rfl <| Ad) (by rw [hce]; exact decide_eq_true (by simp only; omega)) ?_
     refine Aa rfl (Ag (Ad)) ?_
     by_cases hkn : knownTo s l.length 0 = true
     ·
      have q3 := q2 (fun i p hi hp => known_all hkn i p hi hp)
      refine As rfl rfl (Ad) (by rw [hkn]; first | done | rfl) ?_
      refine Aa rfl (Ag (A7 rfl <| Ar rfl <| Ad)) ?_
      refine As rfl rfl (Al rfl <| Ad) (by rw [hkn]; first | done | rfl) ?_
      refine Aa rfl (Ag (A5 rfl <| A1 rfl <| Ar rfl <| At rfl hs8)) ?_
      refine As rfl rfl (Ar rfl <| Ad) (by rw [hkn]; first | done | rfl) ?_
      refine Aa rfl (By (Al rfl <| Ad) (Ad)) ?_
      refine As rfl rfl (A1 rfl <| Ar rfl <| Ad) (by rw [hce]; exact decide_eq_true (by simp only; omega)) ?_
      refine Aa rfl (Bd (Ar rfl <| Al rfl <| Ad) (by rw [hkn]; first | done | rfl) (Ad)) ?_
      refine Aa rfl (A3 (A1 rfl <| Ar rfl <| Al rfl <| Ad) (by rw [hce]; exact decide_eq_true (by simp only; omega)) (Ad)) ?_
      refine Aa rfl (Ag (Ad)) ?_
      refine As rfl rfl (Ad) (by rw [hce]; exact decide_eq_true (by simp only; omega)) ?_
      refine Bw rfl (Bb bd_26 Az .nil awake_ok (fun _ _ h => h)) ?_
      refine Aa rfl (A3 (Al rfl <| Ad) (by rw [hce]; exact decide_eq_true (by simp only; omega)) (Ad)) ?_
      refine Aa rfl (Ae (Ad)) ?_
      refine Ah <| Ac <| A2 <| Au rfl (.tmp (Ad) .nil) ?_
      rfl
     ·
      replace hkn : knownTo s l.length 0 = false := by simpa using hkn
      refine Aw rfl rfl (Ad) (.inl (congrArg Value.bool (by rw [hkn]; first | done | rfl))) rfl ?_
      refine Aw rfl rfl (Al rfl <| Ad) (.inl (congrArg Value.bool (by rw [hkn]; first | done | rfl))) rfl ?_
      refine Aw rfl rfl (Ar rfl <| Ad) (.inl (congrArg Value.bool (by rw [hkn]; first | done | rfl))) rfl ?_
      refine As rfl rfl (A1 rfl <| Ar rfl <| Ad) (by rw [hce]; exact decide_eq_true (by simp only; omega)) ?_
      refine Aa rfl (A3 (Ar rfl <| Al rfl <| Ad) (by rw [hkn]; first | done | rfl) Ab) ?_
      refine Aa rfl (A3 (A1 rfl <| Ar rfl <| Al rfl <| Ad) (by rw [hce]; exact decide_eq_true (by simp only; omega)) (Ad)) ?_
      refine Aa rfl (Ag (Ad)) ?_
      refine As rfl rfl (Ad) rfl ?_
      refine Bw rfl (Bb bd_26 Az .nil awake_ok (fun _ _ h => h)) ?_
      refine Aa rfl (A3 (Al rfl <| Ad) rfl (Ad)) ?_
      refine Aa rfl (Ae (Ad)) ?_
      refine Ah <| Ac <| A2 <| Au rfl (.tmp (Ad) .nil) ?_
      rfl
 ·
  refine Af <| Ai fun ds => Bi rfl (B3 (Aj rfl) rfl fun b16 hb16 nb16 => ?_)
  refine Aa rfl (Ae Ab) ?_
  refine Ah <| Ac <| Af <| Af <| Ai fun ds => Aa rfl (A9 B6 (Al rfl <| Ad) rfl rfl (A6 0 rfl)) ?_
  refine Bw rfl (Bb bd_40 Az (.cons (Ad) .nil) (valid_ok hr) (fun _ _ h => h)) ?_
  refine Aa rfl (Cl (Ad)) ?_
  refine Ah <| Ac <| Aq (Ad) (by simp [h0]) ?_
  refine Af <| Ai fun ds => Aa rfl (A9 B6 (A1 rfl <| Ad) rfl rfl (A6 0 rfl)) ?_
  refine Bi rfl (Cj bd_18 Az (.cons (Ad) (.cons Ab (.cons Ab .nil))) (Dv hr 0 0) fun v17 F18 hr19 hF20 => ?_)
  obtain ⟨va, rfl, hap⟩ := hr19
  refine Aa rfl (Ag (Ad)) ?_
  refine Aa rfl (Ay (Ad) rfl) ?_
  refine Aa rfl (Ay (Al rfl <| Ad) rfl) ?_
  refine Aa rfl (Ae (Al rfl <| Ad)) ?_
  refine Aa rfl (Ae (Al rfl <| Ad)) ?_
  refine Ah <| Ac <| Af <| Ai fun ds => Aa rfl (Ag (Ad)) ?_
  refine Aa rfl (B1 (Ad) Ab) ?_
  refine Aa rfl (Ag (Ad)) ?_
  refine As rfl rfl (Ad) (by rw [apartE_snd, eds_bad h0]; exact decide_eq_true h0) ?_
  refine Bw rfl (Bb bd_26 Az .nil awake_ok (fun _ _ h => h)) ?_
  refine Aa rfl (A3 (Al rfl <| Ad) (by rw [apartE_snd, eds_bad h0]; exact decide_eq_true h0) (Ad)) ?_
  refine Aa rfl (Ae (Ad)) ?_
  refine Ah <| Ac <| A2 <| A8 ?_
  refine Au rfl (.tmp (Ad) .nil) ?_
  rfl
end Go.Proofs.Ytccogmkhijgelaa
namespace Go.Proofs.Ytccogmkhijgelaa
open Go.ChangeShapes Go.WideShapes Go.ChangeAt Go.RowKit
set_option maxRecDepth 100000 in
theorem stemApartLifted (os : Os) (started : os.Started) (H : Type) (enc : TypeId × Value → H) :
   ReturnsInHanded {} Try.checked os 10 .any (Rows.stemApartSpec.pre6 enc Try.prog Try.f10 Rows.stemApartRow.domain false) (Rows.stemApartSpec.post enc Try.prog Try.f10 false true false false) := by
 refine returnsInHanded_of_change_sized (C := Try.checked) ownKnob0 started (by kernel_rfl) Try.func10
   (ChangeSpec.witness6 (enc := enc) (C := Try.checked) false ⟨#[], #[.agg #[.slice none 0 0, .slice none 0 0], .slice none 0 0], []⟩ 8 (by kernel_rfl) (by kernel_rfl) (by kernel_rfl) (by kernel_rfl)) ?_
 intro W base args ds gs before hval0 hW hcnd hsz _
 have hval : ∀ (j : Nat) t v, Try.f10.params[j]? = some t → args[j]? = some v → Value.okWide Try.prog W .any base t v := hval0
 have hW' := hW
 obtain ⟨p, q, hA0, hV, rfl, hfz, hnd⟩ := hW
 have hA : DataW.TrodAll enc Try.prog W 0 (fun _ => true) true Try.f10.params.toList args.toList ds p := hA0
 rw [Try.params10] at hA hval
 obtain ⟨v0, vs0, d0, ds0, p0, q0, hargs, rfl, rfl, h0, r0⟩ := trodAll_cons hA
 obtain ⟨v1, vs1, d1, ds1, p1, q1, rfl, rfl, rfl, h1, r1⟩ := trodAll_cons r0
 obtain ⟨rfl, rfl, rfl⟩ := trodAll_nil r1
 obtain rfl : args = #[v0, v1] := by cases args; simp_all
 obtain ⟨rfl, rfl⟩ := trodVars_none hV
 have hsz' : (DataW.weightsEach Try.prog (Try.f10.params.toList ++ []) ([d0, d1] ++ [])).all (· ≤ reachBytes) = true := hsz
 rw [Try.params10] at hsz'
 have k0 := h0
 have lt0 : ∀ x ∈ p0, x.block < W.heap.size := by obtain ⟨m, hm⟩ := k0; exact DataW.trod_lt m _ _ _ hm
 have k1 := h1
 have lt1 : ∀ x ∈ p1, x.block < W.heap.size := by obtain ⟨m, hm⟩ := k1; exact DataW.trod_lt m _ _ _ hm
 obtain ⟨vp, ve, ps, s, rfl, hr⟩ := arg_stem (hval 0 25 v0 rfl rfl) h0 (weights_at hsz' (j := 0) rfl rfl)
 obtain ⟨xs, hxs, hxb⟩ := arg_bytes (hval 1 50 v1 rfl rfl) h1 (weights_at hsz' (j := 1) rfl rfl)
 clear hA0 hval0
 refine (Ok.law (apartLaw_ok hr hxs hxb)).mono fun e W' ⟨he, bel⟩ => ?_
 subst he
 exact ⟨_, rfl, _, _, _, [], _, [], hW', trodAll_mk1 (shut_bool Try.underlying4 _), (trodAll_cons_mk (Below.trod laidOut (by kernel_rfl) (of_decide_eq_true (by kernel_rfl)) k0 bel lt0) (trodAll_cons_mk (Below.trod laidOut (by kernel_rfl) (of_decide_eq_true (by kernel_rfl)) k1 bel lt1) trodAll_mk0)), rfl, bel.frame _, fun h => by cases h⟩
theorem stemApart : Rows.StemApartSaid :=
 OpenClaim.holds_of_wide 10 Try.f10 rfl rfl rfl rfl rfl rfl rfl ⟨rfl, rfl, rfl, rfl, rfl⟩ rfl rfl rfl rfl rfl (by kernel_rfl) Try.func10 (by kernel_rfl)
   (of_decide_eq_true (by kernel_rfl)) (by unfold Func.isWrapper; first | (rw [if_pos (by decide +kernel)]; kernel_rfl) | (rw [if_neg (by decide +kernel)]; exact ⟨rfl, rfl⟩))
   (fun os started H enc _ => stemApartLifted os started H enc)
#print axioms stemApart
end Go.Proofs.Ytccogmkhijgelaa
