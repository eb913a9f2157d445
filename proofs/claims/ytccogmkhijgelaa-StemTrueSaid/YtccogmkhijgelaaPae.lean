/-
  A part of a proof: StemTrue returns true of any stem and any past, and leaves what it is handed as it was. No conditions.
-/
import Derived.Test.YtccogmkhijgelaaPad
import Derived.KernelRfl
namespace Go.Proofs.Ytccogmkhijgelaa
open Go.RowKit
theorem agg_128 : AggT Try.prog 128 3 := aggT_of (by kernel_rfl)
theorem bd_87 : Body Try.prog 87 := Bo (by kernel_rfl)
theorem el_64 : ElemT Try.prog 64 4 56 (.agg #[.string ⟨#[]⟩, .int .i64 0, .int .i64 0, .slice none 0 0]) := elemT_of (by kernel_rfl) rfl (by decide)
theorem sz_128 : SizeT Try.prog 128 3 := Cz (by kernel_rfl)
theorem sz_23 : SizeT Try.prog 23 1 := Cz (by kernel_rfl)
theorem sz_26 : SizeT Try.prog 26 1 := Cz (by kernel_rfl)
theorem src_eds {F : Heap} {v : Value} {ps : List (Value × Edn)} (h : Sl F v 4 edE ps) (hone : ∀ p ∈ ps, p.1.oneCell' = true) {H : List (Nat × Obj)} : Src ⟨F, H⟩ v ps.length (ps.flatMap edE) 4 := h.srcM E2 fun p hp => edE_one (hone p hp)
theorem StmX.ones {F : Heap} {b kb : Nat} {vp ve : Value} {ps : List (Value × Edn)} {s : Stm} (hX : StmX F b vp ve (.map (some kb)) ps s) : ∀ u ∈ [vp, ve, .map (some kb)], u.oneCell' = true := by
 intro u hu
 simp only [List.mem_cons, List.not_mem_nil, or_false] at hu
 rcases hu with rfl | rfl | rfl
 · exact hX.r.places.plain.one
 · exact hX.r.eds.plain.one
 · rfl
set_option maxRecDepth 100000 in
theorem cloneEd_own {F : Heap} {v : Value} {ps : List (Value × Edn)} (h : Sl F v 4 edE ps) (hone : ∀ p ∈ ps, p.1.oneCell' = true) (hn : ps.length ≤ 1000) : OkN Try.prog 87 [v].toArray F fun u _F' Hn => Own 64 4 u ps.length (ps.flatMap edE) Hn := by
 obtain ⟨a0, c0, rfl, g1, g2, g3, g4⟩ := h.plain
 refine OkN.intro Try.func87 rfl Try.ntmps87 rfl fun w0 => ?_
 cases a0
 ·
  refine Af <| Ai fun ds => Aa rfl (Ae Ad) ?_
  refine Ah <| Ac <| Af <| Af <| Ai fun ds => Aa rfl (Ag (Al rfl <| Ak rfl)) ?_
  refine Aa rfl (q_eqlNil Try.underlying23 (Ab) Ad) ?_
  refine Ah <| Ac <| Ar (Ab) rfl ?_
  refine Af <| Ai fun ds => Aa rfl (Ae Ad) ?_
  refine Ah <| Ac <| A4 <| Ba ?_
  refine Es rfl (.tmp (Ab) .nil) (List.nil_sublist _) ?_
  obtain ⟨h0, -⟩ := g2 rfl
  have : ps = [] := List.eq_nil_of_length_eq_zero h0
  subst this
  exact E0
 ·
  refine Af <| Ai fun ds => Aa rfl (Ae Ad) ?_
  refine Ah <| Ac <| Af <| Af <| Ai fun ds => Aa rfl (Ag (Al rfl <| Ak rfl)) ?_
  refine Aa rfl (q_eqlNil Try.underlying23 (Ab) Ad) ?_
  refine Ah <| Ac <| Ao (Ab) rfl ?_
  refine Aw <| Ac <| Af <| Ai fun ds => Bj rfl (x_build0 B6 fun b1 hb1 nb1 => ?_)
  refine Aa rfl (Ag (Ax rfl <| Ak rfl)) ?_
  refine Bj rfl (Co B6 el_64 (Al rfl <| Ab) (own_box rfl) (Ab) (src_eds h hone) (by omega) (by omega) (.z) .box fun v2 R3 ho4 => ?_)
  have ho1 : Own 64 4 v2 ps.length (ps.flatMap edE) R3 := by simpa using ho4
  refine Aa rfl (Ae (Ab)) ?_
  refine Ah <| Ac <| A4 <| Es rfl (.tmp (Ab) .nil) (List.sublist_append_left _ _) ?_
  exact ho1
def IntsR7 (F : Heap) (u : Value) (p : List Int × Int) : Prop := ∃ v, u = .tuple #[v, .int .i64 p.2] ∧ Ints F v p.1
theorem IntsR7.mono {F F' : Heap} {u : Value} {p : List Int × Int} (h : IntsR7 F u p) (hF : F.le F') : IntsR7 F' u p := by obtain ⟨v, h1, h2⟩ := h; exact ⟨v, h1, h2.mono hF⟩
set_option maxRecDepth 100000 in
theorem reading_top_ok {F : Heap} {vp ve : Value} {ps : List (Value × Edn)} {s : Stm} (hr : StmR F vp ve ps s) {v : Value} {l : List Int} (hl : Ints F v l) (z q : Int) : Ok Try.prog 35 [.agg #[vp, ve], v, .int .i64 z, .int .i64 q].toArray F fun u F' => IntsR7 F' u (readE s l z q) := by
 have hle0 : F.le F := Heap.le_refl _
 refine Ok.intro Try.func35 rfl Try.ntmps35 rfl fun w0 => ?_
 have hL := hl.plain.lt
 have hlen := hr.len
 have hL1 := hr.eds.plain.lt
 have hL2 := hr.places.plain.lt
 by_cases hok : treeErr s l = 0
 ·
  obtain ⟨hv, hll, ht⟩ := tree_ok hok
  have hne := hv.ne
  have hnp := hv.np
  have hl5 : l.length ≤ 5 := by omega
  have hcv := changes_costV (s := s) ht hv hll
  have hcb := costL_bound (s := s) (l := l)
  refine Af <| Ai fun ds => Bj rfl (B2 (Ak rfl) rfl fun b1 hb1 nb1 => ?_)
  refine Aa rfl (Ae Ad) ?_
  refine Aa rfl (Ae Ad) ?_
  refine Ah <| Ac <| Af <| Ai fun ds => Aa rfl (Bb B7 (Aq rfl <| Ab) rfl rfl (A7 0 rfl)) ?_
  refine Aa rfl (Ag (Ax rfl <| Ak rfl)) ?_
  refine Bj rfl (D2 bd_68 A1 (.cons (Al rfl <| Ab) (.cons (Ab) .nil)) (enter_ok hr hl hok) fun v2 F3 R6 hr4 hF5 => ?_)
  replace hr := hr.mono hF5
  replace hle0 := Heap.le_trans hle0 hF5
  obtain ⟨ba, kb, rfl, hX, rfl⟩ := hr4
  refine Aa rfl (Ag (Ab)) ?_
  refine Aa rfl (Az (Ab) rfl) ?_
  refine Aa rfl (Az (Al rfl <| Ab) rfl) ?_
  refine Aa rfl (Az (Aq rfl <| Ab) rfl) ?_
  refine Bj rfl (B8 Ed rfl fun b7 hb7 nb7 => ?_)
  refine Aa rfl (Ae (Aq rfl <| Al rfl <| Ab)) ?_
  refine Cf (Ce Em (Al rfl <| Ab) (Aq rfl <| Al rfl <| Ab) (i := 0) rfl rfl rfl rfl Dg (.here) ?_)
  refine Aa rfl (Ae (Aq rfl <| Ab)) ?_
  refine Ah <| Ac <| Af <| A0 <| Af <| B9 (i := 1) rfl hb1 (.next <| .here) fun F8 hF9 hz4 => ?_
  replace hr := hr.mono hF9
  replace hle0 := Heap.le_trans hle0 hF9
  replace hX := hX.mono hF9
  refine B9 (i := 0) rfl hb7 (.here) fun F10 hF11 hz11 => ?_
  replace hr := hr.mono hF11
  replace hle0 := Heap.le_trans hle0 hF11
  replace hX := hX.mono hF11
  replace hz4 := hF11 _ _ hz4
  refine Ai fun ds => Aa rfl (Ag (Ab)) ?_
  refine Aa rfl (Bw (Ab) Ad) ?_
  refine Aa rfl (Ae (Ab)) ?_
  refine Ah <| Ac <| Ao (Ab) (by decide) ?_
  by_cases h1 : inB 0 (s.editions.length - 1) z = true
  ·
   refine Af <| Ai fun ds => Aa rfl (Am Bv (A5 rfl <| Ax rfl <| Aq rfl <| Al rfl <| Ab)) ?_
   refine Aa rfl (Ap B1 (Ab) (CellF.own hz4 rfl).cell) ?_
   refine Aa rfl (Bm B6 (Ab) hr.eds.plain) ?_
   refine Aa rfl (q_sub (Ab) Ad rfl (by omega) (by omega)) ?_
   refine Aa rfl (Ag (A2 rfl <| Ax rfl <| Ak rfl)) ?_
   refine Bj rfl (B4 Bh Df rfl (.cons (Ab) .nil) rfl rfl (by decide) (by simp [Value.oneCell']) fun b12 hb12 nb12 => ?_)
   refine B5 (i := 0) rfl hb12 .here fun F13 hF14 hz15 => ?_
   replace hr := hr.mono hF14
   replace hle0 := Heap.le_trans hle0 hF14
   replace hX := hX.mono hF14
   replace hz4 := hF14 _ _ hz4
   replace hz11 := hF14 _ _ hz11
   have hsl16 := C4 hz15
   refine Bx rfl (Be Eh A1 (.cons Ad (.cons (Aq rfl <| Ab) (.cons (Ab) .nil))) (Cj _ _ hsl16) (fun _ _ h => h)) ?_
   refine Aa rfl (Ag (Ab)) ?_
   refine As rfl rfl (Ab) (by simp [hlen, h1]) ?_
   refine Aa rfl (Am Ci (A2 rfl <| Ax rfl <| Aq rfl <| Al rfl <| Ab)) ?_
   refine As rfl rfl (Al rfl <| Ab) (by simp [hlen, h1]) ?_
   refine Aa rfl (Ap Cs (Ab) (CellF.own hz4 rfl).cell) ?_
   refine As rfl rfl (Aq rfl <| Ab) (by simp [hlen, h1]) ?_
   refine Aa rfl (Bm C2 (Ab) hr.places.plain) ?_
   refine As rfl rfl (Aq rfl <| Al rfl <| Ab) (by simp [hlen, h1]) ?_
   refine Aa rfl (q_sub (Ab) Ad rfl (by omega) (by omega)) ?_
   refine As rfl rfl (Ax rfl <| Ab) (by simp [hlen, h1]) ?_
   refine Aa rfl (Ag (A2 rfl <| A5 rfl <| Ax rfl <| Ak rfl)) ?_
   refine As rfl rfl (Ax rfl <| Al rfl <| Ab) (by simp [hlen, h1]) ?_
   refine Bj rfl (B4 Bh Df rfl (.cons (Ab) .nil) rfl rfl (by decide) (by simp [Value.oneCell']) fun b17 hb17 nb17 => ?_)
   refine B5 (i := 0) rfl hb17 .here fun F18 hF19 hz20 => ?_
   replace hr := hr.mono hF19
   replace hle0 := Heap.le_trans hle0 hF19
   replace hX := hX.mono hF19
   replace hz4 := hF19 _ _ hz4
   replace hz11 := hF19 _ _ hz11
   have hsl21 := C4 hz20
   refine As rfl rfl (Ax rfl <| Aq rfl <| Ab) (by simp [hlen, h1]) ?_
   refine Bx rfl (Be Eh A1 (.cons Ad (.cons (Aq rfl <| Ab) (.cons (Ab) .nil))) (Cj _ _ hsl21) (fun _ _ h => h)) ?_
   refine Aa rfl (A9 (Ax rfl <| Aq rfl <| Al rfl <| Ab) (by simp [hlen, h1]) (Ab)) ?_
   refine Aa rfl (Ae (Ab)) ?_
   refine Ah <| Ac ?_
   by_cases h2 : inB 0 (s.places.length - 1) q = true
   ·
    have h12 : (inB 0 (s.editions.length - 1) z && inB 0 (s.places.length - 1) q) = true := by rw [h1, h2]; rfl
    obtain ⟨x, rfl, hx⟩ := inB_nat h1
    obtain ⟨p, rfl, hp⟩ := inB_nat h2
    have hxp : x < ps.length := by omega
    have hrx := hr.rd hxp
    have hpx : p < (s.ed x).rd.length := by rw [hv.rdl x hx]; exact hp
    have er := rdT_at hpx
    have hrdl := hv.rdl x hx
    have hrb9 := hv.rd x p hx hp
    have e1 := hr.at hxp
    refine Ao (Ab) (by simp [h2]) ?_
    by_cases hc : costL s l = 1000
    ·
     refine Af <| Ai fun ds => Aa rfl (Ag (A2 rfl <| Ax rfl <| Al rfl <| Ab)) ?_
     refine Aa rfl (Bb B0 (A2 rfl <| Ax rfl <| Aq rfl <| Al rfl <| Ab) rfl rfl (C3 hz11)) ?_
     refine WL_order (.cons (.here) <| .nil) ?_
     refine Bj rfl (x_callM bd_69 A1 (.cons (Al rfl <| Ab) (.cons (Ab) .nil)) rfl (changes_ok hX ht hll hv KnownT.nil) fun v26 F27 H30 hr28 hF29 => ?_)
     obtain ⟨es2, rfl, rfl, hK2⟩ := hr28
     refine Aa rfl (By (Ab) Ad) ?_
     refine Aa rfl (Ae (Ab)) ?_
     refine Ah <| Ac <| Ar (Ab) (by rw [hcv]; unfold costV; rw [if_pos hc]; rfl) ?_
     refine Af <| Ai fun ds => Aa rfl (Ae Ad) ?_
     refine Aa rfl (Ae Ad) ?_
     refine Ah <| Ac <| A4 <| Bl (Ba ?_)
     refine Ay rfl (.tmp (Al rfl <| Ab) (.tmp (Ab) .nil)) ?_
     rw [readE_bad (readErr_3 hok h12 hc) (by decide)]
     exact ⟨_, rfl, Sl.nil⟩
    ·
     have hre := readErr_0 hok h12 hc
     refine Af <| Ai fun ds => Aa rfl (Ag (A2 rfl <| Ax rfl <| Al rfl <| Ab)) ?_
     refine Aa rfl (Bb B0 (A2 rfl <| Ax rfl <| Aq rfl <| Al rfl <| Ab) rfl rfl (C3 hz11)) ?_
     refine WL_order (.cons (.here) <| .nil) ?_
     refine Bj rfl (x_callM bd_69 A1 (.cons (Al rfl <| Ab) (.cons (Ab) .nil)) rfl (changes_ok hX ht hll hv KnownT.nil) fun v35 F36 H39 hr37 hF38 => ?_)
     replace hr := hr.mono hF38
     replace hle0 := Heap.le_trans hle0 hF38
     replace hX := hX.mono hF38
     replace hrx := hrx.mono hF38
     replace hz4 := hF38 _ _ hz4
     replace hz11 := hF38 _ _ hz11
     obtain ⟨es2, rfl, rfl, hK2⟩ := hr37
     refine Aa rfl (By (Ab) Ad) ?_
     refine Aa rfl (Ae (Ab)) ?_
     refine Ah <| Ac <| Ao (Ab) (by rw [hcv]; unfold costV; rw [if_neg hc]; exact decide_eq_false (by omega)) ?_
     refine Aw <| Bd <| Ac <| Af <| Ai fun ds => Aa rfl (Ag (A2 rfl <| A5 rfl <| Aq rfl <| Ab)) ?_
     refine Aa rfl (Bb B0 (A2 rfl <| A5 rfl <| Ax rfl <| Ab) rfl rfl (C3 hz11)) ?_
     refine Aa rfl (Ag (Bc rfl <| A5 rfl <| Ak rfl)) ?_
     refine Bx rfl (Be bd_82 A1 (.cons (Aq rfl <| Ab) (.cons (Al rfl <| Ab) (.cons (Ab) .nil))) (Ea hX ht hll hv hp) (fun _ _ h => h)) ?_
     refine Aa rfl (Ae (Ab)) ?_
     refine Ah <| Ac <| Af <| Ai fun ds => Aa rfl (Am Bv (Bc rfl <| A5 rfl <| Aq rfl <| Ab)) ?_
     refine Aa rfl (Ap B1 (Ab) (CellF.own hz4 rfl).cell) ?_
     refine Aa rfl (Ag (Bc rfl <| A5 rfl <| Ax rfl <| Al rfl <| Ak rfl)) ?_
     refine Aa rfl (A8 (k := x) B6 (Al rfl <| Ab) hr.eds.plain (Ab) rfl hxp) ?_
     refine Aa rfl (Bs Cg (Ab)) ?_
     refine Aa rfl (Ap Cb (Ab) (hr.eds.cell hxp rfl)) ?_
     refine Aa rfl (Ag (Bc rfl <| A2 rfl <| Al rfl <| Ak rfl)) ?_
     refine Aa rfl (A8 (k := p) Bh (Al rfl <| Ab) hrx.plain (Ab) rfl hpx) ?_
     refine Aa rfl (Ap Bk (Ab) (hrx.cell1 hpx rfl)) ?_
     refine Aa rfl (Ae (Ab)) ?_
     refine Ah <| Ac <| Af <| Af <| Ai fun ds => Aa rfl (Ag Ad) ?_
     refine Ah <| Ac <| A0 <| Bt [8, 14, 15, 62, 63, 64, 65, 66, 67, 68, 69, 70, 71, 72, 73, 74, 75, 76, 77, 78, 79, 80, 81, 82, 83, 84, 85, 86, 87, 88, 89, 90, 91, 92, 93, 94, 95, 96, 97, 98, 99, 100, 101, 102, 103, 104, 105, 106, 107, 108, 109, 110, 111, 112, 113, 114, 115, 116, 117, 118, 119, 120, 121] (fun m e σ => ∃ G, F36.le G ∧ ∃ k : Nat, m + k = 3 ∧ e 62 = .int .i64 (k : Int) ∧ ∃ v8 R8, e 8 = v8 ∧ Own 3 1 v8 (readTo s l x p k).length ((readTo s l x p k).flatMap intE) R8 ∧ σ = ⟨G, (kb, mapO es2) :: R8⟩) (3) ?_ ?_
     · exact ⟨_, Heap.le_refl _, 0, by omega, (Ab), _, _, (Bc rfl <| A2 rfl <| Ax rfl <| Ab), Own.nil, rfl⟩
     ·
      rintro m e _ ⟨G, hFG, k, hm, hs62, v8, R8, hs8, ho, rfl⟩; have hrl := readTo_len (s := s) (l := l) (x := x) (p := p) (k := k); replace hr := hr.mono hFG; replace hX := hX.mono hFG; replace hrx := hrx.mono hFG; replace hz4 := hFG _ _ hz4; replace hz11 := hFG _ _ hz11; have hle0 := Heap.le_trans hle0 hFG
      by_cases hlt : k < 3
      ·
       refine Af <| Ai fun ds => Aa rfl (Bu (At rfl hs62) Ad) ?_
       refine Ah <| Ac <| Af <| Ar (Ab) (by first | rfl | exact decide_eq_true (by omega)) ?_
       by_cases hk0 : 0 < s.r x p
       ·
        refine Aw <| Ac <| Af <| A0 <| Af <| Ai fun ds => Aa rfl (Ag (Al rfl <| At rfl hs62)) ?_
        refine Aa rfl (Ae (Ab)) ?_
        refine Ah <| Ac <| Af <| Af <| Ai fun ds => Aa rfl (Ag (Aq rfl <| Al rfl <| Aj rfl <| Al rfl <| Ab)) ?_
        refine Aa rfl (C8 (Ab) Ad) ?_
        refine Aa rfl (Ag (Ab)) ?_
        refine As rfl rfl (Ab) (by rw [er]; exact decide_eq_true hk0) ?_
        refine Aa rfl (Ag (Ax rfl <| Aq rfl <| Aj rfl <| Al rfl <| Ab)) ?_
        refine As rfl rfl (Al rfl <| Ab) (by rw [er]; exact decide_eq_true hk0) ?_
        refine Aa rfl (Ag (Ax rfl <| Ab)) ?_
        refine As rfl rfl (Aq rfl <| Ab) (by rw [er]; exact decide_eq_true hk0) ?_
        refine Aa rfl (Bq (Ab) Ad rfl (by omega) (by omega)) ?_
        refine As rfl rfl (Aq rfl <| Al rfl <| Ab) (by rw [er]; exact decide_eq_true hk0) ?_
        refine Aa rfl (Bw (Aq rfl <| Ab) (Ab)) ?_
        refine Aa rfl (A6 (Ax rfl <| Ab) (by rw [er]; exact decide_eq_true hk0) (Ab)) ?_
        refine Ah <| Ac ?_
        by_cases hke : s.r x p = (k : Int) + 1
        ·
         have hkn : (decide (s.r x p = 0) || decide (s.r x p = (k : Int) + 1)) = true := by rw [decide_eq_true hke]; simp
         refine Ao (Ab) (by rw [er]; exact decide_eq_false (fun h => h hke)) ?_
         have hvm := setS_valid (v := (k : Int) + 1) hv hx hp (by omega)
         refine Aw <| Ac <| Af <| Ai fun ds => Aa rfl (Ag (A5 rfl <| Aq rfl <| Al rfl <| Aj rfl <| Bc rfl <| A5 rfl <| Aq rfl <| Ab)) ?_
         refine Aa rfl (Bz (Ab)) ?_
         refine Aa rfl (Bb agg_128 (Ab) rfl rfl (C3 hX.blk)) ?_
         refine Bj rfl (B8 zr_128 rfl fun b41 hb41 nb41 => ?_)
         refine Cf (Ce sz_128 (Ab) (Al rfl <| Ab) (i := 0) rfl rfl rfl rfl hX.ones (.here) ?_)
         refine Ah <| Ac <| Af <| Ai fun ds => Aa rfl (Ag (A5 rfl <| Ax rfl <| Aq rfl <| Al rfl <| Aj rfl <| Bc rfl <| A5 rfl <| Aq rfl <| Ab)) ?_
         refine Aa rfl (Bz (Ab)) ?_
         refine Aa rfl (Am Cc (Ab)) ?_
         refine Aa rfl (Am Bv (Ab)) ?_
         refine Aa rfl (Ap B1 (Ab) (CellF.own hX.blk rfl).cell) ?_
         refine Bj rfl (x_callNf bd_87 A1 (.cons (Ab) .nil) (cloneEd_own hX.r.eds hX.r.one (by omega)) fun v42 F43 R46 hr44 hF45 => ?_)
         replace hX := hX.mono hF45
         replace hrx := hrx.mono hF45
         replace hFG := Heap.le_trans hFG hF45
         replace hle0 := Heap.le_trans hle0 hF45
         replace hz11 := hF45 _ _ hz11
         have hoE := hr44
         refine Aa rfl (Am Cc (Ax rfl <| Aq rfl <| Ab)) ?_
         refine Aa rfl (Am Bv (Ab)) ?_
         refine Ew (.one (.skip <| .here) <| .one (.skip <| .here) <| .blk (.lastS) <| .lastb (.last)) ?_
         refine Cf (Cm sz_23 (Ab) (Aq rfl <| Ab) (i := 0) rfl (.next <| .here) (Own.one hoE) (.here) ?_)
         refine Ah <| Ac <| Af ?_
         have hleS := hle0
         refine C0 (.inl rfl) (fun _ _ h => h) (.cons_cons _ <| .cons_cons _ <| .refl _) [16] (by kernel_rfl) fun ds => ?_
         refine A3 0 rfl (by kernel_rfl) (by kernel_rfl) (by kernel_rfl) (by kernel_rfl) rfl rfl (fun _ h => h.drop (.cons_cons _ <| .cons_cons _ <| .refl _)) (fun _ _ _ h => h) (Am Cc (A5 rfl <| Ab)) ?_
         refine A3 1 rfl (by kernel_rfl) (by kernel_rfl) (by kernel_rfl) (by kernel_rfl) rfl rfl (fun _ h => h.drop (.cons_cons _ <| .cons_cons _ <| .refl _)) (fun _ _ _ h => h) (Am Bv (Ab)) ?_
         refine A3 2 rfl (by kernel_rfl) (by kernel_rfl) (by kernel_rfl) (by kernel_rfl) rfl rfl (fun _ h => h.drop (.cons_cons _ <| .cons_cons _ <| .refl _)) (fun _ _ _ h => h) (Ap B1 (Ab) (Cell.own 0 rfl rfl)) ?_
         refine A3 3 rfl (by kernel_rfl) (by kernel_rfl) (by kernel_rfl) (by kernel_rfl) rfl rfl (fun _ h => h.drop (.cons_cons _ <| .cons_cons _ <| .refl _)) (fun _ _ _ h => h) (Ag (A2 rfl <| A5 rfl <| Aq rfl <| Aj rfl <| Bc rfl <| A2 rfl <| Ax rfl <| Aq rfl <| Ak rfl)) ?_
         refine A3 4 rfl (by kernel_rfl) (by kernel_rfl) (by kernel_rfl) (by kernel_rfl) rfl rfl (fun _ h => h.drop (.cons_cons _ <| .cons_cons _ <| .refl _)) (fun _ _ _ h => h) (Ag (A2 rfl <| A5 rfl <| Aq rfl <| Al rfl <| Aj rfl <| Bc rfl <| A5 rfl <| Aq rfl <| Ab)) ?_
         refine A3 5 rfl (by kernel_rfl) (by kernel_rfl) (by kernel_rfl) (by kernel_rfl) rfl rfl (fun _ h => h.drop (.cons_cons _ <| .cons_cons _ <| .refl _)) (fun _ _ _ h => h) (Bz (Ab)) ?_
         refine A3 6 rfl (by kernel_rfl) (by kernel_rfl) (by kernel_rfl) (by kernel_rfl) rfl rfl (fun _ h => h.drop (.cons_cons _ <| .cons_cons _ <| .refl _)) (fun _ _ _ h => h) (Am Cc (Ab)) ?_
         refine A3 7 rfl (by kernel_rfl) (by kernel_rfl) (by kernel_rfl) (by kernel_rfl) rfl rfl (fun _ h => h.drop (.cons_cons _ <| .cons_cons _ <| .refl _)) (fun _ _ _ h => h) (Am Bv (Ab)) ?_
         refine A3 8 rfl (by kernel_rfl) (by kernel_rfl) (by kernel_rfl) (by kernel_rfl) rfl rfl (fun _ h => h.drop (.cons_cons _ <| .cons_cons _ <| .refl _)) (fun _ _ _ h => h) (Ap B1 (Ab) (CellF.own hX.blk rfl).cell) ?_
         refine A3 9 rfl (by kernel_rfl) (by kernel_rfl) (by kernel_rfl) (by kernel_rfl) rfl rfl (fun _ h => h.drop (.cons_cons _ <| .cons_cons _ <| .refl _)) (fun _ _ _ h => h) (Ag (Bc rfl <| Aj rfl <| Bc rfl <| A2 rfl <| Ax rfl <| Aq rfl <| Ak rfl)) ?_
         refine A3 10 rfl (by kernel_rfl) (by kernel_rfl) (by kernel_rfl) (by kernel_rfl) rfl rfl (fun _ h => h.drop (.cons_cons _ <| .cons_cons _ <| .refl _)) (fun _ _ _ h => h) (A8 (k := x) B6 (Al rfl <| Ab) hX.r.eds.plain (Ab) rfl hxp) ?_
         refine A3 11 rfl (by kernel_rfl) (by kernel_rfl) (by kernel_rfl) (by kernel_rfl) rfl rfl (fun _ h => h.drop (.cons_cons _ <| .cons_cons _ <| .refl _)) (fun _ _ _ h => h) (Bs Cg (Ab)) ?_
         refine A3 12 rfl (by kernel_rfl) (by kernel_rfl) (by kernel_rfl) (by kernel_rfl) rfl rfl (fun _ h => h.drop (.cons_cons _ <| .cons_cons _ <| .refl _)) (fun _ _ _ h => h) (Ap Cb (Ab) (hX.r.eds.cell hxp rfl)) ?_
         refine WX_x 13 rfl (by kernel_rfl) rfl (x_callNf bd_76 A1 (.cons (Ab) .nil) (cloneInt_own hrx (by omega)) fun v47 F48 R51 hr49 hF50 => ⟨fun _ _ _ h => (h.drop (List.sublist_append_of_sublist_right <| .cons_cons _ <| .cons_cons _ <| .refl _)).weak hF50 hleS, ?_⟩)
         replace hX := hX.mono hF50
         replace hFG := Heap.le_trans hFG hF50
         replace hz11 := hF50 _ _ hz11
         have hoR := hr49
         refine A3 14 rfl (by kernel_rfl) (by kernel_rfl) (by kernel_rfl) (by kernel_rfl) rfl rfl (fun _ h => (h.drop (List.sublist_append_of_sublist_right <| .cons_cons _ <| .cons_cons _ <| .refl _)).weak hF50 hleS) (fun _ _ _ h => h) (A8 (k := x) B6 (A5 rfl <| Aq rfl <| Al rfl <| Ab) (hoE.plain (by omega)) (A5 rfl <| Aq rfl <| Ab) rfl hxp) ?_
         refine A3 15 rfl (by kernel_rfl) (by kernel_rfl) (by kernel_rfl) (by kernel_rfl) rfl rfl (fun _ h => (h.drop (List.sublist_append_of_sublist_right <| .cons_cons _ <| .cons_cons _ <| .refl _)).weak hF50 hleS) (fun _ _ _ h => h) (Bs Cg (Ab)) ?_
         refine WX_orderB (.one (.skip <| .here) <| .one (.skip <| .here) <| .blk (.skip <| .here) <| .blk (.lastS) <| .lastb (.last)) ?_
         refine WX_x0 16 rfl (by kernel_rfl) (x_storeR sz_26 (Ab) (Aq rfl <| Ab) hoE (by rw [Dz E2]; omega) (Own.one hoR) (.s <| .s <| .k <| .z) .more fun R52 ho53 => ⟨(fun h => nomatch h), ?_⟩)
         have hoE2 := ed_own_set (e := (s.ed x).setR p ((k : Int) + 1)) ho53 hxp (by rw [e1]; rfl) (by rw [e1]; rfl) (by rw [e1]; rfl)
         refine C9 (by kernel_rfl) ?_ _
         refine Ac <| Af <| Ai fun ds => Aa rfl (Am Cc (A2 rfl <| A5 rfl <| Ab)) ?_
         refine Aa rfl (Am Bv (Ab)) ?_
         refine Aa rfl (Ap B1 (Ab) (Cell.own 0 rfl rfl)) ?_
         refine Aa rfl (Ag (Bc rfl <| A5 rfl <| Aq rfl <| Aj rfl <| Bc rfl <| A2 rfl <| Ax rfl <| Aq rfl <| Ak rfl)) ?_
         refine Aa rfl (A8 (k := x) B6 (Al rfl <| Ab) (hoE2.plain (by rw [List.length_set]; omega)) (Ab) rfl (by simp; omega)) ?_
         refine Aa rfl (Bs Cg (Ab)) ?_
         refine Aa rfl (Ap Cb (Ab) (own_cell hoE2 (fun p hp => .tail _ (.tail _ (List.mem_append_right _ (List.mem_append_left _ hp)))) (ed_set_get hxp))) ?_
         refine Aa rfl (Ag (Bc rfl <| A5 rfl <| Ax rfl <| Aq rfl <| Aj rfl <| Bc rfl <| A2 rfl <| Ax rfl <| Aq rfl <| Ak rfl)) ?_
         refine Aa rfl (Ag (Bc rfl <| A5 rfl <| Ax rfl <| Ab)) ?_
         refine Aa rfl (Bq (Ab) Ad rfl (by omega) (by omega)) ?_
         refine Aa rfl (A8 (k := p) Bh (Aq rfl <| Al rfl <| Ab) (hoR.plain (by omega)) (Aq rfl <| Ab) rfl hpx) ?_
         refine Cf (x_storeR sz_3 (Ab) (Al rfl <| Ab) hoR (by rw [Dz (enc := intE) (s := 1) (fun _ => rfl)]; omega) rfl (.s <| .s <| .k <| .k <| .z) .last fun R54 ho55 => ?_)
         have hoR2 := ho55
         rw [show p * 1 = p * 1 + 0 from rfl, int_flat_set hpx] at hoR2
         replace hoR2 := hoR2.to (k' := ((s.ed x).rd.set p ((k : Int) + 1)).length) (by simp)
         refine Ah <| Ac <| Af <| Ct (σ := ⟨_, _⟩) (by rfl) hoR2 (.s <| .s <| .k <| .k <| .z) .last fun F56 hF57 hz58 => ?_
         replace hX := hX.mono hF57
         replace hFG := Heap.le_trans hFG hF57
         replace hz11 := hF57 _ _ hz11
         refine E4 (.one (.here) <| .one (.here) <| .blk (.here) <| .lastb (.here)) ?_
         have hrn := hoR2.sl (fun _ => rfl) hz58 (by simp; omega)
         refine Ct (σ := ⟨_, _⟩) (by rfl) hoE2 (.s <| .s <| .k <| .z) .last fun F59 hF60 hz61 => ?_
         replace hX := hX.mono hF60
         replace hFG := Heap.le_trans hFG hF60
         replace hrn := hrn.mono hF60
         replace hz11 := hF60 _ _ hz11
         refine E4 (.one (.here) <| .one (.here) <| .lastb (.here)) ?_
         have hen := hoE2.sl (fun _ => rfl) hz61 (by simp; omega)
         refine B9 (i := 0) rfl hb41 (.here) fun F62 hF63 hz15 => ?_
         replace hX := hX.mono hF63
         replace hFG := Heap.le_trans hFG hF63
         replace hrn := hrn.mono hF63
         replace hen := hen.mono hF63
         replace hz11 := hF63 _ _ hz11
         have hXm : StmX _ _ _ _ _ _ (setS s x p ((k : Int) + 1)) := ⟨hX.r.set hen hrn, hz15⟩
         by_cases hpl : decide (placeN (setS s x p ((k : Int) + 1)) l p = placeN s l p) = true
         ·
          have hrb : readB s l x p k = true := by unfold readB; rw [hkn, hpl]; rfl
          refine Ai fun ds => Aa rfl (Bb B0 (Bc rfl <| A2 rfl <| Aq rfl <| Aj rfl <| Bc rfl <| A5 rfl <| Aq rfl <| Al rfl <| Ab) rfl rfl (C3 hz11)) ?_
          refine Aa rfl (Ag (Bc rfl <| A2 rfl <| Aq rfl <| Al rfl <| Aj rfl <| Bc rfl <| A2 rfl <| Ax rfl <| Aq rfl <| Ak rfl)) ?_
          refine Bx rfl (Be bd_82 A1 (.cons (Bc rfl <| Ax rfl <| Al rfl <| Ab) (.cons (Al rfl <| Ab) (.cons (Ab) .nil))) (Ea hXm ht (by rw [setS_len]; exact hll) hvm hp) (fun _ _ h => h)) ?_
          refine Aa rfl (Ag (Bc rfl <| A2 rfl <| Ax rfl <| Al rfl <| Aj rfl <| A5 rfl <| Aq rfl <| Al rfl <| Ab)) ?_
          refine Aa rfl (By (Al rfl <| Ab) (Ab)) ?_
          refine Ah <| Ac <| Ar (Ab) hpl ?_
          refine Ai fun ds => Aa rfl (Ag (Bc rfl <| A2 rfl <| Ax rfl <| Aq rfl <| Al rfl <| At rfl hs8)) ?_
          refine Aa rfl (Ag (Bc rfl <| A2 rfl <| Ax rfl <| Al rfl <| Ab)) ?_
          refine Aa rfl (Bq (Ab) Ad rfl (by omega) (by omega)) ?_
          refine Bj rfl (B4 Bh Df rfl (.cons (Ab) .nil) rfl rfl (by decide) (by simp [Value.oneCell']) fun b64 hb64 nb64 => ?_)
          refine B5 (i := 0) rfl hb64 .here fun F65 hF66 hz67 => ?_
          replace hFG := Heap.le_trans hFG hF66
          have hsl68 := C4 hz67
          refine Bj rfl (Co Bh el_3 (Aq rfl <| Al rfl <| Ab) ho (Ab) hsl68.srcInt (by simp only [List.length_singleton]; omega) (by simp only [List.length_singleton]; omega) (.s <| .z) .last fun v69 R70 ho71 => ?_)
          have ho2 := ho71.snoc (x := (k : Int) + 1) rfl rfl
          refine Aa rfl (Ae (Ab)) ?_
          refine Ah <| Bd <| Ac <| Ai fun ds => Aa rfl (Bq (Bc rfl <| A2 rfl <| A5 rfl <| Ax rfl <| Al rfl <| At rfl hs62) Ad rfl (by omega) (by omega)) ?_
          refine Aa rfl (Ag (Ab)) ?_
          refine Ah <| Ac ⟨_, m - 1, Off.eq (Ex rfl <| C6 rfl <| Dr rfl <| Ee rfl <| ou2 rfl <| Ds rfl <| Bg), by omega, ?_⟩
          exact ⟨_, hFG, k + 1, by omega, (Ab), _, _, (Aq rfl <| Ab), by rw [readTo_succ, if_pos hrb]; exact ho2, rfl⟩
         ·
          replace hpl : decide (placeN (setS s x p ((k : Int) + 1)) l p = placeN s l p) = false := by simpa using hpl
          have hrb : readB s l x p k = false := by unfold readB; rw [hpl]; simp
          refine Ai fun ds => Aa rfl (Bb B0 (Bc rfl <| A2 rfl <| Aq rfl <| Aj rfl <| Bc rfl <| A5 rfl <| Aq rfl <| Al rfl <| Ab) rfl rfl (C3 hz11)) ?_
          refine Aa rfl (Ag (Bc rfl <| A2 rfl <| Aq rfl <| Al rfl <| Aj rfl <| Bc rfl <| A2 rfl <| Ax rfl <| Aq rfl <| Ak rfl)) ?_
          refine Bx rfl (Be bd_82 A1 (.cons (Bc rfl <| Ax rfl <| Al rfl <| Ab) (.cons (Al rfl <| Ab) (.cons (Ab) .nil))) (Ea hXm ht (by rw [setS_len]; exact hll) hvm hp) (fun _ _ h => h)) ?_
          refine Aa rfl (Ag (Bc rfl <| A2 rfl <| Ax rfl <| Al rfl <| Aj rfl <| A5 rfl <| Aq rfl <| Al rfl <| Ab)) ?_
          refine Aa rfl (By (Al rfl <| Ab) (Ab)) ?_
          refine Ah <| Ac <| Ao (Ab) hpl ?_
          refine Aw <| Bd <| Ac <| Ai fun ds => Aa rfl (Bq (Bc rfl <| A2 rfl <| Ax rfl <| Aq rfl <| Al rfl <| At rfl hs62) Ad rfl (by omega) (by omega)) ?_
          refine Aa rfl (Ag (Ab)) ?_
          refine Ah <| Ac ⟨_, m - 1, Off.eq (Ex rfl <| C6 rfl <| Dr rfl <| Ds rfl <| Bg), by omega, ?_⟩
          exact ⟨_, hFG, k + 1, by omega, (Ab), _, _, (Bc rfl <| A2 rfl <| A5 rfl <| Al rfl <| At rfl hs8), by rw [readTo_succ, if_neg (by rw [hrb]; simp)]; exact ho, rfl⟩
        ·
         have hrb : readB s l x p k = false := by unfold readB; rw [decide_eq_false (show ¬ s.r x p = 0 by omega), decide_eq_false (show ¬ s.r x p = (k : Int) + 1 by omega)]; rfl
         refine Ar (Ab) (by rw [er]; exact decide_eq_true hke) ?_
         refine Bp ?_
         refine Bf (Bi ?_)
         refine Ac <| Ai fun ds => Aa rfl (Bq (A5 rfl <| Aq rfl <| Al rfl <| At rfl hs62) Ad rfl (by omega) (by omega)) ?_
         refine Aa rfl (Ag (Ab)) ?_
         refine Ah <| Ac ⟨_, m - 1, Off.eq (Dr rfl <| Ee rfl <| Ds rfl <| Bg), by omega, ?_⟩
         exact ⟨_, hFG, k + 1, by omega, (Ab), _, _, (A5 rfl <| Ax rfl <| Al rfl <| At rfl hs8), by rw [readTo_succ, if_neg (by rw [hrb]; simp)]; exact ho, rfl⟩
       ·
        have hkn : (decide (s.r x p = 0) || decide (s.r x p = (k : Int) + 1)) = true := by rw [decide_eq_true (show s.r x p = 0 by omega)]; rfl
        refine Aw <| Ac <| Af <| A0 <| Af <| Ai fun ds => Aa rfl (Ag (Al rfl <| At rfl hs62)) ?_
        refine Aa rfl (Ae (Ab)) ?_
        refine Ah <| Ac <| Af <| Af <| Ai fun ds => Aa rfl (Ag (Aq rfl <| Al rfl <| Aj rfl <| Al rfl <| Ab)) ?_
        refine Aa rfl (C8 (Ab) Ad) ?_
        refine Aa rfl (Ag (Ab)) ?_
        refine Au rfl rfl (Ab) (.inl (congrArg Value.bool (by rw [er]; exact decide_eq_false hk0))) rfl ?_
        refine Au rfl rfl (Al rfl <| Ab) (.inl (congrArg Value.bool (by rw [er]; exact decide_eq_false hk0))) rfl ?_
        refine Au rfl rfl (Aq rfl <| Ab) (.inl (congrArg Value.bool (by rw [er]; exact decide_eq_false hk0))) rfl ?_
        refine Au rfl rfl (Aq rfl <| Al rfl <| Ab) (.inl (congrArg Value.bool (by rw [er]; exact decide_eq_false hk0))) rfl ?_
        refine Aa rfl (A9 (Ax rfl <| Ab) (by rw [er]; exact decide_eq_false hk0) Ad) ?_
        refine Ah <| Ac <| Ao (Ab) rfl ?_
        have hvm := setS_valid (v := (k : Int) + 1) hv hx hp (by omega)
        refine Aw <| Ac <| Af <| Ai fun ds => Aa rfl (Ag (A5 rfl <| Aq rfl <| Al rfl <| Aj rfl <| Bc rfl <| A5 rfl <| Aq rfl <| Ab)) ?_
        refine Aa rfl (Bz (Ab)) ?_
        refine Aa rfl (Bb agg_128 (Ab) rfl rfl (C3 hX.blk)) ?_
        refine Bj rfl (B8 zr_128 rfl fun b72 hb72 nb72 => ?_)
        refine Cf (Ce sz_128 (Ab) (Al rfl <| Ab) (i := 0) rfl rfl rfl rfl hX.ones (.here) ?_)
        refine Ah <| Ac <| Af <| Ai fun ds => Aa rfl (Ag (A5 rfl <| Ax rfl <| Aq rfl <| Al rfl <| Aj rfl <| Bc rfl <| A5 rfl <| Aq rfl <| Ab)) ?_
        refine Aa rfl (Bz (Ab)) ?_
        refine Aa rfl (Am Cc (Ab)) ?_
        refine Aa rfl (Am Bv (Ab)) ?_
        refine Aa rfl (Ap B1 (Ab) (CellF.own hX.blk rfl).cell) ?_
        refine Bj rfl (x_callNf bd_87 A1 (.cons (Ab) .nil) (cloneEd_own hX.r.eds hX.r.one (by omega)) fun v73 F74 R77 hr75 hF76 => ?_)
        replace hX := hX.mono hF76
        replace hrx := hrx.mono hF76
        replace hFG := Heap.le_trans hFG hF76
        replace hle0 := Heap.le_trans hle0 hF76
        replace hz11 := hF76 _ _ hz11
        have hoE := hr75
        refine Aa rfl (Am Cc (Ax rfl <| Aq rfl <| Ab)) ?_
        refine Aa rfl (Am Bv (Ab)) ?_
        refine Ew (.one (.skip <| .here) <| .one (.skip <| .here) <| .blk (.lastS) <| .lastb (.last)) ?_
        refine Cf (Cm sz_23 (Ab) (Aq rfl <| Ab) (i := 0) rfl (.next <| .here) (Own.one hoE) (.here) ?_)
        refine Ah <| Ac <| Af ?_
        have hleS := hle0
        refine C0 (.inl rfl) (fun _ _ h => h) (.cons_cons _ <| .cons_cons _ <| .refl _) [16] (by kernel_rfl) fun ds => ?_
        refine A3 0 rfl (by kernel_rfl) (by kernel_rfl) (by kernel_rfl) (by kernel_rfl) rfl rfl (fun _ h => h.drop (.cons_cons _ <| .cons_cons _ <| .refl _)) (fun _ _ _ h => h) (Am Cc (A5 rfl <| Ab)) ?_
        refine A3 1 rfl (by kernel_rfl) (by kernel_rfl) (by kernel_rfl) (by kernel_rfl) rfl rfl (fun _ h => h.drop (.cons_cons _ <| .cons_cons _ <| .refl _)) (fun _ _ _ h => h) (Am Bv (Ab)) ?_
        refine A3 2 rfl (by kernel_rfl) (by kernel_rfl) (by kernel_rfl) (by kernel_rfl) rfl rfl (fun _ h => h.drop (.cons_cons _ <| .cons_cons _ <| .refl _)) (fun _ _ _ h => h) (Ap B1 (Ab) (Cell.own 0 rfl rfl)) ?_
        refine A3 3 rfl (by kernel_rfl) (by kernel_rfl) (by kernel_rfl) (by kernel_rfl) rfl rfl (fun _ h => h.drop (.cons_cons _ <| .cons_cons _ <| .refl _)) (fun _ _ _ h => h) (Ag (A2 rfl <| A5 rfl <| Aq rfl <| Aj rfl <| Bc rfl <| A2 rfl <| Ax rfl <| Aq rfl <| Ak rfl)) ?_
        refine A3 4 rfl (by kernel_rfl) (by kernel_rfl) (by kernel_rfl) (by kernel_rfl) rfl rfl (fun _ h => h.drop (.cons_cons _ <| .cons_cons _ <| .refl _)) (fun _ _ _ h => h) (Ag (A2 rfl <| A5 rfl <| Aq rfl <| Al rfl <| Aj rfl <| Bc rfl <| A5 rfl <| Aq rfl <| Ab)) ?_
        refine A3 5 rfl (by kernel_rfl) (by kernel_rfl) (by kernel_rfl) (by kernel_rfl) rfl rfl (fun _ h => h.drop (.cons_cons _ <| .cons_cons _ <| .refl _)) (fun _ _ _ h => h) (Bz (Ab)) ?_
        refine A3 6 rfl (by kernel_rfl) (by kernel_rfl) (by kernel_rfl) (by kernel_rfl) rfl rfl (fun _ h => h.drop (.cons_cons _ <| .cons_cons _ <| .refl _)) (fun _ _ _ h => h) (Am Cc (Ab)) ?_
        refine A3 7 rfl (by kernel_rfl) (by kernel_rfl) (by kernel_rfl) (by kernel_rfl) rfl rfl (fun _ h => h.drop (.cons_cons _ <| .cons_cons _ <| .refl _)) (fun _ _ _ h => h) (Am Bv (Ab)) ?_
        refine A3 8 rfl (by kernel_rfl) (by kernel_rfl) (by kernel_rfl) (by kernel_rfl) rfl rfl (fun _ h => h.drop (.cons_cons _ <| .cons_cons _ <| .refl _)) (fun _ _ _ h => h) (Ap B1 (Ab) (CellF.own hX.blk rfl).cell) ?_
        refine A3 9 rfl (by kernel_rfl) (by kernel_rfl) (by kernel_rfl) (by kernel_rfl) rfl rfl (fun _ h => h.drop (.cons_cons _ <| .cons_cons _ <| .refl _)) (fun _ _ _ h => h) (Ag (Bc rfl <| Aj rfl <| Bc rfl <| A2 rfl <| Ax rfl <| Aq rfl <| Ak rfl)) ?_
        refine A3 10 rfl (by kernel_rfl) (by kernel_rfl) (by kernel_rfl) (by kernel_rfl) rfl rfl (fun _ h => h.drop (.cons_cons _ <| .cons_cons _ <| .refl _)) (fun _ _ _ h => h) (A8 (k := x) B6 (Al rfl <| Ab) hX.r.eds.plain (Ab) rfl hxp) ?_
        refine A3 11 rfl (by kernel_rfl) (by kernel_rfl) (by kernel_rfl) (by kernel_rfl) rfl rfl (fun _ h => h.drop (.cons_cons _ <| .cons_cons _ <| .refl _)) (fun _ _ _ h => h) (Bs Cg (Ab)) ?_
        refine A3 12 rfl (by kernel_rfl) (by kernel_rfl) (by kernel_rfl) (by kernel_rfl) rfl rfl (fun _ h => h.drop (.cons_cons _ <| .cons_cons _ <| .refl _)) (fun _ _ _ h => h) (Ap Cb (Ab) (hX.r.eds.cell hxp rfl)) ?_
        refine WX_x 13 rfl (by kernel_rfl) rfl (x_callNf bd_76 A1 (.cons (Ab) .nil) (cloneInt_own hrx (by omega)) fun v78 F79 R82 hr80 hF81 => ⟨fun _ _ _ h => (h.drop (List.sublist_append_of_sublist_right <| .cons_cons _ <| .cons_cons _ <| .refl _)).weak hF81 hleS, ?_⟩)
        replace hX := hX.mono hF81
        replace hFG := Heap.le_trans hFG hF81
        replace hz11 := hF81 _ _ hz11
        have hoR := hr80
        refine A3 14 rfl (by kernel_rfl) (by kernel_rfl) (by kernel_rfl) (by kernel_rfl) rfl rfl (fun _ h => (h.drop (List.sublist_append_of_sublist_right <| .cons_cons _ <| .cons_cons _ <| .refl _)).weak hF81 hleS) (fun _ _ _ h => h) (A8 (k := x) B6 (A5 rfl <| Aq rfl <| Al rfl <| Ab) (hoE.plain (by omega)) (A5 rfl <| Aq rfl <| Ab) rfl hxp) ?_
        refine A3 15 rfl (by kernel_rfl) (by kernel_rfl) (by kernel_rfl) (by kernel_rfl) rfl rfl (fun _ h => (h.drop (List.sublist_append_of_sublist_right <| .cons_cons _ <| .cons_cons _ <| .refl _)).weak hF81 hleS) (fun _ _ _ h => h) (Bs Cg (Ab)) ?_
        refine WX_orderB (.one (.skip <| .here) <| .one (.skip <| .here) <| .blk (.skip <| .here) <| .blk (.lastS) <| .lastb (.last)) ?_
        refine WX_x0 16 rfl (by kernel_rfl) (x_storeR sz_26 (Ab) (Aq rfl <| Ab) hoE (by rw [Dz E2]; omega) (Own.one hoR) (.s <| .s <| .k <| .z) .more fun R83 ho84 => ⟨(fun h => nomatch h), ?_⟩)
        have hoE2 := ed_own_set (e := (s.ed x).setR p ((k : Int) + 1)) ho84 hxp (by rw [e1]; rfl) (by rw [e1]; rfl) (by rw [e1]; rfl)
        refine C9 (by kernel_rfl) ?_ _
        refine Ac <| Af <| Ai fun ds => Aa rfl (Am Cc (A2 rfl <| A5 rfl <| Ab)) ?_
        refine Aa rfl (Am Bv (Ab)) ?_
        refine Aa rfl (Ap B1 (Ab) (Cell.own 0 rfl rfl)) ?_
        refine Aa rfl (Ag (Bc rfl <| A5 rfl <| Aq rfl <| Aj rfl <| Bc rfl <| A2 rfl <| Ax rfl <| Aq rfl <| Ak rfl)) ?_
        refine Aa rfl (A8 (k := x) B6 (Al rfl <| Ab) (hoE2.plain (by rw [List.length_set]; omega)) (Ab) rfl (by simp; omega)) ?_
        refine Aa rfl (Bs Cg (Ab)) ?_
        refine Aa rfl (Ap Cb (Ab) (own_cell hoE2 (fun p hp => .tail _ (.tail _ (List.mem_append_right _ (List.mem_append_left _ hp)))) (ed_set_get hxp))) ?_
        refine Aa rfl (Ag (Bc rfl <| A5 rfl <| Ax rfl <| Aq rfl <| Aj rfl <| Bc rfl <| A2 rfl <| Ax rfl <| Aq rfl <| Ak rfl)) ?_
        refine Aa rfl (Ag (Bc rfl <| A5 rfl <| Ax rfl <| Ab)) ?_
        refine Aa rfl (Bq (Ab) Ad rfl (by omega) (by omega)) ?_
        refine Aa rfl (A8 (k := p) Bh (Aq rfl <| Al rfl <| Ab) (hoR.plain (by omega)) (Aq rfl <| Ab) rfl hpx) ?_
        refine Cf (x_storeR sz_3 (Ab) (Al rfl <| Ab) hoR (by rw [Dz (enc := intE) (s := 1) (fun _ => rfl)]; omega) rfl (.s <| .s <| .k <| .k <| .z) .last fun R85 ho86 => ?_)
        have hoR2 := ho86
        rw [show p * 1 = p * 1 + 0 from rfl, int_flat_set hpx] at hoR2
        replace hoR2 := hoR2.to (k' := ((s.ed x).rd.set p ((k : Int) + 1)).length) (by simp)
        refine Ah <| Ac <| Af <| Ct (σ := ⟨_, _⟩) (by rfl) hoR2 (.s <| .s <| .k <| .k <| .z) .last fun F87 hF88 hz89 => ?_
        replace hX := hX.mono hF88
        replace hFG := Heap.le_trans hFG hF88
        replace hz11 := hF88 _ _ hz11
        refine E4 (.one (.here) <| .one (.here) <| .blk (.here) <| .lastb (.here)) ?_
        have hrn := hoR2.sl (fun _ => rfl) hz89 (by simp; omega)
        refine Ct (σ := ⟨_, _⟩) (by rfl) hoE2 (.s <| .s <| .k <| .z) .last fun F90 hF91 hz92 => ?_
        replace hX := hX.mono hF91
        replace hFG := Heap.le_trans hFG hF91
        replace hrn := hrn.mono hF91
        replace hz11 := hF91 _ _ hz11
        refine E4 (.one (.here) <| .one (.here) <| .lastb (.here)) ?_
        have hen := hoE2.sl (fun _ => rfl) hz92 (by simp; omega)
        refine B9 (i := 0) rfl hb72 (.here) fun F93 hF94 hz15 => ?_
        replace hX := hX.mono hF94
        replace hFG := Heap.le_trans hFG hF94
        replace hrn := hrn.mono hF94
        replace hen := hen.mono hF94
        replace hz11 := hF94 _ _ hz11
        have hXm : StmX _ _ _ _ _ _ (setS s x p ((k : Int) + 1)) := ⟨hX.r.set hen hrn, hz15⟩
        by_cases hpl : decide (placeN (setS s x p ((k : Int) + 1)) l p = placeN s l p) = true
        ·
         have hrb : readB s l x p k = true := by unfold readB; rw [hkn, hpl]; rfl
         refine Ai fun ds => Aa rfl (Bb B0 (Bc rfl <| A2 rfl <| Aq rfl <| Aj rfl <| Bc rfl <| A5 rfl <| Aq rfl <| Al rfl <| Ab) rfl rfl (C3 hz11)) ?_
         refine Aa rfl (Ag (Bc rfl <| A2 rfl <| Aq rfl <| Al rfl <| Aj rfl <| Bc rfl <| A2 rfl <| Ax rfl <| Aq rfl <| Ak rfl)) ?_
         refine Bx rfl (Be bd_82 A1 (.cons (Bc rfl <| Ax rfl <| Al rfl <| Ab) (.cons (Al rfl <| Ab) (.cons (Ab) .nil))) (Ea hXm ht (by rw [setS_len]; exact hll) hvm hp) (fun _ _ h => h)) ?_
         refine Aa rfl (Ag (Bc rfl <| A2 rfl <| Ax rfl <| Al rfl <| Aj rfl <| A5 rfl <| Aq rfl <| Al rfl <| Ab)) ?_
         refine Aa rfl (By (Al rfl <| Ab) (Ab)) ?_
         refine Ah <| Ac <| Ar (Ab) hpl ?_
         refine Ai fun ds => Aa rfl (Ag (Bc rfl <| A2 rfl <| Ax rfl <| Aq rfl <| Al rfl <| At rfl hs8)) ?_
         refine Aa rfl (Ag (Bc rfl <| A2 rfl <| Ax rfl <| Al rfl <| Ab)) ?_
         refine Aa rfl (Bq (Ab) Ad rfl (by omega) (by omega)) ?_
         refine Bj rfl (B4 Bh Df rfl (.cons (Ab) .nil) rfl rfl (by decide) (by simp [Value.oneCell']) fun b95 hb95 nb95 => ?_)
         refine B5 (i := 0) rfl hb95 .here fun F96 hF97 hz98 => ?_
         replace hFG := Heap.le_trans hFG hF97
         have hsl99 := C4 hz98
         refine Bj rfl (Co Bh el_3 (Aq rfl <| Al rfl <| Ab) ho (Ab) hsl99.srcInt (by simp only [List.length_singleton]; omega) (by simp only [List.length_singleton]; omega) (.s <| .z) .last fun v100 R101 ho102 => ?_)
         have ho2 := ho102.snoc (x := (k : Int) + 1) rfl rfl
         refine Aa rfl (Ae (Ab)) ?_
         refine Ah <| Bd <| Ac <| Ai fun ds => Aa rfl (Bq (Bc rfl <| A2 rfl <| A5 rfl <| Ax rfl <| Al rfl <| At rfl hs62) Ad rfl (by omega) (by omega)) ?_
         refine Aa rfl (Ag (Ab)) ?_
         refine Ah <| Ac ⟨_, m - 1, Off.eq (Ex rfl <| C6 rfl <| Dr rfl <| Ee rfl <| ou2 rfl <| Ds rfl <| Bg), by omega, ?_⟩
         exact ⟨_, hFG, k + 1, by omega, (Ab), _, _, (Aq rfl <| Ab), by rw [readTo_succ, if_pos hrb]; exact ho2, rfl⟩
        ·
         replace hpl : decide (placeN (setS s x p ((k : Int) + 1)) l p = placeN s l p) = false := by simpa using hpl
         have hrb : readB s l x p k = false := by unfold readB; rw [hpl]; simp
         refine Ai fun ds => Aa rfl (Bb B0 (Bc rfl <| A2 rfl <| Aq rfl <| Aj rfl <| Bc rfl <| A5 rfl <| Aq rfl <| Al rfl <| Ab) rfl rfl (C3 hz11)) ?_
         refine Aa rfl (Ag (Bc rfl <| A2 rfl <| Aq rfl <| Al rfl <| Aj rfl <| Bc rfl <| A2 rfl <| Ax rfl <| Aq rfl <| Ak rfl)) ?_
         refine Bx rfl (Be bd_82 A1 (.cons (Bc rfl <| Ax rfl <| Al rfl <| Ab) (.cons (Al rfl <| Ab) (.cons (Ab) .nil))) (Ea hXm ht (by rw [setS_len]; exact hll) hvm hp) (fun _ _ h => h)) ?_
         refine Aa rfl (Ag (Bc rfl <| A2 rfl <| Ax rfl <| Al rfl <| Aj rfl <| A5 rfl <| Aq rfl <| Al rfl <| Ab)) ?_
         refine Aa rfl (By (Al rfl <| Ab) (Ab)) ?_
         refine Ah <| Ac <| Ao (Ab) hpl ?_
         refine Aw <| Bd <| Ac <| Ai fun ds => Aa rfl (Bq (Bc rfl <| A2 rfl <| Ax rfl <| Aq rfl <| Al rfl <| At rfl hs62) Ad rfl (by omega) (by omega)) ?_
         refine Aa rfl (Ag (Ab)) ?_
         refine Ah <| Ac ⟨_, m - 1, Off.eq (Ex rfl <| C6 rfl <| Dr rfl <| Ds rfl <| Bg), by omega, ?_⟩
         exact ⟨_, hFG, k + 1, by omega, (Ab), _, _, (Bc rfl <| A2 rfl <| A5 rfl <| Al rfl <| At rfl hs8), by rw [readTo_succ, if_neg (by rw [hrb]; simp)]; exact ho, rfl⟩
      ·
       refine Af <| Ai fun ds => Aa rfl (Bu (At rfl hs62) Ad) ?_
       refine Ah <| Ac <| Af <| Ao (Ab) (by first | rfl | exact decide_eq_false (by omega)) ?_
       obtain rfl : k = 3 := by omega
       refine Ct (σ := ⟨_, _⟩) (by rfl) ho (.s <| .z) .last fun F103 hF104 hz105 => ?_
       have hn8 := ho.sl (fun _ => rfl) hz105 (by have := readTo_len (s := s) (l := l) (x := x) (p := p) (k := 3); omega)
       refine Bp ?_
       refine Bf <| Bf <| Bi <| Ac <| Af <| Ai fun ds => Aa rfl (Ag (Al rfl <| At rfl hs8)) ?_
       refine Aa rfl (Ae (Ab)) ?_
       refine Aa rfl (Ae Ad) ?_
       refine Ah <| Ac <| A4 <| Ay rfl (.tmp (Al rfl <| Ab) (.tmp (Ab) .nil)) ?_
       rw [readE_ok hre, Int.toNat_natCast, Int.toNat_natCast]
       exact ⟨_, rfl, hn8⟩
   ·
    replace h2 : inB 0 (s.places.length - 1) q = false := by simpa using h2
    refine Ar (Ab) (by simp [h2]) ?_
    refine Af <| Ai fun ds => Aa rfl (Ae Ad) ?_
    refine Aa rfl (Ae Ad) ?_
    refine Ah <| Ac <| A4 <| Bl (Ba ?_)
    refine Ay rfl (.tmp (Al rfl <| Ab) (.tmp (Ab) .nil)) ?_
    rw [readE_bad (readErr_2 hok (by rw [h1, h2]; rfl)) (by decide)]
    exact ⟨_, rfl, Sl.nil⟩
  ·
   replace h1 : inB 0 (s.editions.length - 1) z = false := by simpa using h1
   refine Af <| Ai fun ds => Aa rfl (Am Bv (A5 rfl <| Ax rfl <| Aq rfl <| Al rfl <| Ab)) ?_
   refine Aa rfl (Ap B1 (Ab) (CellF.own hz4 rfl).cell) ?_
   refine Aa rfl (Bm B6 (Ab) hr.eds.plain) ?_
   refine Aa rfl (q_sub (Ab) Ad rfl (by omega) (by omega)) ?_
   refine Aa rfl (Ag (A2 rfl <| Ax rfl <| Ak rfl)) ?_
   refine Bj rfl (B4 Bh Df rfl (.cons (Ab) .nil) rfl rfl (by decide) (by simp [Value.oneCell']) fun b106 hb106 nb106 => ?_)
   refine B5 (i := 0) rfl hb106 .here fun F107 hF108 hz109 => ?_
   have hsl110 := C4 hz109
   refine Bx rfl (Be Eh A1 (.cons Ad (.cons (Aq rfl <| Ab) (.cons (Ab) .nil))) (Cj _ _ hsl110) (fun _ _ h => h)) ?_
   refine Aa rfl (Ag (Ab)) ?_
   refine Au rfl rfl (Ab) (.inl (congrArg Value.bool (by simp [hlen, h1]))) rfl ?_
   refine Au rfl rfl (Al rfl <| Ab) (.inl (congrArg Value.bool (by simp [hlen, h1]))) rfl ?_
   refine Au rfl rfl (Aq rfl <| Ab) (.inl (congrArg Value.bool (by simp [hlen, h1]))) rfl ?_
   refine Au rfl rfl (Aq rfl <| Al rfl <| Ab) (.inl (congrArg Value.bool (by simp [hlen, h1]))) rfl ?_
   refine Au rfl rfl (Ax rfl <| Ab) (.inl (congrArg Value.bool (by simp [hlen, h1]))) rfl ?_
   refine Au rfl rfl (Ax rfl <| Al rfl <| Ab) (.inl (congrArg Value.bool (by simp [hlen, h1]))) rfl ?_
   refine Au rfl rfl (Ax rfl <| Aq rfl <| Ab) (.inl (congrArg Value.bool (by simp [hlen, h1]))) rfl ?_
   refine Aa rfl (A6 (Ax rfl <| Aq rfl <| Al rfl <| Ab) (by simp [hlen, h1]) Ad) ?_
   refine Aa rfl (Ae (Ab)) ?_
   refine Ah <| Ac <| Ar (Ab) rfl ?_
   refine Af <| Ai fun ds => Aa rfl (Ae Ad) ?_
   refine Aa rfl (Ae Ad) ?_
   refine Ah <| Ac <| A4 <| Bl (Ba ?_)
   refine Ay rfl (.tmp (Al rfl <| Ab) (.tmp (Ab) .nil)) ?_
   rw [readE_bad (readErr_2 hok (by rw [h1]; rfl)) (by decide)]
   exact ⟨_, rfl, Sl.nil⟩
 ·
  refine Af <| Ai fun ds => Bj rfl (B2 (Ak rfl) rfl fun b111 hb111 nb111 => ?_)
  refine Aa rfl (Ae Ad) ?_
  refine Aa rfl (Ae Ad) ?_
  refine Ah <| Ac <| Af <| Ai fun ds => Aa rfl (Bb B7 (Aq rfl <| Ab) rfl rfl (A7 0 rfl)) ?_
  refine Aa rfl (Ag (Ax rfl <| Ak rfl)) ?_
  refine Bj rfl (Cn bd_68 A1 (.cons (Al rfl <| Ab) (.cons (Ab) .nil)) (enter_bad hr hl hok) fun v112 F113 hr114 hF115 => ?_)
  obtain ⟨l2, rfl⟩ := hr114
  refine Aa rfl (Ag (Ab)) ?_
  refine Aa rfl (Az (Ab) rfl) ?_
  refine Aa rfl (Az (Al rfl <| Ab) rfl) ?_
  refine Aa rfl (Az (Aq rfl <| Ab) rfl) ?_
  refine Bj rfl (B8 Ed rfl fun b116 hb116 nb116 => ?_)
  refine Aa rfl (Ae (Aq rfl <| Al rfl <| Ab)) ?_
  refine Cf (Ce Em (Al rfl <| Ab) (Aq rfl <| Al rfl <| Ab) (i := 0) rfl rfl rfl rfl Dg (.here) ?_)
  refine Aa rfl (Ae (Aq rfl <| Ab)) ?_
  refine Ah <| Ac <| Af <| A0 <| Af <| Ai fun ds => Aa rfl (Ag (Ab)) ?_
  refine Aa rfl (Bw (Ab) Ad) ?_
  refine Aa rfl (Ae (Ab)) ?_
  refine Ah <| Ac <| Ar (Ab) (decide_eq_true hok) ?_
  refine Af <| Ai fun ds => Aa rfl (Ag (Aq rfl <| Al rfl <| Ab)) ?_
  refine Aa rfl (Ae Ad) ?_
  refine Aa rfl (Ae (Al rfl <| Ab)) ?_
  refine Ah <| Ac <| A4 <| Bl (Ba ?_)
  refine Ay rfl (.tmp (Al rfl <| Ab) (.tmp (Ab) .nil)) ?_
  rw [readE_bad (readErr_1 hok) hok]
  exact ⟨_, rfl, Sl.nil⟩
end Go.Proofs.Ytccogmkhijgelaa
namespace Go.Proofs.Ytccogmkhijgelaa
open Go.RowKit
theorem zr_119 : ZeroT Try.prog 119 (.nilFunc) := Dc (by kernel_rfl)
theorem zr_26 : ZeroT Try.prog 26 (.slice none 0 0) := Dc (by kernel_rfl)
theorem zr_4 : ZeroT Try.prog 4 (.bool false) := Dc (by kernel_rfl)
theorem bd_84 : Body Try.prog 84 := Bo (by kernel_rfl)
theorem one_119 : OneT Try.prog 119 := Dt (by kernel_rfl)
theorem one_4 : OneT Try.prog 4 := Dt (by kernel_rfl)
theorem sz_119 : SizeT Try.prog 119 1 := Cz (by kernel_rfl)
theorem sz_4 : SizeT Try.prog 4 1 := Cz (by kernel_rfl)
theorem setTo_succ {s : Stm} {p k : Nat} : setTo s p (k + 1) = setTo s p k ||| 2 ^ (s.r k p).toNat := rfl
theorem kindTo_succ {s : Stm} {p k : Nat} : kindTo s p (k + 1) = kindTo s p k + if metB s p (k + 1) = true then 1 else 0 := rfl
theorem cleanS_none {s : Stm} {xs : List (List Int)} {t : List Int} (h : cleanR s xs = none) : cleanR s (xs ++ [t]) = some (uncleanL s t) := by rw [cleanR_snoc, h]; rfl
theorem cleanS_yes {s : Stm} {xs : List (List Int)} {t : List Int} {b : List Nat} (h : cleanR s xs = some b) (h2 : (uncleanL s t).length < b.length ∨ ((uncleanL s t).length = b.length ∧ cmpL (uncleanL s t) b < 0)) : cleanR s (xs ++ [t]) = some (uncleanL s t) := by rw [cleanR_snoc, h]; exact if_pos h2
theorem cleanS_no {s : Stm} {xs : List (List Int)} {t : List Int} {b : List Nat} (h : cleanR s xs = some b) (h2 : ¬ ((uncleanL s t).length < b.length ∨ ((uncleanL s t).length = b.length ∧ cmpL (uncleanL s t) b < 0))) : cleanR s (xs ++ [t]) = some b := by rw [cleanR_snoc, h]; exact if_neg h2
theorem bit_met {s : Stm} {p j : Nat} (hv : ValidT s) (hp : p < s.places.length) : (setTo s p s.editions.length / 2 ^ (j + 1) &&& 1 : Nat) = if metB s p (j + 1) = true then 1 else 0 := by
 have h := setTo_bit (v := j + 1) (fun i hi => (hv.rd i p hi hp).1) (Nat.le_refl s.editions.length)
 rw [Nat.testBit_eq_decide_div_mod_eq] at h
 rw [Nat.and_one_is_mod]
 unfold metB
 rw [← h]
 by_cases h2 : setTo s p s.editions.length / 2 ^ (j + 1) % 2 = 1
 · rw [if_pos (decide_eq_true h2)]; exact h2
 · rw [if_neg (by simpa using h2)]; omega
theorem opt_or {α : Type} (o : Option α) : o = none ∨ ∃ b, o = some b := by cases o with | none => exact .inl rfl | some b => exact .inr ⟨b, rfl⟩
theorem pow_le8T {n : Nat} (h : n ≤ 3) : 2 ^ n ≤ 8 := by
 have : n = 0 ∨ n = 1 ∨ n = 2 ∨ n = 3 := by omega
 rcases this with rfl | rfl | rfl | rfl <;> decide
set_option maxRecDepth 100000 in
theorem clean_top_ok {F : Heap} {vp ve : Value} {ps : List (Value × Edn)} {s : Stm} (hr : StmR F vp ve ps s) : Ok Try.prog 33 [.agg #[vp, ve]].toArray F fun u F' => NatsR F' u (cleanE s) := by
 have hle0 : F.le F := Heap.le_refl _
 refine Ok.intro Try.func33 rfl Try.ntmps33 rfl fun w0 => ?_
 have hL1 := hr.eds.plain.lt
 have hL2 := hr.places.plain.lt
 have hlen := hr.len
 by_cases h0 : (checkT s).2.2 = 0
 ·
  have hv := Dd h0
  have hne := hv.ne
  have hnp := hv.np
  refine Af <| Ai fun ds => Bj rfl (B2 (Ak rfl) rfl fun b1 hb1 nb1 => ?_)
  refine Bj rfl (B8 zr_26 rfl fun b2 hb2 nb2 => ?_)
  refine Aa rfl (Ae Ad) ?_
  refine Ah <| Ac <| Af <| Ai fun ds => Aa rfl (Bb B7 (Aq rfl <| Ab) rfl rfl (A7 1 rfl)) ?_
  refine Bj rfl (D2 bd_65 A1 (.cons (Ab) .nil) (open_ok hr h0) fun v3 F4 R7 hr5 hF6 => ?_)
  replace hr := hr.mono hF6
  obtain ⟨ba, kb, rfl, hX, rfl⟩ := hr5
  refine Aa rfl (Ag (Ab)) ?_
  refine Aa rfl (Az (Ab) rfl) ?_
  refine Aa rfl (Az (Al rfl <| Ab) rfl) ?_
  refine Aa rfl (Ae (Al rfl <| Ab)) ?_
  refine Aa rfl (Ae (Al rfl <| Ab)) ?_
  refine Ah <| Ac <| Af <| Af <| Ai fun ds => Aa rfl (Ag (Ab)) ?_
  refine Aa rfl (Bw (Ab) Ad) ?_
  refine Ah <| Ac <| Ao (Ab) (by decide) ?_
  refine Aw <| Ac <| Af <| Ai fun ds => Bj rfl (B8 zr_26 rfl fun b8 hb8 nb8 => ?_)
  refine Ah <| Ac <| Af <| Af <| Ai fun ds => Aa rfl (Am Ci (A5 rfl <| Ax rfl <| Ab)) ?_
  refine Aa rfl (Ap Cs (Ab) (Cell.own 2 rfl rfl)) ?_
  refine Aa rfl (Bm C2 (Ab) hr.places.plain) ?_
  refine Aa rfl (Ag Ad) ?_
  refine Ah <| Ac <| A0 <| Bt [6, 7, 9, 10, 11, 29, 30, 31, 32, 33, 34, 35, 36, 37, 38, 39, 40, 41, 42, 43, 44, 45, 46, 47, 48, 49, 50, 51, 52, 53, 54, 55, 56, 57, 58, 59, 60, 61, 62, 63, 64] (fun m e σ => ∃ p : Nat, m + p = s.places.length ∧ e 29 = .int .i64 (p : Int) ∧ ∃ v5 R5, Own 3 1 v5 (iL (needN s) p).length ((iL (needN s) p).flatMap intE) R5 ∧ σ = ⟨F4, (b8, bx 26 [v5]) :: (b2, bx 26 [.slice none 0 0]) :: (b1, bx 25 [vp, ve]) :: (kb, mapO []) :: R5⟩) (s.places.length) ?_ ?_
  · exact ⟨0, by omega, (Ab), _, [], E0, rfl⟩
  ·
   rintro m e _ ⟨p, hm, hs29, v5, R5, ho, rfl⟩; have hil9 := Ch (f := needN s) (n := p)
   by_cases hp : p < s.places.length
   ·
    refine Af <| Ai fun ds => Aa rfl (Bu (At rfl hs29) (Aj rfl <| Al rfl <| Ab)) ?_
    refine Ah <| Ac <| Af <| Ar (Ab) (by first | rfl | exact decide_eq_true (by omega)) ?_
    refine Aw <| Ac <| Af <| A0 <| Af <| Ai fun ds => Aa rfl (Ag (Al rfl <| At rfl hs29)) ?_
    refine Aa rfl (Ae (Ab)) ?_
    refine Ah <| Ac <| Af <| Ai fun ds => Aa rfl (Ae Ad) ?_
    refine Ah <| Ac <| Af <| Af <| Ai fun ds => Aa rfl (Am Bv (Ax rfl <| Aj rfl <| A2 rfl <| Ab)) ?_
    refine Aa rfl (Ap B1 (Ab) (Cell.own 2 rfl rfl)) ?_
    refine Aa rfl (Bm B6 (Ab) hr.eds.plain) ?_
    refine Aa rfl (Ag Ad) ?_
    refine Ah <| Ac <| A0 <| Bt [7, 9, 35, 36, 37, 38, 39, 40, 41, 42, 43, 44, 45, 46, 47] (fun m e σ => ∃ i : Nat, m + i = ps.length ∧ e 35 = .int .i64 (i : Int) ∧ e 7 = .int .i64 ((setTo s p i : Nat) : Int) ∧ σ = ⟨F4, (b8, bx 26 [v5]) :: (b2, bx 26 [.slice none 0 0]) :: (b1, bx 25 [vp, ve]) :: (kb, mapO []) :: R5⟩) (ps.length) ?_ ?_
    · exact ⟨0, by omega, (Ab), (Ax rfl <| Ab), rfl⟩
    ·
     rintro m1 e1 _ ⟨i, hm1, ht35, ht7, rfl⟩
     by_cases hli : i < ps.length
     ·
      have hil : i < s.editions.length := by omega
      have hri := hr.rd hli
      have hpi : p < (s.ed i).rd.length := by rw [hv.rdl i hil]; exact hp
      have er := rdT_at hpi
      have hrb := hv.rd i p hil hp
      have hst := setTo_lt (s := s) (p := p) (fun i hi => hv.rd i p hi hp) (k := i) (by omega)
      have hp8 := pow_le8T (n := (s.r i p).toNat) (by omega)
      refine Af <| Ai fun ds => Aa rfl (Bu (At rfl ht35) (Aj rfl <| Al rfl <| Ab)) ?_
      refine Ah <| Ac <| Af <| Ar (Ab) (by first | rfl | exact decide_eq_true (by omega)) ?_
      refine Aw <| Ac <| Af <| A0 <| Af <| Ai fun ds => Aa rfl (A8 (k := i) B6 (Al rfl <| Aj rfl <| Aq rfl <| Ab) hr.eds.plain (Al rfl <| At rfl ht35) rfl hli) ?_
      refine Aa rfl (Bb agg_64 (Ab) rfl rfl (hr.eds.whole hli)) ?_
      refine Bj rfl (B8 zr_64 rfl fun b11 hb11 nb11 => ?_)
      refine Cf (Ce sz_64 (Ab) (Al rfl <| Ab) (i := 0) rfl rfl rfl rfl (edE_one (hr.one _ (List.getElem_mem hli))) (.here) ?_)
      refine Ah <| Ac <| Ai fun ds => Aa rfl (Ag (Ax rfl <| At rfl ht7)) ?_
      refine Aa rfl (Am Cg (Al rfl <| Ab)) ?_
      refine Aa rfl (Ap Cb (Ab) (Cell.own 0 rfl rfl)) ?_
      refine Aa rfl (Ag (Ax rfl <| Aq rfl <| Al rfl <| Aj rfl <| Ax rfl <| Al rfl <| Ab)) ?_
      refine Aa rfl (A8 (k := p) Bh (Al rfl <| Ab) hri.plain (Ab) rfl hpi) ?_
      refine Aa rfl (Ap Bk (Ab) (hri.cell1 hpi rfl)) ?_
      refine Aa rfl (q_shl Ad (Ab) (k := (s.r i p).toNat) (by rw [er]; omega) (by omega) (show (1 : Int) * 2 ^ (s.r i p).toNat = ((2 ^ (s.r i p).toNat : Nat) : Int) by simp) (Int.le_trans (by decide) (Int.natCast_nonneg _)) (by omega)) ?_
      refine Aa rfl (q_or (Ax rfl <| Aq rfl <| Ab) (Ab) (m := setTo s p i) (k := 2 ^ (s.r i p).toNat) rfl rfl (by omega) (by omega) rfl) ?_
      refine Aa rfl (Ae (Ab)) ?_
      refine Ah <| Bd <| Ac <| Dj (fun _ _ h => h.drop (.cons _ <| .cons_cons _ <| .cons_cons _ <| .cons_cons _ <| .cons_cons _ <| .refl _)) ?_
      refine Ai fun ds => Aa rfl (Bq (A5 rfl <| Ax rfl <| Al rfl <| At rfl ht35) Ad rfl (by omega) (by omega)) ?_
      refine Aa rfl (Ag (Ab)) ?_
      refine Ah <| Ac ⟨_, m1 - 1, Off.eq (Dr rfl <| Ee rfl <| ou2 rfl <| Ds rfl <| Bg), by omega, ?_⟩
      exact ⟨i + 1, by omega, (Ab), ((Aq rfl <| Ab)).trans (by rw [setTo_succ]), rfl⟩
     ·
      refine Af <| Ai fun ds => Aa rfl (Bu (At rfl ht35) (Aj rfl <| Al rfl <| Ab)) ?_
      refine Ah <| Ac <| Af <| Ao (Ab) (by first | rfl | exact decide_eq_false (by omega)) ?_
      obtain rfl : i = ps.length := by omega
      have hst := setTo_lt (s := s) (p := p) (fun i hi => hv.rd i p hi hp) (k := ps.length) (by omega)
      refine Bp ?_
      refine Bf <| Bf <| Bi <| Ac <| Af <| Ai fun ds => Aa rfl (Ae Ad) ?_
      refine Ah <| Ac <| Af <| Af <| Ai fun ds => Aa rfl (Ag Ad) ?_
      refine Ah <| Ac <| A0 <| Bt [10, 11, 48, 49, 50, 51, 52, 53, 54, 55, 56, 57, 58] (fun m e σ => ∃ j : Nat, m + j = 3 ∧ e 48 = .int .i64 (j : Int) ∧ e 10 = .int .i64 (-1 + kindTo s p j) ∧ σ = ⟨F4, (b8, bx 26 [v5]) :: (b2, bx 26 [.slice none 0 0]) :: (b1, bx 25 [vp, ve]) :: (kb, mapO []) :: R5⟩) (3) ?_ ?_
      · exact ⟨0, rfl, (Ab), (Al rfl <| Ab), rfl⟩
      ·
       rintro m2 e2 _ ⟨j, hm2, hu48, hu10, rfl⟩
       by_cases hl3 : j < 3
       ·
        have hkb := kindTo_bound (s := s) (p := p) j
        have hbt : (setTo s p ps.length / 2 ^ (j + 1) &&& 1 : Nat) = (if metB s p (j + 1) = true then 1 else 0 : Nat) := by have h9 := bit_met (j := j) hv hp; rw [← hlen] at h9; exact h9
        refine Af <| Ai fun ds => Aa rfl (Bu (At rfl hu48) Ad) ?_
        refine Ah <| Ac <| Af <| Ar (Ab) (by first | rfl | exact decide_eq_true (by omega)) ?_
        refine Aw <| Ac <| Af <| A0 <| Af <| Ai fun ds => Aa rfl (Ag (Al rfl <| At rfl hu48)) ?_
        refine Aa rfl (Ae (Ab)) ?_
        refine Ah <| Ac <| Ai fun ds => Aa rfl (Ag (Aq rfl <| Al rfl <| At rfl hu10)) ?_
        refine Aa rfl (Ag (Ax rfl <| Aj rfl <| Aq rfl <| Al rfl <| At rfl ht7)) ?_
        refine Aa rfl (Ag (Aq rfl <| Ab)) ?_
        refine Aa rfl (Bq (Ab) Ad rfl (by omega) (by omega)) ?_
        refine Aa rfl (q_shr (Aq rfl <| Ab) (Ab) (k := j + 1) (by omega) (by show j + 1 < 64; omega) (shr_nat (m := setTo s p ps.length))) ?_
        refine Aa rfl (q_and (Ab) Ad (m := setTo s p ps.length / 2 ^ (j + 1)) (k := 1) rfl rfl (by have := Nat.div_le_self (setTo s p ps.length) (2 ^ (j + 1)); omega) (by omega) rfl) ?_
        refine Aa rfl (Bq (Ax rfl <| Al rfl <| Ab) (Ab) rfl (by rw [hbt]; split <;> omega) (by rw [hbt]; split <;> omega)) ?_
        refine Aa rfl (Ae (Ab)) ?_
        refine Ah <| Bd <| Ac <| Ai fun ds => Aa rfl (Bq (A5 rfl <| Aq rfl <| Al rfl <| At rfl hu48) Ad rfl (by omega) (by omega)) ?_
        refine Aa rfl (Ag (Ab)) ?_
        refine Ah <| Ac ⟨_, m2 - 1, Off.eq (Dr rfl <| Ee rfl <| Ds rfl <| Bg), by omega, ?_⟩
        refine ⟨j + 1, by omega, (Ab), ((Aq rfl <| Ab)).trans ?_, rfl⟩
        rw [kindTo_succ, hbt]; congr 1; split <;> omega
       ·
        refine Af <| Ai fun ds => Aa rfl (Bu (At rfl hu48) Ad) ?_
        refine Ah <| Ac <| Af <| Ao (Ab) (by first | rfl | exact decide_eq_false (by omega)) ?_
        obtain rfl : j = 3 := by omega
        have hkb := kindTo_bound (s := s) (p := p) 3
        refine Bp ?_
        refine Bf <| Bf <| Bi <| Ac <| Ai fun ds => Aa rfl (Ap Cb (Al rfl <| Aj rfl <| Aq rfl <| Al rfl <| Aj rfl <| A5 rfl <| Aj rfl <| Ax rfl <| Ab) (Cell.own 0 rfl rfl)) ?_
        refine Aa rfl (Ag (Aq rfl <| At rfl hu10)) ?_
        refine Aa rfl (q_max2 Ad (Ab)) ?_
        refine Bj rfl (B4 Bh Df rfl (.cons (Ab) .nil) rfl rfl (by decide) (by simp [Value.oneCell']) fun b13 hb13 nb13 => ?_)
        refine Bj rfl (Co Bh el_3 (Aq rfl <| Al rfl <| Ab) ho (Ab) (Dl (s := 1) 0 rfl rfl (by simp [Value.oneCell'])) (by omega) (by omega) (.s <| .s <| .s <| .s <| .s <| .z) .last fun v14 R15 ho16 => ?_)
        have ho2 : Own 3 1 v14 (iL (needN s) (p + 1)).length ((iL (needN s) (p + 1)).flatMap intE) R15 := by have h9 := ho16; rw [iL_succ]; exact h9.snoc (x := needN s p) rfl (by unfold needN kindsN intE; congr 2; omega)
        refine Cf (Cm sz_26 (Ax rfl <| Aq rfl <| Aj rfl <| Aq rfl <| Al rfl <| Aj rfl <| A5 rfl <| Aj rfl <| Ax rfl <| Ab) (Ab) (i := 1) rfl (.here) (Own.one ho2) (.next <| .here) ?_)
        refine Ah <| Bd <| Ac <| Dj (fun _ _ h => h.drop (.cons _ <| .cons_cons _ <| .cons_cons _ <| .cons_cons _ <| .cons_cons _ <| .refl _)) ?_
        refine Ai fun ds => Aa rfl (Bq (Ax rfl <| Aq rfl <| Aj rfl <| Aq rfl <| Al rfl <| Aj rfl <| A5 rfl <| At rfl hs29) Ad rfl (by omega) (by omega)) ?_
        refine Aa rfl (Ag (Ab)) ?_
        refine Ah <| Ac ⟨_, m - 1, Off.eq (Dr rfl <| Du rfl <| ou2 rfl <| Ds rfl <| Du rfl <| Dr rfl <| Bg), by omega, ?_⟩
        refine ⟨p + 1, by omega, (Ab), _, _, ho2, rfl⟩
   ·
    refine Af <| Ai fun ds => Aa rfl (Bu (At rfl hs29) (Aj rfl <| Al rfl <| Ab)) ?_
    refine Ah <| Ac <| Af <| Ao (Ab) (by first | rfl | exact decide_eq_false (by omega)) ?_
    obtain rfl : p = s.places.length := by omega
    refine Ct (σ := ⟨_, _⟩) (by rfl) ho (.s <| .s <| .s <| .s <| .z) .last fun F17 hF18 hz19 => ?_
    replace hX := hX.mono hF18
    have hnd := ho.sl (fun _ => rfl) hz19 (by rw [Ch]; omega)
    refine B9 (i := 0) rfl hb8 (.here) fun F20 hF21 hz5 => ?_
    replace hX := hX.mono hF21
    replace hnd := hnd.mono hF21
    refine Bp ?_
    refine Bf <| Bf <| Bi <| Ac <| Af <| Ai fun ds => Bj rfl (B8 zr_4 rfl fun b22 hb22 nb22 => ?_)
    refine Cf (Cm sz_4 (Ab) Ad (i := 0) rfl (.here) rfl (.here) ?_)
    refine Ah <| Ac <| Af <| Ai fun ds => Aa rfl (Ag (Aq rfl <| Aj rfl <| A5 rfl <| Ab)) ?_
    refine Aa rfl (q_makeFunc2 (.cons (Ab) .nil) .nil) ?_
    refine Bj rfl (B8 zr_119 rfl fun b23 hb23 nb23 => ?_)
    refine Cf (Cm sz_119 (Ab) (Al rfl <| Ab) (i := 0) rfl (.here) rfl (.here) ?_)
    refine Ah <| Ac <| Af <| Af <| B9 (i := 0) rfl hb23 (.here) fun F24 hF25 hz13 => ?_
    replace hX := hX.mono hF25
    replace hnd := hnd.mono hF25
    replace hz5 := hF25 _ _ hz5
    refine Ai fun ds => Aa rfl (Ag (Ax rfl <| Al rfl <| Aj rfl <| A5 rfl <| Ab)) ?_
    refine Bj rfl (Cn bd_83 A1 (.cons (Ab) .nil) (trees_ok hX) fun v26 F27 hr28 hF29 => ?_)
    replace hX := hX.mono hF29
    replace hnd := hnd.mono hF29
    replace hz5 := hF29 _ _ hz5
    replace hz13 := hF29 _ _ hz13
    obtain ⟨dz, rfl, hzd⟩ := hr28
    refine Ah <| Ac <| A0 <| WC_rangeG rfl (Ab) (bd_116) (trees1_iter hX hv hzd) (Heap.le_refl _) (fun pre G H => ∃ v2, Nats G v2 ((cleanR s pre).getD []) ∧ H = [(b22, bx 4 [.bool (cleanR s pre).isSome]), (b2, bx 26 [v2]), (b1, bx 25 [vp, ve]), (kb, mapO [])]) (fun _ _ _ => False) (fun _ _ _ _ hF h => by obtain ⟨v, h1, h2⟩ := h; exact ⟨v, h1.mono hF, h2⟩) (fun _ _ _ _ _ h => h) ⟨_, Sl.nil, rfl⟩ (fun L D fn tm pre x rest G H1 vs hxs hle hJ hA => ?_) (fun _ _ _ _ h => h.elim) (fun F2 H1 hF2 hJ => ?_)
    ·
     replace hX := hX.mono hle
     replace hnd := hnd.mono hle
     replace hz5 := hle _ _ hz5
     replace hz13 := hle _ _ hz13
     obtain ⟨v2, hv2, rfl⟩ := hJ
     obtain rfl : vs = [treeV x] := hA
     have hxm : x ∈ allTrees s := by rw [hxs]; simp
     obtain ⟨hll, ht, -⟩ := Dy.1 hxm
     refine ⟨rfl, rfl, fun w1 => ?_⟩
     refine WC_eq (e' := (upd _ 69 (treeV x))) rfl rfl ?_
     refine Cd (.inr (by kernel_rfl)) (fun _ _ h => h) fun ds => ?_
     refine Bj rfl (B8 Ed rfl fun b30 hb30 nb30 => ?_)
     refine WL_order (.cons (.next <| .here) <| .cons (.next <| .here) <| .cons (.here) <| .cons (.here) <| .cons (.here) <| .cons (.here) <| .cons (.here) <| .nil) ?_
     refine Cf (Ce Em (Ab) (Al rfl <| Ab) (i := 2) rfl rfl rfl rfl Dg (.next <| .next <| .here) ?_)
     refine Ah <| Ac ⟨_, rfl, ?_⟩
     refine A0 <| Af <| WC_name (i := 0) rfl (fun _ => .here) fun oL hoL => ?_
     refine Cd (.inr (by kernel_rfl)) (fun _ _ h => h) fun ds => ?_
     refine Aa rfl (Ae Ad) ?_
     refine Ah <| Ac <| Af <| Af <| Cd (.inr (by kernel_rfl)) (fun _ _ h => h) fun ds => ?_
     refine Aa rfl (Ap Cb (A5 rfl <| Aq rfl <| Aj rfl <| Ax rfl <| Ab) (CellF.own hz5 rfl).cell) ?_
     refine Aa rfl (Bm Bh (Ab) hnd.plain) ?_
     refine Aa rfl (Ag Ad) ?_
     refine Ah <| Ac <| A0 <| Bt [15, 16, 17, 72, 73, 74, 75, 76, 77, 78, 79, 80, 81, 82, 83, 84, 85, 86, 87] (fun m e σ => ∃ q : Nat, m + q = s.places.length ∧ e 72 = .int .i64 (q : Int) ∧ ∃ v15 R15, e 15 = v15 ∧ Own 3 1 v15 (selN (uncleanB s x) q).length ((selN (uncleanB s x) q).flatMap natE) R15 ∧ σ = ⟨G, (L, oL) :: (D, openO) :: (b30, bx 100 (treeC x)) :: (b22, bx 4 [.bool (cleanR s pre).isSome]) :: (b2, bx 26 [v2]) :: (b1, bx 25 [vp, ve]) :: (kb, mapO []) :: R15⟩) (s.places.length) ?_ ?_
     · exact ⟨0, by omega, (Ab), _, _, (Aq rfl <| Al rfl <| Ab), Own.nil, rfl⟩
     ·
      rintro m e _ ⟨q, hm, hs72, v15, R15, hs15, ho, rfl⟩; have hsl := Eq (p := (uncleanB s x)) (k := q)
      by_cases hlq : q < s.places.length
      ·
       refine Af <| Cd (.inr (by kernel_rfl)) (fun _ _ h => h) fun ds => ?_
       refine Aa rfl (Bu (At rfl hs72) (Aj rfl <| Al rfl <| Ab)) ?_
       refine Ah <| Ac <| Af <| Ar (Ab) (by first | rfl | exact decide_eq_true (by omega)) ?_
       have hnq : (iL (needN s) s.places.length)[q]'(by rw [Ch]; exact hlq) = needN s q := iL_at _
       have hup := unclean_place ht hv hll (p := q)
       by_cases hub : uncleanB s x q = true
       ·
        refine Aw <| Ac <| Af <| A0 <| Af <| Cd (.inr (by kernel_rfl)) (fun _ _ h => h) fun ds => ?_
        refine Aa rfl (Ag (Al rfl <| At rfl hs72)) ?_
        refine Aa rfl (A8 (k := q) Bh (Aq rfl <| Aj rfl <| Aq rfl <| Ab) hnd.plain (Aq rfl <| At rfl hs72) rfl (by rw [Ch]; exact hlq)) ?_
        refine Aa rfl (Ap Bk (Ab) (hnd.cell1 (by rw [Ch]; exact hlq) rfl)) ?_
        refine Aa rfl (Ae (Aq rfl <| Ab)) ?_
        refine Aa rfl (Ae (Al rfl <| Ab)) ?_
        refine Ah <| Ac <| Af <| Cd (.inr (by kernel_rfl)) (fun _ _ h => h) fun ds => ?_
        refine Aa rfl (Ap one_119 (Ax rfl <| Aq rfl <| Aj rfl <| A5 rfl <| Ab) (CellF.own hz13 rfl).cell) ?_
        refine Aa rfl (Bb B0 (Ax rfl <| Aq rfl <| Al rfl <| Aj rfl <| Ax rfl <| Ab) rfl rfl (A7 2 rfl)) ?_
        refine Aa rfl (Ag (Aq rfl <| Al rfl <| Ab)) ?_
        refine Bx rfl (q_callF bd_82 (Aq rfl <| Ab) (.cons (Al rfl <| Ab) (.cons (Ab) .nil)) (Ea hX ht hll hv hlq) (fun _ _ h => h)) ?_
        refine Aa rfl (Ag (Ax rfl <| Ab)) ?_
        refine Aa rfl (Bw (Al rfl <| Ab) (Ab)) ?_
        refine Ah <| Ac <| Ar (Ab) (decide_eq_true (by rw [hnq]; exact hup.2 hub)) ?_
        refine Cd (.inr (by kernel_rfl)) (fun _ _ h => h) fun ds => ?_
        refine Aa rfl (Ag (A5 rfl <| Ax rfl <| At rfl hs15)) ?_
        refine Aa rfl (Ag (A5 rfl <| Ab)) ?_
        refine Bj rfl (B4 Bh Df rfl (.cons (Ab) .nil) rfl rfl (by decide) (by simp [Value.oneCell']) fun b32 hb32 nb32 => ?_)
        refine Bj rfl (Co Bh el_3 (Aq rfl <| Ab) ho (Ab) (Dl (s := 1) 0 rfl rfl (by simp [Value.oneCell'])) (by omega) (by omega) (.s <| .s <| .s <| .s <| .s <| .s <| .s <| .s <| .z) .last fun v33 R34 ho35 => ?_)
        have ho2 := ho35.snoc (x := q) rfl rfl
        refine Aa rfl (Ae (Ab)) ?_
        refine Ah <| Bd <| Ac <| Dj (fun _ _ h => h.drop (.cons _ <| .cons_cons _ <| .cons_cons _ <| .cons_cons _ <| .cons_cons _ <| .cons_cons _ <| .cons_cons _ <| .cons_cons _ <| .refl _)) ?_
        refine Cd (.inr (by kernel_rfl)) (fun _ _ h => h) fun ds => ?_
        refine Aa rfl (Bq (A2 rfl <| Al rfl <| At rfl hs72) Ad rfl (by omega) (by omega)) ?_
        refine Aa rfl (Ag (Ab)) ?_
        refine Ah <| Ac ⟨_, m - 1, Off.eq (C6 rfl <| ou2 rfl <| Ds rfl <| Bg), by omega, ?_⟩
        exact ⟨q + 1, by omega, (Ab), _, _, (Aq rfl <| Ab), by rw [Ep, if_pos hub]; exact ho2, rfl⟩
       ·
        replace hub : uncleanB s x q = false := by simpa using hub
        refine Aw <| Ac <| Af <| A0 <| Af <| Cd (.inr (by kernel_rfl)) (fun _ _ h => h) fun ds => ?_
        refine Aa rfl (Ag (Al rfl <| At rfl hs72)) ?_
        refine Aa rfl (A8 (k := q) Bh (Aq rfl <| Aj rfl <| Aq rfl <| Ab) hnd.plain (Aq rfl <| At rfl hs72) rfl (by rw [Ch]; exact hlq)) ?_
        refine Aa rfl (Ap Bk (Ab) (hnd.cell1 (by rw [Ch]; exact hlq) rfl)) ?_
        refine Aa rfl (Ae (Aq rfl <| Ab)) ?_
        refine Aa rfl (Ae (Al rfl <| Ab)) ?_
        refine Ah <| Ac <| Af <| Cd (.inr (by kernel_rfl)) (fun _ _ h => h) fun ds => ?_
        refine Aa rfl (Ap one_119 (Ax rfl <| Aq rfl <| Aj rfl <| A5 rfl <| Ab) (CellF.own hz13 rfl).cell) ?_
        refine Aa rfl (Bb B0 (Ax rfl <| Aq rfl <| Al rfl <| Aj rfl <| Ax rfl <| Ab) rfl rfl (A7 2 rfl)) ?_
        refine Aa rfl (Ag (Aq rfl <| Al rfl <| Ab)) ?_
        refine Bx rfl (q_callF bd_82 (Aq rfl <| Ab) (.cons (Al rfl <| Ab) (.cons (Ab) .nil)) (Ea hX ht hll hv hlq) (fun _ _ h => h)) ?_
        refine Aa rfl (Ag (Ax rfl <| Ab)) ?_
        refine Aa rfl (Bw (Al rfl <| Ab) (Ab)) ?_
        refine Ah <| Ac <| Ao (Ab) (decide_eq_false (by rw [hnq]; exact fun h => by rw [hup.1 h] at hub; cases hub)) ?_
        refine Aw <| Bd <| Ac <| Cd (.inr (by kernel_rfl)) (fun _ _ h => h) fun ds => ?_
        refine Aa rfl (Bq (A5 rfl <| Ax rfl <| At rfl hs72) Ad rfl (by omega) (by omega)) ?_
        refine Aa rfl (Ag (Ab)) ?_
        refine Ah <| Ac ⟨_, m - 1, Off.eq (Dr rfl <| Ee rfl <| ou2 rfl <| Bg), by omega, ?_⟩
        exact ⟨q + 1, by omega, (Ab), _, _, (A5 rfl <| Ax rfl <| Aq rfl <| At rfl hs15), by rw [Ep, if_neg (by rw [hub]; simp)]; exact ho, rfl⟩
      ·
       refine Af <| Cd (.inr (by kernel_rfl)) (fun _ _ h => h) fun ds => ?_
       refine Aa rfl (Bu (At rfl hs72) (Aj rfl <| Al rfl <| Ab)) ?_
       refine Ah <| Ac <| Af <| Ao (Ab) (by first | rfl | exact decide_eq_false (by omega)) ?_
       obtain rfl : q = s.places.length := by omega
       refine WC_freezeRM (σ := ⟨_, _⟩) (by intro m hm; simp [keys] at hm ⊢; rcases hm with h | h | h | h | h | h <;> simp [h]) ho (.s <| .s <| .s <| .s <| .s <| .s <| .s <| .z) .last fun F36 hF37 hz38 => ?_
       replace hle := hle.mono hF37
       replace hv2 := hv2.mono hF37
       have hl15 := ho.sl (fun _ => rfl) hz38 (by omega)
       change Nats _ _ (uncleanL s x) at hl15
       rcases opt_or (cleanR s pre) with hcs | ⟨bb, hcs⟩
       ·
        refine Bp ?_
        refine Bf <| Bf <| Bi <| Ac <| Af <| Cd (.inr (by kernel_rfl)) (fun _ _ h => h) fun ds => ?_
        refine Aa rfl (Ap one_4 (Al rfl <| Aj rfl <| A5 rfl <| Aq rfl <| Al rfl <| Ab) (Cell.own 3 rfl rfl)) ?_
        refine Aa rfl (Cq (Ab)) ?_
        refine Aa rfl (Ag (Ab)) ?_
        refine Au rfl rfl (Ab) (.inl (congrArg Value.bool (by rw [hcs]; rfl))) rfl ?_
        refine Au rfl rfl (Al rfl <| Ab) (.inl (congrArg Value.bool (by rw [hcs]; rfl))) rfl ?_
        refine Au rfl rfl (Aq rfl <| Ab) (.inl (congrArg Value.bool (by rw [hcs]; rfl))) rfl ?_
        refine Au rfl rfl (Aq rfl <| Al rfl <| Ab) (.inl (congrArg Value.bool (by rw [hcs]; rfl))) rfl ?_
        refine Au rfl rfl (Ax rfl <| Ab) (.inl (congrArg Value.bool (by rw [hcs]; rfl))) rfl ?_
        refine Aa rfl (A6 (Ax rfl <| Al rfl <| Ab) (by rw [hcs]; rfl) Ad) ?_
        refine Aa rfl (Ag (Ab)) ?_
        refine Au rfl rfl (Ab) (.inl (congrArg Value.bool rfl)) rfl ?_
        refine Au rfl rfl (Al rfl <| Ab) (.inl (congrArg Value.bool rfl)) rfl ?_
        refine Au rfl rfl (Aq rfl <| Ab) (.inl (congrArg Value.bool rfl)) rfl ?_
        refine Au rfl rfl (Aq rfl <| Al rfl <| Ab) (.inl (congrArg Value.bool rfl)) rfl ?_
        refine Au rfl rfl (Ax rfl <| Ab) (.inl (congrArg Value.bool rfl)) rfl ?_
        refine Au rfl rfl (Ax rfl <| Al rfl <| Ab) (.inl (congrArg Value.bool rfl)) rfl ?_
        refine Au rfl rfl (Ab) (.inr rfl) rfl ?_
        refine Au rfl rfl (Al rfl <| Ab) (.inr rfl) rfl ?_
        refine Au rfl rfl (Aq rfl <| Ab) (.inr rfl) rfl ?_
        refine Au rfl rfl (Aq rfl <| Al rfl <| Ab) (.inr rfl) rfl ?_
        refine Au rfl rfl (A5 rfl <| Aq rfl <| Ab) (.inl (congrArg Value.bool rfl)) rfl ?_
        refine Aa rfl (A6 (A5 rfl <| Aq rfl <| Al rfl <| Ab) rfl Ad) ?_
        refine Ah <| Ac <| Ar (Ab) rfl ?_
        subst hoL
        refine Cd (.inr (by kernel_rfl)) (fun _ _ h => h) fun ds => ?_
        refine Aa rfl (Ag (A2 rfl <| Ax rfl <| Aq rfl <| Al rfl <| At rfl hs15)) ?_
        refine Cf (Cm sz_26 (A2 rfl <| A5 rfl <| Aj rfl <| A5 rfl <| Ax rfl <| Al rfl <| Aj rfl <| A5 rfl <| Ax rfl <| Aq rfl <| Al rfl <| Ab) (Ab) (i := 4) rfl (.here) (by first | rfl | exact hl15.plain.one) (.next <| .next <| .next <| .next <| .here) ?_)
        refine Cf (Cm sz_4 (A2 rfl <| A5 rfl <| Aj rfl <| A5 rfl <| Aq rfl <| Al rfl <| Ab) Ad (i := 3) rfl (.here) (by first | rfl | exact hl15.plain.one) (.next <| .next <| .next <| .here) ?_)
        refine Ah <| Bd ?_
        refine Ez (.one (.here) <| .one (.here) <| .one (.next <| .here) <| .one (.next <| .here) <| .one (.next <| .here) <| .one (.next <| .here) <| .nil) ?_
        refine .inl ⟨rfl, _, rfl, hle, ?_⟩
        exact ⟨_, by rw [cleanS_none hcs]; exact hl15, by rw [cleanS_none hcs]; first | done | rfl⟩
       ·
        have hv2b := hv2
        rw [hcs] at hv2b
        replace hv2b : Nats _ v2 bb := hv2b
        have hbl := hv2b.plain.lt
        refine Bp ?_
        refine Bf <| Bf <| Bi <| Ac <| Af <| Cd (.inr (by kernel_rfl)) (fun _ _ h => h) fun ds => ?_
        refine Aa rfl (Ap one_4 (Al rfl <| Aj rfl <| A5 rfl <| Aq rfl <| Al rfl <| Ab) (Cell.own 3 rfl rfl)) ?_
        refine Aa rfl (Cq (Ab)) ?_
        refine Aa rfl (Ag (Ab)) ?_
        refine As rfl rfl (Ab) (by rw [hcs]; rfl) ?_
        refine Aa rfl (Ag (Ax rfl <| At rfl hs15)) ?_
        refine As rfl rfl (Al rfl <| Ab) (by rw [hcs]; rfl) ?_
        refine Aa rfl (Bm Bh (Ab) hl15.plain) ?_
        refine As rfl rfl (Aq rfl <| Ab) (by rw [hcs]; rfl) ?_
        refine Aa rfl (Ap Cb (Ax rfl <| Aq rfl <| Aj rfl <| A5 rfl <| Ax rfl <| Al rfl <| Aj rfl <| A5 rfl <| Ax rfl <| Aq rfl <| Al rfl <| Ab) (Cell.own 4 rfl rfl)) ?_
        refine As rfl rfl (Aq rfl <| Al rfl <| Ab) (by rw [hcs]; rfl) ?_
        refine Aa rfl (Bm Bh (Ab) hv2.plain) ?_
        refine As rfl rfl (Ax rfl <| Ab) (by rw [hcs]; rfl) ?_
        refine Aa rfl (Bu (Aq rfl <| Ab) (Ab)) ?_
        refine Aa rfl (A9 (Ax rfl <| Al rfl <| Ab) (by rw [hcs]; rfl) (Ab)) ?_
        refine Aa rfl (Ag (Ab)) ?_
        by_cases h1 : (uncleanL s x).length < bb.length
        ·
         refine Au rfl rfl (Ab) (.inl (congrArg Value.bool (decide_eq_true (by rw [hcs]; show (_ : Int) < (bb.length : Int); omega)))) rfl ?_
         refine Au rfl rfl (Al rfl <| Ab) (.inl (congrArg Value.bool (decide_eq_true (by rw [hcs]; show (_ : Int) < (bb.length : Int); omega)))) rfl ?_
         refine Au rfl rfl (Aq rfl <| Ab) (.inl (congrArg Value.bool (decide_eq_true (by rw [hcs]; show (_ : Int) < (bb.length : Int); omega)))) rfl ?_
         refine Au rfl rfl (Aq rfl <| Al rfl <| Ab) (.inl (congrArg Value.bool (decide_eq_true (by rw [hcs]; show (_ : Int) < (bb.length : Int); omega)))) rfl ?_
         refine Au rfl rfl (Ax rfl <| Ab) (.inl (congrArg Value.bool (decide_eq_true (by rw [hcs]; show (_ : Int) < (bb.length : Int); omega)))) rfl ?_
         refine Au rfl rfl (Ax rfl <| Al rfl <| Ab) (.inl (congrArg Value.bool (decide_eq_true (by rw [hcs]; show (_ : Int) < (bb.length : Int); omega)))) rfl ?_
         refine Au rfl rfl (Ab) (.inr rfl) rfl ?_
         refine Au rfl rfl (Al rfl <| Ab) (.inr rfl) rfl ?_
         refine Au rfl rfl (Aq rfl <| Ab) (.inr rfl) rfl ?_
         refine Au rfl rfl (Aq rfl <| Al rfl <| Ab) (.inr rfl) rfl ?_
         refine Au rfl rfl (A5 rfl <| Aq rfl <| Ab) (.inl (congrArg Value.bool (decide_eq_true (by rw [hcs]; show (_ : Int) < (bb.length : Int); omega)))) rfl ?_
         refine Aa rfl (A6 (A5 rfl <| Aq rfl <| Al rfl <| Ab) (decide_eq_true (by rw [hcs]; show (_ : Int) < (bb.length : Int); omega)) Ad) ?_
         refine Ah <| Ac <| Ar (Ab) rfl ?_
         subst hoL
         refine Cd (.inr (by kernel_rfl)) (fun _ _ h => h) fun ds => ?_
         refine Aa rfl (Ag (A2 rfl <| Ax rfl <| Aq rfl <| Al rfl <| At rfl hs15)) ?_
         refine Cf (Cm sz_26 (A2 rfl <| A5 rfl <| Aj rfl <| A5 rfl <| Ax rfl <| Al rfl <| Aj rfl <| A5 rfl <| Ax rfl <| Aq rfl <| Al rfl <| Ab) (Ab) (i := 4) rfl (.here) (by first | rfl | exact hl15.plain.one) (.next <| .next <| .next <| .next <| .here) ?_)
         refine Cf (Cm sz_4 (A2 rfl <| A5 rfl <| Aj rfl <| A5 rfl <| Aq rfl <| Al rfl <| Ab) Ad (i := 3) rfl (.here) (by first | rfl | exact hl15.plain.one) (.next <| .next <| .next <| .here) ?_)
         refine Ah <| Bd ?_
         refine Ez (.one (.here) <| .one (.here) <| .one (.next <| .here) <| .one (.next <| .here) <| .one (.next <| .here) <| .one (.next <| .here) <| .nil) ?_
         refine .inl ⟨rfl, _, rfl, hle, ?_⟩
         exact ⟨_, by rw [cleanS_yes hcs (.inl h1)]; exact hl15, by rw [cleanS_yes hcs (.inl h1)]; first | done | rfl⟩
        ·
         refine As rfl rfl (Ab) (decide_eq_false (by rw [hcs]; show ¬ (_ : Int) < (bb.length : Int); omega)) ?_
         refine Aa rfl (Ag (A5 rfl <| Aq rfl <| Al rfl <| At rfl hs15)) ?_
         refine As rfl rfl (Al rfl <| Ab) (decide_eq_false (by rw [hcs]; show ¬ (_ : Int) < (bb.length : Int); omega)) ?_
         refine Aa rfl (Bm Bh (Ab) hl15.plain) ?_
         refine As rfl rfl (Aq rfl <| Ab) (decide_eq_false (by rw [hcs]; show ¬ (_ : Int) < (bb.length : Int); omega)) ?_
         refine Aa rfl (Ap Cb (A5 rfl <| Ax rfl <| Al rfl <| Aj rfl <| A5 rfl <| Ax rfl <| Al rfl <| Aj rfl <| A5 rfl <| Ax rfl <| Aq rfl <| Al rfl <| Ab) (Cell.own 4 rfl rfl)) ?_
         refine As rfl rfl (Aq rfl <| Al rfl <| Ab) (decide_eq_false (by rw [hcs]; show ¬ (_ : Int) < (bb.length : Int); omega)) ?_
         refine Aa rfl (Bm Bh (Ab) hv2.plain) ?_
         refine As rfl rfl (Ax rfl <| Ab) (decide_eq_false (by rw [hcs]; show ¬ (_ : Int) < (bb.length : Int); omega)) ?_
         refine Aa rfl (By (Aq rfl <| Ab) (Ab)) ?_
         refine As rfl rfl (Ax rfl <| Al rfl <| Ab) (decide_eq_false (by rw [hcs]; show ¬ (_ : Int) < (bb.length : Int); omega)) ?_
         refine Aa rfl (Ag (Ab)) ?_
         by_cases h2 : (uncleanL s x).length = bb.length
         ·
          refine As rfl rfl (Ab) (decide_eq_true (by rw [hcs]; show (_ : Int) = (bb.length : Int); omega)) ?_
          refine Aa rfl (Ag (A2 rfl <| Al rfl <| At rfl hs15)) ?_
          refine As rfl rfl (Al rfl <| Ab) (decide_eq_true (by rw [hcs]; show (_ : Int) = (bb.length : Int); omega)) ?_
          refine Aa rfl (Ap Cb (A2 rfl <| Aq rfl <| Aj rfl <| A5 rfl <| Ax rfl <| Al rfl <| Aj rfl <| A5 rfl <| Ax rfl <| Aq rfl <| Al rfl <| Ab) (Cell.own 4 rfl rfl)) ?_
          refine As rfl rfl (Aq rfl <| Ab) (decide_eq_true (by rw [hcs]; show (_ : Int) = (bb.length : Int); omega)) ?_
          refine Bx rfl (Be bd_84 A1 (.cons (Al rfl <| Ab) (.cons (Ab) .nil)) (compare_ok hl15 hv2) (fun _ _ h => h)) ?_
          refine As rfl rfl (Aq rfl <| Al rfl <| Ab) (decide_eq_true (by rw [hcs]; show (_ : Int) = (bb.length : Int); omega)) ?_
          refine Aa rfl (Bu (Ab) Ad) ?_
          refine As rfl rfl (A5 rfl <| Aq rfl <| Ab) (decide_eq_false (by rw [hcs]; show ¬ (_ : Int) < (bb.length : Int); omega)) ?_
          refine Aa rfl (A6 (Ax rfl <| Ab) (decide_eq_true (by rw [hcs]; show (_ : Int) = (bb.length : Int); omega)) (Ab)) ?_
          refine Aa rfl (A9 (A5 rfl <| Aq rfl <| Al rfl <| Ab) (decide_eq_false (by rw [hcs]; show ¬ (_ : Int) < (bb.length : Int); omega)) (Ab)) ?_
          refine Ah <| Ac ?_
          by_cases h3 : cmpL (uncleanL s x) bb < 0
          ·
           refine Ar (Ab) (by rw [hcs]; exact decide_eq_true h3) ?_
           subst hoL
           refine Cd (.inr (by kernel_rfl)) (fun _ _ h => h) fun ds => ?_
           refine Aa rfl (Ag (A2 rfl <| Ax rfl <| Aq rfl <| Al rfl <| At rfl hs15)) ?_
           refine Cf (Cm sz_26 (A2 rfl <| A5 rfl <| Aj rfl <| A5 rfl <| Ax rfl <| Al rfl <| Aj rfl <| A5 rfl <| Ax rfl <| Aq rfl <| Al rfl <| Ab) (Ab) (i := 4) rfl (.here) (by first | rfl | exact hl15.plain.one) (.next <| .next <| .next <| .next <| .here) ?_)
           refine Cf (Cm sz_4 (A2 rfl <| A5 rfl <| Aj rfl <| A5 rfl <| Aq rfl <| Al rfl <| Ab) Ad (i := 3) rfl (.here) (by first | rfl | exact hl15.plain.one) (.next <| .next <| .next <| .here) ?_)
           refine Ah <| Bd ?_
           refine Ez (.one (.here) <| .one (.here) <| .one (.next <| .here) <| .one (.next <| .here) <| .one (.next <| .here) <| .one (.next <| .here) <| .nil) ?_
           refine .inl ⟨rfl, _, rfl, hle, ?_⟩
           exact ⟨_, by rw [cleanS_yes hcs (.inr ⟨h2, h3⟩)]; exact hl15, by rw [cleanS_yes hcs (.inr ⟨h2, h3⟩)]; first | done | rfl⟩
          ·
           refine Ao (Ab) (by rw [hcs]; exact decide_eq_false h3) ?_
           subst hoL
           refine Aw <| Bd ?_
           refine Ez (.one (.here) <| .one (.here) <| .one (.next <| .here) <| .one (.next <| .here) <| .one (.next <| .here) <| .one (.next <| .here) <| .nil) ?_
           refine .inl ⟨rfl, _, rfl, hle, ?_⟩
           exact ⟨_, by rw [cleanS_no hcs (fun h => h.elim h1 (fun h => h3 h.2))]; exact hv2b, by rw [cleanS_no hcs (fun h => h.elim h1 (fun h => h3 h.2)), hcs]; first | done | rfl⟩
         ·
          refine Au rfl rfl (Ab) (.inl (congrArg Value.bool (decide_eq_false (by rw [hcs]; show ¬ (_ : Int) = (bb.length : Int); omega)))) rfl ?_
          refine Au rfl rfl (Al rfl <| Ab) (.inl (congrArg Value.bool (decide_eq_false (by rw [hcs]; show ¬ (_ : Int) = (bb.length : Int); omega)))) rfl ?_
          refine Au rfl rfl (Aq rfl <| Ab) (.inl (congrArg Value.bool (decide_eq_false (by rw [hcs]; show ¬ (_ : Int) = (bb.length : Int); omega)))) rfl ?_
          refine Au rfl rfl (Aq rfl <| Al rfl <| Ab) (.inl (congrArg Value.bool (decide_eq_false (by rw [hcs]; show ¬ (_ : Int) = (bb.length : Int); omega)))) rfl ?_
          refine As rfl rfl (A5 rfl <| Aq rfl <| Ab) (decide_eq_false (by rw [hcs]; show ¬ (_ : Int) < (bb.length : Int); omega)) ?_
          refine Aa rfl (A9 (Ax rfl <| Ab) (decide_eq_false (by rw [hcs]; show ¬ (_ : Int) = (bb.length : Int); omega)) Ad) ?_
          refine Aa rfl (A9 (A5 rfl <| Aq rfl <| Al rfl <| Ab) (decide_eq_false (by rw [hcs]; show ¬ (_ : Int) < (bb.length : Int); omega)) (Ab)) ?_
          refine Ah <| Ac <| Ao (Ab) rfl ?_
          subst hoL
          refine Aw <| Bd ?_
          refine Ez (.one (.here) <| .one (.here) <| .one (.next <| .here) <| .one (.next <| .here) <| .one (.next <| .here) <| .one (.next <| .here) <| .nil) ?_
          refine .inl ⟨rfl, _, rfl, hle, ?_⟩
          exact ⟨_, by rw [cleanS_no hcs (fun h => h.elim h1 (fun h => h2 h.1))]; exact hv2b, by rw [cleanS_no hcs (fun h => h.elim h1 (fun h => h2 h.1)), hcs]; first | done | rfl⟩
    obtain ⟨v2, hv2, rfl⟩ := hJ
    refine Bd <| Ac ?_
    rcases opt_or (cleanR s (allTrees s)) with hcs | ⟨bb, hcs⟩
    ·
     refine Af <| Af <| Ai fun ds => Aa rfl (Ap one_4 (Ax rfl <| Al rfl <| Ab) (Cell.own 0 rfl rfl)) ?_
     refine Aa rfl (Cq (Ab)) ?_
     refine Ah <| Ac <| Ar (Ab) (by rw [hcs]; rfl) ?_
     refine Af <| Ai fun ds => Cf (Cm sz_26 (A5 rfl <| Al rfl <| Aj rfl <| A5 rfl <| Ax rfl <| Aq rfl <| Al rfl <| Ab) Ad (i := 1) rfl (.here) rfl (.next <| .here) ?_)
     refine Aa rfl (Ae Ad) ?_
     refine Ah <| Ac <| A4 <| Ba ?_
     refine Ay rfl (.one Cb (A5 rfl <| Aq rfl <| Aj rfl <| A5 rfl <| Ax rfl <| Aq rfl <| Al rfl <| Ab) (Cell.own 1 rfl rfl) (.tmp (Ab) .nil)) ?_
     rw [cleanE_none h0 hcs]
     exact ⟨_, rfl, Sl.nil⟩
    ·
     refine Af <| Af <| Ai fun ds => Aa rfl (Ap one_4 (Ax rfl <| Al rfl <| Ab) (Cell.own 0 rfl rfl)) ?_
     refine Aa rfl (Cq (Ab)) ?_
     refine Ah <| Ac <| Ao (Ab) (by rw [hcs]; rfl) ?_
     refine Aw <| Ac <| Af <| Ai fun ds => Aa rfl (Ap Cb (A5 rfl <| Al rfl <| Aj rfl <| A5 rfl <| Ax rfl <| Aq rfl <| Al rfl <| Ab) (Cell.own 1 rfl rfl)) ?_
     refine Cf (Cm sz_26 (A5 rfl <| Aq rfl <| Aj rfl <| A5 rfl <| Ax rfl <| Aq rfl <| Al rfl <| Ab) (Ab) (i := 1) rfl (.here) hv2.plain.one (.next <| .here) ?_)
     refine Aa rfl (Ae Ad) ?_
     refine Ah <| Ac <| A4 <| Ay rfl (.one Cb (A5 rfl <| Aq rfl <| Al rfl <| Aj rfl <| A5 rfl <| Ax rfl <| Aq rfl <| Al rfl <| Ab) (Cell.own 1 rfl rfl) (.tmp (Ab) .nil)) ?_
     rw [cleanE_some h0 hcs]
     rw [hcs] at hv2
     exact ⟨_, rfl, hv2⟩
 ·
  refine Af <| Ai fun ds => Bj rfl (B2 (Ak rfl) rfl fun b39 hb39 nb39 => ?_)
  refine Bj rfl (B8 zr_26 rfl fun b40 hb40 nb40 => ?_)
  refine Aa rfl (Ae Ad) ?_
  refine Ah <| Ac <| Af <| Ai fun ds => Aa rfl (Bb B7 (Aq rfl <| Ab) rfl rfl (A7 1 rfl)) ?_
  refine Bx rfl (Be bd_65 A1 (.cons (Ab) .nil) (open_bad hr h0) (fun _ _ h => h)) ?_
  refine Aa rfl (Ag (Ab)) ?_
  refine Aa rfl (Az (Ab) rfl) ?_
  refine Aa rfl (Az (Al rfl <| Ab) rfl) ?_
  refine Aa rfl (Ae (Al rfl <| Ab)) ?_
  refine Aa rfl (Ae (Al rfl <| Ab)) ?_
  refine Ah <| Ac <| Af <| Af <| Ai fun ds => Aa rfl (Ag (Ab)) ?_
  refine Aa rfl (Bw (Ab) Ad) ?_
  refine Ah <| Ac <| Ar (Ab) (decide_eq_true h0) ?_
  refine Af <| Ai fun ds => Aa rfl (Ag (Aq rfl <| Ab)) ?_
  refine Cf (Cm sz_26 (A5 rfl <| Aq rfl <| Al rfl <| Ab) Ad (i := 0) rfl (.here) rfl (.here) ?_)
  refine Aa rfl (Ae (Ab)) ?_
  refine Ah <| Ac <| A4 <| Ba ?_
  refine Ay rfl (.one Cb (A5 rfl <| Ax rfl <| Ab) (Cell.own 0 rfl rfl) (.tmp (Ab) .nil)) ?_
  rw [cleanE_bad h0]
  exact ⟨_, rfl, Sl.nil⟩
end Go.Proofs.Ytccogmkhijgelaa
namespace Go.Proofs.Ytccogmkhijgelaa
open Go.RowKit
def plA : Plc := ⟨⟨#[97]⟩, 0⟩
def plB : Plc := ⟨⟨#[98]⟩, 1⟩
def plC : Plc := ⟨⟨#[99]⟩, 0⟩
def edQ1 : Edn := ⟨⟨#[113, 49]⟩, 1600, 1600, [1, 1, 1]⟩
def edQ2 : Edn := ⟨⟨#[113, 50]⟩, 1605, 1610, [2, 1, 1]⟩
def edF1 : Edn := ⟨⟨#[102, 49]⟩, 1623, 1623, [2, 2, 1]⟩
def edQ3 : Edn := ⟨⟨#[113, 51]⟩, 1608, 1630, [0, 1, 2]⟩
def stemX : Stm := ⟨[plA, plB, plC], [edQ1, edQ2, edF1, edQ3]⟩
def bestX : List Int := [-1, 0, 1, 0]
def starX : List Int := [-1, 0, 0, 0]
def lineX : List Int := [-1, 0, 1, 2]
def twoX : List Int := [-1, 0, 1, 1]
theorem ev_p1 : apartE stemX 0 2 = ([0, 1], 0) := by kernel_rfl
theorem ev_c1 : changesE stemX starX = (4, 0) := by kernel_rfl
theorem ev_c2 : changesE stemX lineX = (0, 9) := by kernel_rfl
theorem ev_y1 : yearsE stemX twoX = ([(1600, 1600), (1605, 1610), (1623, 1623), (1608, 1630)], 0) := by kernel_rfl
theorem ev_b1 : bestTE stemX = (bestX, 3, 2, 0) := by kernel_rfl
theorem ev_f1 : firstTE stemX = ([0], 0) := by kernel_rfl
theorem ev_m1 : fromE stemX 1 2 = (1, 0) := by kernel_rfl
theorem ev_r1 : readE stemX bestX 3 0 = ([1], 0) := by kernel_rfl
theorem ev_l1 : cleanE stemX = ([], 0) := by kernel_rfl
theorem ev_s1 : secE stemX starX 2 = (1, 1, 0) := by kernel_rfl
theorem ev_s2 : secE stemX bestX 2 = (0, 0, 8) := by kernel_rfl
end Go.Proofs.Ytccogmkhijgelaa
namespace Go.Proofs.Ytccogmkhijgelaa
open Go.RowKit
theorem zr_25 : ZeroT Try.prog 25 (.agg #[.slice none 0 0, .slice none 0 0]) := Dc (by kernel_rfl)
theorem bd_20 : Body Try.prog 20 := Bo (by kernel_rfl)
theorem bd_21 : Body Try.prog 21 := Bo (by kernel_rfl)
theorem bd_23 : Body Try.prog 23 := Bo (by kernel_rfl)
theorem bd_25 : Body Try.prog 25 := Bo (by kernel_rfl)
theorem bd_26 : Body Try.prog 26 := Bo (by kernel_rfl)
theorem bd_27 : Body Try.prog 27 := Bo (by kernel_rfl)
theorem bd_29 : Body Try.prog 29 := Bo (by kernel_rfl)
theorem bd_31 : Body Try.prog 31 := Bo (by kernel_rfl)
theorem bd_33 : Body Try.prog 33 := Bo (by kernel_rfl)
theorem bd_35 : Body Try.prog 35 := Bo (by kernel_rfl)
theorem bd_37 : Body Try.prog 37 := Bo (by kernel_rfl)
theorem bd_39 : Body Try.prog 39 := Bo (by kernel_rfl)
theorem bd_95 : Body Try.prog 95 := Bo (by kernel_rfl)
theorem bt_25 : BuildT Try.prog 25 [.slice none 0 0, .slice none 0 0] [(0, 1), (1, 1)] := buildT_of zr_25 (by kernel_rfl) (by decide)
theorem bt_60 : BuildT Try.prog 60 [.int .i64 0, .int .i64 0] [(0, 1), (1, 1)] := buildT_of zr_60 (by kernel_rfl) (by decide)
theorem bt_64 : BuildT Try.prog 64 [.string ⟨#[]⟩, .int .i64 0, .int .i64 0, .slice none 0 0] [(0, 1), (1, 2), (3, 1)] := buildT_of zr_64 (by kernel_rfl) (by decide)
theorem bt_70 : BuildT Try.prog 70 [.string ⟨#[]⟩, .int .i64 0] [(0, 1), (1, 1)] := buildT_of zr_70 (by kernel_rfl) (by decide)
theorem sz_25 : SizeT Try.prog 25 2 := Cz (by kernel_rfl)
theorem ints_box3 {F : Heap} {b T : Nat} {x y z : Int} (h : F b = some (bx T [.int .i64 x, .int .i64 y, .int .i64 z])) : Ints F (.slice (some ⟨b, 0, none⟩) 3 3) [x, y, z] :=
 sl_box (xs := [x, y, z]) h rfl rfl (fun _ => rfl) (by decide)
theorem ints_box4 {F : Heap} {b T : Nat} {x y z w : Int} (h : F b = some (bx T [.int .i64 x, .int .i64 y, .int .i64 z, .int .i64 w])) : Ints F (.slice (some ⟨b, 0, none⟩) 4 4) [x, y, z, w] :=
 sl_box (xs := [x, y, z, w]) h rfl rfl (fun _ => rfl) (by decide)
theorem plcX_box3 {F : Heap} {b T : Nat} (h : F b = some (bx T [.string ⟨#[97]⟩, .int .i64 0, .string ⟨#[98]⟩, .int .i64 1, .string ⟨#[99]⟩, .int .i64 0])) : Sl F (.slice (some ⟨b, 0, none⟩) 3 3) 2 Plc.enc [plA, plB, plC] :=
 sl_box (xs := [plA, plB, plC]) h rfl rfl (fun _ => rfl) (by decide)
theorem ednX_box4 {F : Heap} {b T : Nat} {v1 v2 v3 v4 : Value} (h : F b = some (bx T [.string ⟨#[113, 49]⟩, .int .i64 1600, .int .i64 1600, v1, .string ⟨#[113, 50]⟩, .int .i64 1605, .int .i64 1610, v2, .string ⟨#[102, 49]⟩, .int .i64 1623, .int .i64 1623, v3, .string ⟨#[113, 51]⟩, .int .i64 1608, .int .i64 1630, v4])) : Sl F (.slice (some ⟨b, 0, none⟩) 4 4) 4 edE [(v1, edQ1), (v2, edQ2), (v3, edF1), (v4, edQ3)] :=
 sl_box (xs := [(v1, edQ1), (v2, edQ2), (v3, edF1), (v4, edQ3)]) h rfl rfl (fun _ => rfl) (by decide)
theorem spansX_box4 {F : Heap} {b T : Nat} (h : F b = some (bx T [.int .i64 1600, .int .i64 1600, .int .i64 1605, .int .i64 1610, .int .i64 1623, .int .i64 1623, .int .i64 1608, .int .i64 1630])) : Sl F (.slice (some ⟨b, 0, none⟩) 4 4) 2 spanE [(1600, 1600), (1605, 1610), (1623, 1623), (1608, 1630)] :=
 sl_box (xs := ([(1600, 1600), (1605, 1610), (1623, 1623), (1608, 1630)] : List (Int × Int))) h rfl rfl (fun _ => rfl) (by decide)
set_option maxRecDepth 100000 in
theorem printed_ok {F : Heap} (nm : ByteArray) (lo hi a b c : Int) : Ok Try.prog 95 [.string nm, .int .i64 lo, .int .i64 hi, .int .i64 a, .int .i64 b, .int .i64 c].toArray F fun u F' => ∃ v, u = .agg #[.string nm, .int .i64 lo, .int .i64 hi, v] ∧ Ints F' v [a, b, c] := by
 refine Ok.intro Try.func95 rfl Try.ntmps95 rfl fun w0 => ?_
 refine Af <| Ai fun ds => Bj rfl (B8 zr_64 rfl fun b1 hb1 nb1 => ?_)
 refine Ah <| Ac <| Af <| Ai fun ds => Aa rfl (Ag (Al rfl <| Ak rfl)) ?_
 refine Aa rfl (Ag (Aq rfl <| Ak rfl)) ?_
 refine Aa rfl (Ag (Aq rfl <| Al rfl <| Ak rfl)) ?_
 refine Aa rfl (Ek bt_60 (.cons (Al rfl <| Ab) rfl (.cons (Ab) rfl .nil)) (.cons rfl rfl (Nat.le_of_ble_eq_true rfl) (.cons (.here) .nil) (.cons rfl rfl (Nat.le_of_ble_eq_true rfl) (.cons (.next <| .here) .nil) .nil))) ?_
 refine Aa rfl (Ag (Ax rfl <| Al rfl <| Ak rfl)) ?_
 refine Aa rfl (Ag (Ax rfl <| Aq rfl <| Ak rfl)) ?_
 refine Aa rfl (Ag (Ax rfl <| Aq rfl <| Al rfl <| Ak rfl)) ?_
 refine Bj rfl (B4 Bh Df rfl (.cons (Aq rfl <| Ab) (.cons (Al rfl <| Ab) (.cons (Ab) .nil))) rfl rfl (by decide) (by simp [Value.oneCell']) fun b2 hb2 nb2 => ?_)
 refine B5 (i := 0) rfl hb2 .here fun F3 hF4 hz5 => ?_
 have hsl6 := ints_box3 hz5
 refine Aa rfl (Ek bt_64 (.cons (Ax rfl <| Aq rfl <| Al rfl <| Ab) rfl (.cons (Ax rfl <| Ab) rfl (.cons (Ab) rfl .nil))) (.cons rfl rfl (Nat.le_of_ble_eq_true rfl) (.cons (.here) .nil) (.cons rfl rfl (Nat.le_of_ble_eq_true rfl) (.cons (.next <| .here) (.cons (.next <| .next <| .here) .nil)) (.cons rfl rfl (Nat.le_of_ble_eq_true rfl) (.cons (.next <| .next <| .next <| .here) .nil) .nil)))) ?_
 refine Cf (Ce sz_64 (A5 rfl <| Al rfl <| Ab) (Ab) (i := 0) rfl rfl rfl rfl (by simp [Value.oneCell']) (.here) ?_)
 refine Ah <| Ac <| A4 <| Ay rfl (.agg agg_64 (A5 rfl <| Al rfl <| Ab) rfl rfl (A7 0 rfl) .nil) ?_
 exact ⟨_, rfl, hsl6⟩
set_option maxRecDepth 100000 in
theorem stemX_ok {F : Heap} : Ok Try.prog 39 [].toArray F fun u F' => ∃ vp ve ps, u = .agg #[vp, ve] ∧ StmR F' vp ve ps stemX := by
 refine Ok.intro Try.func39 rfl Try.ntmps39 rfl fun w0 => ?_
 refine Af <| Ai fun ds => Bj rfl (B8 zr_25 rfl fun b1 hb1 nb1 => ?_)
 refine Ah <| Ac <| Af <| Ai fun ds => Aa rfl (Ek bt_70 (.cons Ad rfl .nil) (.cons rfl rfl (Nat.le_of_ble_eq_true rfl) (.cons (.here) .nil) .nil)) ?_
 refine Aa rfl (Ek bt_70 (.cons Ad rfl (.cons Ad rfl .nil)) (.cons rfl rfl (Nat.le_of_ble_eq_true rfl) (.cons (.here) .nil) (.cons rfl rfl (Nat.le_of_ble_eq_true rfl) (.cons (.next <| .here) .nil) .nil))) ?_
 refine Aa rfl (Ek bt_70 (.cons Ad rfl .nil) (.cons rfl rfl (Nat.le_of_ble_eq_true rfl) (.cons (.here) .nil) .nil)) ?_
 refine Bj rfl (x_buildN (offs := [(0, 2), (2, 2), (4, 2)]) (zl := [.string ⟨#[]⟩, .int .i64 0, .string ⟨#[]⟩, .int .i64 0, .string ⟨#[]⟩, .int .i64 0]) C2 zr_70 rfl (.cons (Aq rfl <| Ab) rfl (.cons (Al rfl <| Ab) rfl (.cons (Ab) rfl .nil))) (by intro i p h; rcases i with _ | _ | _ | i <;> simp at h <;> subst h <;> rfl) (.cons rfl rfl (Nat.le_of_ble_eq_true rfl) (.cons (.here) (.cons (.next <| .here) .nil)) (.cons rfl rfl (Nat.le_of_ble_eq_true rfl) (.cons (.next <| .next <| .here) (.cons (.next <| .next <| .next <| .here) .nil)) (.cons rfl rfl (Nat.le_of_ble_eq_true rfl) (.cons (.next <| .next <| .next <| .next <| .here) (.cons (.next <| .next <| .next <| .next <| .next <| .here) .nil)) .nil))) (by decide) (by decide) fun b2 hb2 nb2 => ?_)
 refine B5 (i := 0) rfl hb2 .here fun F3 hF4 hz5 => ?_
 have hsl6 := plcX_box3 hz5
 refine Bj rfl (Cn bd_95 A1 (.cons Ad (.cons Ad (.cons Ad (.cons Ad (.cons Ad (.cons Ad .nil)))))) (printed_ok _ _ _ _ _ _) fun v7 F8 hr9 hF10 => ?_)
 replace hsl6 := hsl6.mono hF10
 obtain ⟨vq1, rfl, hq1⟩ := hr9
 refine Bj rfl (Cn bd_95 A1 (.cons Ad (.cons Ad (.cons Ad (.cons Ad (.cons Ad (.cons Ad .nil)))))) (printed_ok _ _ _ _ _ _) fun v11 F12 hr13 hF14 => ?_)
 replace hsl6 := hsl6.mono hF14
 replace hq1 := hq1.mono hF14
 obtain ⟨vq2, rfl, hq2⟩ := hr13
 refine Bj rfl (Cn bd_95 A1 (.cons Ad (.cons Ad (.cons Ad (.cons Ad (.cons Ad (.cons Ad .nil)))))) (printed_ok _ _ _ _ _ _) fun v15 F16 hr17 hF18 => ?_)
 replace hsl6 := hsl6.mono hF18
 replace hq1 := hq1.mono hF18
 replace hq2 := hq2.mono hF18
 obtain ⟨vf1, rfl, hf1⟩ := hr17
 refine Bj rfl (Cn bd_95 A1 (.cons Ad (.cons Ad (.cons Ad (.cons Ad (.cons Ad (.cons Ad .nil)))))) (printed_ok _ _ _ _ _ _) fun v19 F20 hr21 hF22 => ?_)
 replace hsl6 := hsl6.mono hF22
 replace hq1 := hq1.mono hF22
 replace hq2 := hq2.mono hF22
 replace hf1 := hf1.mono hF22
 obtain ⟨vq3, rfl, hq3⟩ := hr21
 refine Bj rfl (x_buildN (offs := [(0, 4), (4, 4), (8, 4), (12, 4)]) (zl := [.string ⟨#[]⟩, .int .i64 0, .int .i64 0, .slice none 0 0, .string ⟨#[]⟩, .int .i64 0, .int .i64 0, .slice none 0 0, .string ⟨#[]⟩, .int .i64 0, .int .i64 0, .slice none 0 0, .string ⟨#[]⟩, .int .i64 0, .int .i64 0, .slice none 0 0]) B6 zr_64 rfl (.cons (Aq rfl <| Al rfl <| Ab) rfl (.cons (Aq rfl <| Ab) rfl (.cons (Al rfl <| Ab) rfl (.cons (Ab) rfl .nil)))) (by intro i p h; rcases i with _ | _ | _ | _ | i <;> simp at h <;> subst h <;> rfl) (.cons rfl rfl (Nat.le_of_ble_eq_true rfl) (.cons (.here) (.cons (.next <| .here) (.cons (.next <| .next <| .here) (.cons (.next <| .next <| .next <| .here) .nil)))) (.cons rfl rfl (Nat.le_of_ble_eq_true rfl) (.cons (.next <| .next <| .next <| .next <| .here) (.cons (.next <| .next <| .next <| .next <| .next <| .here) (.cons (.next <| .next <| .next <| .next <| .next <| .next <| .here) (.cons (.next <| .next <| .next <| .next <| .next <| .next <| .next <| .here) .nil)))) (.cons rfl rfl (Nat.le_of_ble_eq_true rfl) (.cons (.next <| .next <| .next <| .next <| .next <| .next <| .next <| .next <| .here) (.cons (.next <| .next <| .next <| .next <| .next <| .next <| .next <| .next <| .next <| .here) (.cons (.next <| .next <| .next <| .next <| .next <| .next <| .next <| .next <| .next <| .next <| .here) (.cons (.next <| .next <| .next <| .next <| .next <| .next <| .next <| .next <| .next <| .next <| .next <| .here) .nil)))) (.cons rfl rfl (Nat.le_of_ble_eq_true rfl) (.cons (.next <| .next <| .next <| .next <| .next <| .next <| .next <| .next <| .next <| .next <| .next <| .next <| .here) (.cons (.next <| .next <| .next <| .next <| .next <| .next <| .next <| .next <| .next <| .next <| .next <| .next <| .next <| .here) (.cons (.next <| .next <| .next <| .next <| .next <| .next <| .next <| .next <| .next <| .next <| .next <| .next <| .next <| .next <| .here) (.cons (.next <| .next <| .next <| .next <| .next <| .next <| .next <| .next <| .next <| .next <| .next <| .next <| .next <| .next <| .next <| .here) .nil)))) .nil)))) (by decide) (by decide) fun b23 hb23 nb23 => ?_)
 refine B5 (i := 0) rfl hb23 .here fun F24 hF25 hz26 => ?_
 replace hsl6 := hsl6.mono hF25
 replace hq1 := hq1.mono hF25
 replace hq2 := hq2.mono hF25
 replace hf1 := hf1.mono hF25
 replace hq3 := hq3.mono hF25
 have hsl27 := ednX_box4 hz26
 refine Aa rfl (Ek bt_25 (.cons (Ax rfl <| Al rfl <| Ab) rfl (.cons (Ab) rfl .nil)) (.cons rfl rfl (Nat.le_of_ble_eq_true rfl) (.cons (.here) .nil) (.cons rfl rfl (Nat.le_of_ble_eq_true rfl) (.cons (.next <| .here) .nil) .nil))) ?_
 refine Cf (Ce sz_25 (A5 rfl <| Aq rfl <| Ab) (Ab) (i := 0) rfl rfl rfl rfl (by simp [Value.oneCell']) (.here) ?_)
 refine Ah <| Ac <| A4 <| Ay rfl (.agg B7 (A5 rfl <| Aq rfl <| Ab) rfl rfl (A7 0 rfl) .nil) ?_
 refine ⟨_, _, [(vq1, edQ1), (vq2, edQ2), (vf1, edF1), (vq3, edQ3)], rfl, ⟨hsl6, hsl27, ?_, rfl⟩⟩
 intro p hp
 simp only [List.mem_cons, List.not_mem_nil, or_false] at hp
 rcases hp with rfl | rfl | rfl | rfl
 · exact hq1
 · exact hq2
 · exact hf1
 · exact hq3
set_option maxRecDepth 100000 in
theorem awake_ok {F : Heap} : Ok Try.prog 26 [].toArray F fun u _ => u = .bool true := by
 refine Ok.intro Try.func26 rfl Try.ntmps26 rfl fun w0 => ?_
 refine Af <| Ai fun ds => Aa rfl (Ae Ad) ?_
 refine Ah <| Ac <| Af <| Ai fun ds => Bj rfl (Cn bd_39 A1 .nil stemX_ok fun v1 F2 hr3 hF4 => ?_)
 obtain ⟨vp, ve, ps, rfl, hr⟩ := hr3
 refine Bj rfl (B8 zr_25 rfl fun b5 hb5 nb5 => ?_)
 refine Cf (Ce sz_25 (Ab) (Al rfl <| Ab) (i := 0) rfl rfl rfl rfl hr.ones (.here) ?_)
 refine Ah <| Ac <| Af <| Ai fun ds => Bj rfl (B4 Bh Df rfl (.cons Ad (.cons Ad (.cons Ad (.cons Ad .nil)))) rfl rfl (by decide) (by simp [Value.oneCell']) fun b6 hb6 nb6 => ?_)
 refine B5 (i := 0) rfl hb6 .here fun F7 hF8 hz9 => ?_
 replace hr := hr.mono hF8
 have hsl10 := ints_box4 hz9
 refine Aa rfl (Ae (Ab)) ?_
 refine Ah <| Ac <| Af <| Ai fun ds => Aa rfl (Bb B7 (Aq rfl <| Ab) rfl rfl (A7 0 rfl)) ?_
 refine Bj rfl (Cn bd_18 A1 (.cons (Ab) (.cons Ad (.cons Ad .nil))) ((apart_top_ok hr 0 2).mono fun u F2 _ h => (by rw [ev_p1] at h; exact h : ∃ ws, u = .tuple #[ws, .int .i64 0] ∧ Nats F2 ws [0, 1])) fun v11 F12 hr13 hF14 => ?_)
 replace hr := hr.mono hF14
 replace hsl10 := hsl10.mono hF14
 obtain ⟨hq1_, rfl, hq1⟩ := hr13
 refine Aa rfl (Ag (Ab)) ?_
 refine Aa rfl (Az (Ab) rfl) ?_
 refine Aa rfl (Az (Al rfl <| Ab) rfl) ?_
 refine Aa rfl (Ae (Al rfl <| Ab)) ?_
 refine Aa rfl (Ae (Al rfl <| Ab)) ?_
 refine Ah <| Ac <| Af <| Ai fun ds => Aa rfl (Bb B7 (A5 rfl <| Al rfl <| Ab) rfl rfl (A7 0 rfl)) ?_
 refine Bj rfl (B4 Bh Df rfl (.cons Ad (.cons Ad (.cons Ad (.cons Ad .nil)))) rfl rfl (by decide) (by simp [Value.oneCell']) fun b15 hb15 nb15 => ?_)
 refine B5 (i := 0) rfl hb15 .here fun F16 hF17 hz18 => ?_
 replace hr := hr.mono hF17
 replace hsl10 := hsl10.mono hF17
 replace hq1 := hq1.mono hF17
 have hsl19 := ints_box4 hz18
 refine Bx rfl (Be bd_21 A1 (.cons (Al rfl <| Ab) (.cons (Ab) .nil)) (changes_top_ok hr (l := starX) hsl19) (fun _ _ h => h.trans (show _ = Value.tuple #[.int .i64 4, .int .i64 0] by unfold changesEV; rw [ev_c1]))) ?_
 refine Aa rfl (Ag (Ab)) ?_
 refine Aa rfl (Az (Ab) rfl) ?_
 refine Aa rfl (Az (Al rfl <| Ab) rfl) ?_
 refine Aa rfl (Ae (Al rfl <| Ab)) ?_
 refine Aa rfl (Ae (Al rfl <| Ab)) ?_
 refine Ah <| Ac <| Af <| Ai fun ds => Aa rfl (Bb B7 (A2 rfl <| Al rfl <| Ab) rfl rfl (A7 0 rfl)) ?_
 refine Bj rfl (B4 Bh Df rfl (.cons Ad (.cons Ad (.cons Ad (.cons Ad .nil)))) rfl rfl (by decide) (by simp [Value.oneCell']) fun b20 hb20 nb20 => ?_)
 refine B5 (i := 0) rfl hb20 .here fun F21 hF22 hz23 => ?_
 replace hr := hr.mono hF22
 replace hsl10 := hsl10.mono hF22
 replace hq1 := hq1.mono hF22
 have hsl24 := ints_box4 hz23
 refine Bx rfl (Be bd_21 A1 (.cons (Al rfl <| Ab) (.cons (Ab) .nil)) (changes_top_ok hr (l := lineX) hsl24) (fun _ _ h => h.trans (show _ = Value.tuple #[.int .i64 0, .int .i64 9] by unfold changesEV; rw [ev_c2]))) ?_
 refine Aa rfl (Ag (Ab)) ?_
 refine Aa rfl (Az (Ab) rfl) ?_
 refine Aa rfl (Az (Al rfl <| Ab) rfl) ?_
 refine Aa rfl (Ae (Al rfl <| Ab)) ?_
 refine Aa rfl (Ae (Al rfl <| Ab)) ?_
 refine Ah <| Ac <| Af <| Ai fun ds => Aa rfl (Bb B7 (A2 rfl <| A5 rfl <| Al rfl <| Ab) rfl rfl (A7 0 rfl)) ?_
 refine Bj rfl (B4 Bh Df rfl (.cons Ad (.cons Ad (.cons Ad (.cons Ad .nil)))) rfl rfl (by decide) (by simp [Value.oneCell']) fun b25 hb25 nb25 => ?_)
 refine B5 (i := 0) rfl hb25 .here fun F26 hF27 hz28 => ?_
 replace hr := hr.mono hF27
 replace hsl10 := hsl10.mono hF27
 replace hq1 := hq1.mono hF27
 have hsl29 := ints_box4 hz28
 refine Bj rfl (Cn bd_23 A1 (.cons (Al rfl <| Ab) (.cons (Ab) .nil)) ((years_top_ok hr (l := twoX) hsl29).mono fun u F2 _ h => (by rw [ev_y1] at h; exact h : ∃ ws, u = .tuple #[ws, .int .i64 0] ∧ (fun F v l => Sl F v 2 spanE l) F2 ws [(1600, 1600), (1605, 1610), (1623, 1623), (1608, 1630)])) fun v30 F31 hr32 hF33 => ?_)
 replace hr := hr.mono hF33
 replace hsl10 := hsl10.mono hF33
 replace hq1 := hq1.mono hF33
 obtain ⟨hq2_, rfl, hq2⟩ := hr32
 refine Aa rfl (Ag (Ab)) ?_
 refine Aa rfl (Az (Ab) rfl) ?_
 refine Aa rfl (Az (Al rfl <| Ab) rfl) ?_
 refine Aa rfl (Ae (Al rfl <| Ab)) ?_
 refine Aa rfl (Ae (Al rfl <| Ab)) ?_
 refine Ah <| Ac <| Af <| Ai fun ds => Aa rfl (Bb B7 (Bc rfl <| Al rfl <| Ab) rfl rfl (A7 0 rfl)) ?_
 refine Bj rfl (Cn bd_27 A1 (.cons (Ab) .nil) ((best_top_ok hr).mono fun u F2 _ h => (by rw [ev_b1] at h; exact h : ∃ ws, u = .tuple #[ws, .int .i64 3, .int .i64 2, .int .i64 0] ∧ Ints F2 ws bestX)) fun v34 F35 hr36 hF37 => ?_)
 replace hr := hr.mono hF37
 replace hsl10 := hsl10.mono hF37
 replace hq1 := hq1.mono hF37
 replace hq2 := hq2.mono hF37
 obtain ⟨hq3_, rfl, hq3⟩ := hr36
 refine Aa rfl (Ag (Ab)) ?_
 refine Aa rfl (Az (Ab) rfl) ?_
 refine Aa rfl (Az (Al rfl <| Ab) rfl) ?_
 refine Aa rfl (Az (Aq rfl <| Ab) rfl) ?_
 refine Aa rfl (Az (Aq rfl <| Al rfl <| Ab) rfl) ?_
 refine Aa rfl (Ae (Aq rfl <| Al rfl <| Ab)) ?_
 refine Aa rfl (Ae (Aq rfl <| Al rfl <| Ab)) ?_
 refine Aa rfl (Ae (Aq rfl <| Al rfl <| Ab)) ?_
 refine Aa rfl (Ae (Aq rfl <| Al rfl <| Ab)) ?_
 refine Ah <| Ac <| Af <| Ai fun ds => Aa rfl (Bb B7 (Bc rfl <| A5 rfl <| Ax rfl <| Ab) rfl rfl (A7 0 rfl)) ?_
 refine Bj rfl (Cn bd_29 A1 (.cons (Ab) .nil) ((first_top_ok hr).mono fun u F2 _ h => (by rw [ev_f1] at h; exact h : ∃ ws, u = .tuple #[ws, .int .i64 0] ∧ Nats F2 ws [0])) fun v38 F39 hr40 hF41 => ?_)
 replace hr := hr.mono hF41
 replace hsl10 := hsl10.mono hF41
 replace hq1 := hq1.mono hF41
 replace hq2 := hq2.mono hF41
 replace hq3 := hq3.mono hF41
 obtain ⟨hq4_, rfl, hq4⟩ := hr40
 refine Aa rfl (Ag (Ab)) ?_
 refine Aa rfl (Az (Ab) rfl) ?_
 refine Aa rfl (Az (Al rfl <| Ab) rfl) ?_
 refine Aa rfl (Ae (Al rfl <| Ab)) ?_
 refine Aa rfl (Ae (Al rfl <| Ab)) ?_
 refine Ah <| Ac <| Af <| Ai fun ds => Aa rfl (Bb B7 (Bc rfl <| A2 rfl <| Aq rfl <| Al rfl <| Ab) rfl rfl (A7 0 rfl)) ?_
 refine Bx rfl (Be bd_31 A1 (.cons (Ab) (.cons Ad (.cons Ad .nil))) (from_top_ok hr 1 2) (fun _ _ h => h.trans (show _ = Value.tuple #[.int .i64 1, .int .i64 0] by unfold fromV; rw [ev_m1]))) ?_
 refine Aa rfl (Ag (Ab)) ?_
 refine Aa rfl (Az (Ab) rfl) ?_
 refine Aa rfl (Az (Al rfl <| Ab) rfl) ?_
 refine Aa rfl (Ae (Al rfl <| Ab)) ?_
 refine Aa rfl (Ae (Al rfl <| Ab)) ?_
 refine Ah <| Ac <| Af <| Ai fun ds => Aa rfl (Bb B7 (Bc rfl <| A2 rfl <| A5 rfl <| Aq rfl <| Ab) rfl rfl (A7 0 rfl)) ?_
 refine Aa rfl (Ag (Bc rfl <| A2 rfl <| A5 rfl <| Al rfl <| Ab)) ?_
 refine Bj rfl (Cn bd_35 A1 (.cons (Al rfl <| Ab) (.cons (Ab) (.cons Ad (.cons Ad .nil)))) ((reading_top_ok hr (l := bestX) hsl10 3 0).mono fun u F2 _ h => (by rw [ev_r1] at h; exact h : ∃ ws, u = .tuple #[ws, .int .i64 0] ∧ Ints F2 ws [1])) fun v42 F43 hr44 hF45 => ?_)
 replace hr := hr.mono hF45
 replace hsl10 := hsl10.mono hF45
 replace hq1 := hq1.mono hF45
 replace hq2 := hq2.mono hF45
 replace hq3 := hq3.mono hF45
 replace hq4 := hq4.mono hF45
 obtain ⟨hq5_, rfl, hq5⟩ := hr44
 refine Aa rfl (Ag (Ab)) ?_
 refine Aa rfl (Az (Ab) rfl) ?_
 refine Aa rfl (Az (Al rfl <| Ab) rfl) ?_
 refine Aa rfl (Ae (Al rfl <| Ab)) ?_
 refine Aa rfl (Ae (Al rfl <| Ab)) ?_
 refine Ah <| Ac <| Af <| Ai fun ds => Aa rfl (Bb B7 (Bc rfl <| Bc rfl <| Aq rfl <| Ab) rfl rfl (A7 0 rfl)) ?_
 refine Bj rfl (Cn bd_33 A1 (.cons (Ab) .nil) ((clean_top_ok hr).mono fun u F2 _ h => (by rw [ev_l1] at h; exact h : ∃ ws, u = .tuple #[ws, .int .i64 0] ∧ Nats F2 ws [])) fun v46 F47 hr48 hF49 => ?_)
 replace hr := hr.mono hF49
 replace hsl10 := hsl10.mono hF49
 replace hq1 := hq1.mono hF49
 replace hq2 := hq2.mono hF49
 replace hq3 := hq3.mono hF49
 replace hq4 := hq4.mono hF49
 replace hq5 := hq5.mono hF49
 obtain ⟨hq6_, rfl, hq6⟩ := hr48
 refine Aa rfl (Ag (Ab)) ?_
 refine Aa rfl (Az (Ab) rfl) ?_
 refine Aa rfl (Az (Al rfl <| Ab) rfl) ?_
 refine Aa rfl (Ae (Al rfl <| Ab)) ?_
 refine Aa rfl (Ae (Al rfl <| Ab)) ?_
 refine Ah <| Ac <| Af <| Ai fun ds => Aa rfl (Bb B7 (Bc rfl <| Bc rfl <| A5 rfl <| Al rfl <| Ab) rfl rfl (A7 0 rfl)) ?_
 refine Bj rfl (B4 Bh Df rfl (.cons Ad (.cons Ad (.cons Ad (.cons Ad .nil)))) rfl rfl (by decide) (by simp [Value.oneCell']) fun b50 hb50 nb50 => ?_)
 refine B5 (i := 0) rfl hb50 .here fun F51 hF52 hz53 => ?_
 replace hr := hr.mono hF52
 replace hsl10 := hsl10.mono hF52
 replace hq1 := hq1.mono hF52
 replace hq2 := hq2.mono hF52
 replace hq3 := hq3.mono hF52
 replace hq4 := hq4.mono hF52
 replace hq5 := hq5.mono hF52
 replace hq6 := hq6.mono hF52
 have hsl54 := ints_box4 hz53
 refine Bx rfl (Be bd_37 A1 (.cons (Al rfl <| Ab) (.cons (Ab) (.cons Ad .nil))) (second_top_ok hr (l := starX) hsl54 2) (fun _ _ h => h.trans (show _ = Value.tuple #[.int .i64 1, .int .i64 1, .int .i64 0] by unfold secV; rw [ev_s1]))) ?_
 refine Aa rfl (Ag (Ab)) ?_
 refine Aa rfl (Az (Ab) rfl) ?_
 refine Aa rfl (Az (Al rfl <| Ab) rfl) ?_
 refine Aa rfl (Az (Aq rfl <| Ab) rfl) ?_
 refine Aa rfl (Ae (Aq rfl <| Ab)) ?_
 refine Aa rfl (Ae (Aq rfl <| Ab)) ?_
 refine Aa rfl (Ae (Aq rfl <| Ab)) ?_
 refine Ah <| Ac <| Af <| Ai fun ds => Aa rfl (Bb B7 (Bc rfl <| Bc rfl <| A2 rfl <| Aq rfl <| Al rfl <| Ab) rfl rfl (A7 0 rfl)) ?_
 refine Aa rfl (Ag (Bc rfl <| Bc rfl <| A2 rfl <| Aq rfl <| Ab)) ?_
 refine Bx rfl (Be bd_37 A1 (.cons (Al rfl <| Ab) (.cons (Ab) (.cons Ad .nil))) (second_top_ok hr (l := bestX) hsl10 2) (fun _ _ h => h.trans (show _ = Value.tuple #[.int .i64 0, .int .i64 0, .int .i64 8] by unfold secV; rw [ev_s2]))) ?_
 refine Aa rfl (Ag (Ab)) ?_
 refine Aa rfl (Az (Ab) rfl) ?_
 refine Aa rfl (Az (Al rfl <| Ab) rfl) ?_
 refine Aa rfl (Az (Aq rfl <| Ab) rfl) ?_
 refine Aa rfl (Ae (Aq rfl <| Ab)) ?_
 refine Aa rfl (Ae (Aq rfl <| Ab)) ?_
 refine Aa rfl (Ae (Aq rfl <| Ab)) ?_
 refine Ah <| Ac <| Af <| Ai fun ds => Aa rfl (Ag (Bc rfl <| Bc rfl <| A2 rfl <| Ax rfl <| Ab)) ?_
 refine Aa rfl (By (Ab) Ad) ?_
 refine Aa rfl (Ag (Ab)) ?_
 refine As rfl rfl (Ab) (by first | rfl | decide) ?_
 refine Aa rfl (Ag (Bc rfl <| Bc rfl <| A5 rfl <| Ax rfl <| Aq rfl <| Al rfl <| Ab)) ?_
 refine As rfl rfl (Al rfl <| Ab) (by first | rfl | decide) ?_
 refine Aa rfl (By (Ab) Ad) ?_
 refine Aa rfl (A6 (Aq rfl <| Ab) (by first | rfl | decide) (Ab)) ?_
 refine Aa rfl (Ag (Ab)) ?_
 refine As rfl rfl (Ab) (by first | rfl | decide) ?_
 refine Aa rfl (Ag (Bc rfl <| Bc rfl <| Aq rfl <| Al rfl <| Ab)) ?_
 refine As rfl rfl (Al rfl <| Ab) (by first | rfl | decide) ?_
 refine Aa rfl (By (Ab) Ad) ?_
 refine Aa rfl (A6 (Aq rfl <| Ab) (by first | rfl | decide) (Ab)) ?_
 refine Aa rfl (Ag (Ab)) ?_
 refine As rfl rfl (Ab) (by first | rfl | decide) ?_
 refine Aa rfl (Ag (Bc rfl <| A2 rfl <| A5 rfl <| Ax rfl <| Ab)) ?_
 refine As rfl rfl (Al rfl <| Ab) (by first | rfl | decide) ?_
 refine Aa rfl (By (Ab) Ad) ?_
 refine Aa rfl (A6 (Aq rfl <| Ab) (by first | rfl | decide) (Ab)) ?_
 refine Aa rfl (Ag (Ab)) ?_
 refine As rfl rfl (Ab) (by first | rfl | decide) ?_
 refine Aa rfl (Ag (Bc rfl <| A2 rfl <| A5 rfl <| Al rfl <| Ab)) ?_
 refine As rfl rfl (Al rfl <| Ab) (by first | rfl | decide) ?_
 refine Aa rfl (By (Ab) Ad) ?_
 refine Aa rfl (A6 (Aq rfl <| Ab) (by first | rfl | decide) (Ab)) ?_
 refine Aa rfl (Ag (Ab)) ?_
 refine As rfl rfl (Ab) (by first | rfl | decide) ?_
 refine Aa rfl (Ag (Bc rfl <| A2 rfl <| Ax rfl <| Aq rfl <| Ab)) ?_
 refine As rfl rfl (Al rfl <| Ab) (by first | rfl | decide) ?_
 refine Aa rfl (By (Ab) Ad) ?_
 refine Aa rfl (A6 (Aq rfl <| Ab) (by first | rfl | decide) (Ab)) ?_
 refine Aa rfl (Ag (Ab)) ?_
 refine As rfl rfl (Ab) (by first | rfl | decide) ?_
 refine Aa rfl (Ag (Bc rfl <| A2 rfl <| Aq rfl <| Ab)) ?_
 refine As rfl rfl (Al rfl <| Ab) (by first | rfl | decide) ?_
 refine Aa rfl (By (Ab) Ad) ?_
 refine Aa rfl (A6 (Aq rfl <| Ab) (by first | rfl | decide) (Ab)) ?_
 refine Aa rfl (Ag (Ab)) ?_
 refine As rfl rfl (Ab) (by first | rfl | decide) ?_
 refine Aa rfl (Ag (Bc rfl <| A5 rfl <| Ax rfl <| Aq rfl <| Al rfl <| Ab)) ?_
 refine As rfl rfl (Al rfl <| Ab) (by first | rfl | decide) ?_
 refine Aa rfl (By (Ab) Ad) ?_
 refine Aa rfl (A6 (Aq rfl <| Ab) (by first | rfl | decide) (Ab)) ?_
 refine Aa rfl (Ag (Ab)) ?_
 refine As rfl rfl (Ab) (by first | rfl | decide) ?_
 refine Aa rfl (Ag (Bc rfl <| A5 rfl <| Al rfl <| Ab)) ?_
 refine As rfl rfl (Al rfl <| Ab) (by first | rfl | decide) ?_
 refine Aa rfl (By (Ab) Ad) ?_
 refine Aa rfl (A6 (Aq rfl <| Ab) (by first | rfl | decide) (Ab)) ?_
 refine Aa rfl (Ag (Ab)) ?_
 refine As rfl rfl (Ab) (by first | rfl | decide) ?_
 refine Aa rfl (Ag (Bc rfl <| Bc rfl <| Bc rfl <| Ax rfl <| Aq rfl <| Al rfl <| Ab)) ?_
 refine As rfl rfl (Al rfl <| Ab) (by first | rfl | decide) ?_
 refine Aa rfl (By (Ab) Ad) ?_
 refine Aa rfl (A6 (Aq rfl <| Ab) (by first | rfl | decide) (Ab)) ?_
 refine Aa rfl (Ag (Ab)) ?_
 refine As rfl rfl (Ab) (by first | rfl | decide) ?_
 refine Aa rfl (Ag (Bc rfl <| Ax rfl <| Aq rfl <| Al rfl <| Ab)) ?_
 refine As rfl rfl (Al rfl <| Ab) (by first | rfl | decide) ?_
 refine Aa rfl (By (Ab) Ad) ?_
 refine Aa rfl (A6 (Aq rfl <| Ab) (by first | rfl | decide) (Ab)) ?_
 refine Aa rfl (Ag (Ab)) ?_
 refine As rfl rfl (Ab) (by first | rfl | decide) ?_
 refine Aa rfl (Ag (Bc rfl <| Bc rfl <| Bc rfl <| Bc rfl <| Ab)) ?_
 refine As rfl rfl (Al rfl <| Ab) (by first | rfl | decide) ?_
 refine Bj rfl (B4 Bh Df rfl (.cons Ad (.cons Ad .nil)) rfl rfl (by decide) (by simp [Value.oneCell']) fun b55 hb55 nb55 => ?_)
 refine B5 (i := 0) rfl hb55 .here fun F56 hF57 hz58 => ?_
 replace hsl10 := hsl10.mono hF57
 replace hq1 := hq1.mono hF57
 replace hq2 := hq2.mono hF57
 replace hq3 := hq3.mono hF57
 replace hq4 := hq4.mono hF57
 replace hq5 := hq5.mono hF57
 replace hq6 := hq6.mono hF57
 have hsl59 := ints_box2 hz58
 refine As rfl rfl (Aq rfl <| Ab) (by first | rfl | decide) ?_
 refine Bx rfl (Be bd_20 A1 (.cons (Al rfl <| Ab) (.cons (Ab) .nil)) (refInts_ok (Nats.ints hq1) hsl59) (fun _ _ h => h)) ?_
 refine Aa rfl (A6 (Aq rfl <| Al rfl <| Ab) (by first | rfl | decide) (Ab)) ?_
 refine Aa rfl (Ag (Ab)) ?_
 refine As rfl rfl (Ab) (by first | rfl | decide) ?_
 refine Aa rfl (Ag (Bc rfl <| Bc rfl <| Bc rfl <| A2 rfl <| A5 rfl <| Ax rfl <| Al rfl <| Ab)) ?_
 refine As rfl rfl (Al rfl <| Ab) (by first | rfl | decide) ?_
 refine Aa rfl (By (Ab) Ad) ?_
 refine Aa rfl (A6 (Aq rfl <| Ab) (by first | rfl | decide) (Ab)) ?_
 refine Aa rfl (Ag (Ab)) ?_
 refine As rfl rfl (Ab) (by first | rfl | decide) ?_
 refine Aa rfl (Ag (Bc rfl <| Bc rfl <| Bc rfl <| A2 rfl <| Al rfl <| Ab)) ?_
 refine As rfl rfl (Al rfl <| Ab) (by first | rfl | decide) ?_
 refine Aa rfl (Ek bt_60 (.cons Ad rfl (.cons Ad rfl .nil)) (.cons rfl rfl (Nat.le_of_ble_eq_true rfl) (.cons (.here) .nil) (.cons rfl rfl (Nat.le_of_ble_eq_true rfl) (.cons (.next <| .here) .nil) .nil))) ?_
 refine As rfl rfl (Aq rfl <| Ab) (by first | rfl | decide) ?_
 refine Aa rfl (Ek bt_60 (.cons Ad rfl (.cons Ad rfl .nil)) (.cons rfl rfl (Nat.le_of_ble_eq_true rfl) (.cons (.here) .nil) (.cons rfl rfl (Nat.le_of_ble_eq_true rfl) (.cons (.next <| .here) .nil) .nil))) ?_
 refine As rfl rfl (Aq rfl <| Al rfl <| Ab) (by first | rfl | decide) ?_
 refine Aa rfl (Ek bt_60 (.cons Ad rfl (.cons Ad rfl .nil)) (.cons rfl rfl (Nat.le_of_ble_eq_true rfl) (.cons (.here) .nil) (.cons rfl rfl (Nat.le_of_ble_eq_true rfl) (.cons (.next <| .here) .nil) .nil))) ?_
 refine As rfl rfl (Ax rfl <| Ab) (by first | rfl | decide) ?_
 refine Aa rfl (Ek bt_60 (.cons Ad rfl (.cons Ad rfl .nil)) (.cons rfl rfl (Nat.le_of_ble_eq_true rfl) (.cons (.here) .nil) (.cons rfl rfl (Nat.le_of_ble_eq_true rfl) (.cons (.next <| .here) .nil) .nil))) ?_
 refine As rfl rfl (Ax rfl <| Al rfl <| Ab) (by first | rfl | decide) ?_
 refine Bj rfl (x_buildN (offs := [(0, 2), (2, 2), (4, 2), (6, 2)]) (zl := [.int .i64 0, .int .i64 0, .int .i64 0, .int .i64 0, .int .i64 0, .int .i64 0, .int .i64 0, .int .i64 0]) D5 zr_60 rfl (.cons (Aq rfl <| Al rfl <| Ab) rfl (.cons (Aq rfl <| Ab) rfl (.cons (Al rfl <| Ab) rfl (.cons (Ab) rfl .nil)))) (by intro i p h; rcases i with _ | _ | _ | _ | i <;> simp at h <;> subst h <;> rfl) (.cons rfl rfl (Nat.le_of_ble_eq_true rfl) (.cons (.here) (.cons (.next <| .here) .nil)) (.cons rfl rfl (Nat.le_of_ble_eq_true rfl) (.cons (.next <| .next <| .here) (.cons (.next <| .next <| .next <| .here) .nil)) (.cons rfl rfl (Nat.le_of_ble_eq_true rfl) (.cons (.next <| .next <| .next <| .next <| .here) (.cons (.next <| .next <| .next <| .next <| .next <| .here) .nil)) (.cons rfl rfl (Nat.le_of_ble_eq_true rfl) (.cons (.next <| .next <| .next <| .next <| .next <| .next <| .here) (.cons (.next <| .next <| .next <| .next <| .next <| .next <| .next <| .here) .nil)) .nil)))) (by decide) (by decide) fun b60 hb60 nb60 => ?_)
 refine B5 (i := 0) rfl hb60 .here fun F61 hF62 hz63 => ?_
 replace hsl10 := hsl10.mono hF62
 replace hq2 := hq2.mono hF62
 replace hq3 := hq3.mono hF62
 replace hq4 := hq4.mono hF62
 replace hq5 := hq5.mono hF62
 replace hq6 := hq6.mono hF62
 have hsl64 := spansX_box4 hz63
 refine As rfl rfl (Ax rfl <| Aq rfl <| Ab) (by first | rfl | decide) ?_
 refine Bx rfl (Be bd_25 A1 (.cons (Ax rfl <| Al rfl <| Ab) (.cons (Ab) .nil)) (refSpans_ok hq2 hsl64) (fun _ _ h => h)) ?_
 refine Aa rfl (A6 (Ax rfl <| Aq rfl <| Al rfl <| Ab) (by first | rfl | decide) (Ab)) ?_
 refine Aa rfl (Ag (Ab)) ?_
 refine As rfl rfl (Ab) (by first | rfl | decide) ?_
 refine Aa rfl (Ag (Bc rfl <| Bc rfl <| Bc rfl <| A2 rfl <| Al rfl <| Ab)) ?_
 refine As rfl rfl (Al rfl <| Ab) (by first | rfl | decide) ?_
 refine Aa rfl (Ag (Bc rfl <| Bc rfl <| Bc rfl <| Bc rfl <| A2 rfl <| A5 rfl <| Al rfl <| Ab)) ?_
 refine As rfl rfl (Aq rfl <| Ab) (by first | rfl | decide) ?_
 refine Bx rfl (Be bd_20 A1 (.cons (Al rfl <| Ab) (.cons (Ab) .nil)) (refInts_ok hq3 hsl10) (fun _ _ h => h)) ?_
 refine Aa rfl (A6 (Aq rfl <| Al rfl <| Ab) (by first | rfl | decide) (Ab)) ?_
 refine Aa rfl (Ag (Ab)) ?_
 refine As rfl rfl (Ab) (by first | rfl | decide) ?_
 refine Aa rfl (Ag (Bc rfl <| Bc rfl <| Bc rfl <| A2 rfl <| Ax rfl <| Al rfl <| Ab)) ?_
 refine As rfl rfl (Al rfl <| Ab) (by first | rfl | decide) ?_
 refine Aa rfl (By (Ab) Ad) ?_
 refine Aa rfl (A6 (Aq rfl <| Ab) (by first | rfl | decide) (Ab)) ?_
 refine Aa rfl (Ag (Ab)) ?_
 refine As rfl rfl (Ab) (by first | rfl | decide) ?_
 refine Aa rfl (Ag (Bc rfl <| Bc rfl <| Bc rfl <| A2 rfl <| A5 rfl <| Ab)) ?_
 refine As rfl rfl (Al rfl <| Ab) (by first | rfl | decide) ?_
 refine Aa rfl (By (Ab) Ad) ?_
 refine Aa rfl (A6 (Aq rfl <| Ab) (by first | rfl | decide) (Ab)) ?_
 refine Aa rfl (Ag (Ab)) ?_
 refine As rfl rfl (Ab) (by first | rfl | decide) ?_
 refine Aa rfl (Ag (Bc rfl <| Bc rfl <| Bc rfl <| A2 rfl <| Ax rfl <| Al rfl <| Ab)) ?_
 refine As rfl rfl (Al rfl <| Ab) (by first | rfl | decide) ?_
 refine Bj rfl (B4 Bh Df rfl (.cons Ad .nil) rfl rfl (by decide) (by simp [Value.oneCell']) fun b65 hb65 nb65 => ?_)
 refine B5 (i := 0) rfl hb65 .here fun F66 hF67 hz68 => ?_
 replace hq4 := hq4.mono hF67
 replace hq5 := hq5.mono hF67
 replace hq6 := hq6.mono hF67
 have hsl69 := C4 hz68
 refine As rfl rfl (Aq rfl <| Ab) (by first | rfl | decide) ?_
 refine Bx rfl (Be bd_20 A1 (.cons (Al rfl <| Ab) (.cons (Ab) .nil)) (refInts_ok (Nats.ints hq4) hsl69) (fun _ _ h => h)) ?_
 refine Aa rfl (A6 (Aq rfl <| Al rfl <| Ab) (by first | rfl | decide) (Ab)) ?_
 refine Aa rfl (Ag (Ab)) ?_
 refine As rfl rfl (Ab) (by first | rfl | decide) ?_
 refine Aa rfl (Ag (Bc rfl <| Bc rfl <| Bc rfl <| A2 rfl <| Aq rfl <| Al rfl <| Ab)) ?_
 refine As rfl rfl (Al rfl <| Ab) (by first | rfl | decide) ?_
 refine Aa rfl (By (Ab) Ad) ?_
 refine Aa rfl (A6 (Aq rfl <| Ab) (by first | rfl | decide) (Ab)) ?_
 refine Aa rfl (Ag (Ab)) ?_
 refine As rfl rfl (Ab) (by first | rfl | decide) ?_
 refine Aa rfl (Ag (Bc rfl <| Bc rfl <| Bc rfl <| A5 rfl <| Ax rfl <| Aq rfl <| Al rfl <| Ab)) ?_
 refine As rfl rfl (Al rfl <| Ab) (by first | rfl | decide) ?_
 refine Bj rfl (B4 Bh Df rfl (.cons Ad .nil) rfl rfl (by decide) (by simp [Value.oneCell']) fun b70 hb70 nb70 => ?_)
 refine B5 (i := 0) rfl hb70 .here fun F71 hF72 hz73 => ?_
 replace hq5 := hq5.mono hF72
 replace hq6 := hq6.mono hF72
 have hsl74 := C4 hz73
 refine As rfl rfl (Aq rfl <| Ab) (by first | rfl | decide) ?_
 refine Bx rfl (Be bd_20 A1 (.cons (Al rfl <| Ab) (.cons (Ab) .nil)) (refInts_ok hq5 hsl74) (fun _ _ h => h)) ?_
 refine Aa rfl (A6 (Aq rfl <| Al rfl <| Ab) (by first | rfl | decide) (Ab)) ?_
 refine Aa rfl (Ag (Ab)) ?_
 refine As rfl rfl (Ab) (by first | rfl | decide) ?_
 refine Aa rfl (Ag (Bc rfl <| Bc rfl <| Bc rfl <| A5 rfl <| Ax rfl <| Al rfl <| Ab)) ?_
 refine As rfl rfl (Al rfl <| Ab) (by first | rfl | decide) ?_
 refine Aa rfl (Bm Bh (Ab) hq6.plain) ?_
 refine As rfl rfl (Aq rfl <| Ab) (by first | rfl | decide) ?_
 refine Aa rfl (By (Ab) Ad) ?_
 refine Aa rfl (A6 (Aq rfl <| Al rfl <| Ab) (by first | rfl | decide) (Ab)) ?_
 refine Aa rfl (Ag (Ab)) ?_
 refine As rfl rfl (Ab) (by first | rfl | decide) ?_
 refine Aa rfl (Ag (Bc rfl <| Bc rfl <| Bc rfl <| A5 rfl <| Al rfl <| Ab)) ?_
 refine As rfl rfl (Al rfl <| Ab) (by first | rfl | decide) ?_
 refine Aa rfl (By (Ab) Ad) ?_
 refine Aa rfl (A6 (Aq rfl <| Ab) (by first | rfl | decide) (Ab)) ?_
 refine Aa rfl (Ag (Ab)) ?_
 refine As rfl rfl (Ab) (by first | rfl | decide) ?_
 refine Aa rfl (Ag (Bc rfl <| Bc rfl <| Bc rfl <| A5 rfl <| Ax rfl <| Ab)) ?_
 refine As rfl rfl (Al rfl <| Ab) (by first | rfl | decide) ?_
 refine Aa rfl (By (Ab) Ad) ?_
 refine Aa rfl (A6 (Aq rfl <| Ab) (by first | rfl | decide) (Ab)) ?_
 refine Aa rfl (Ae (Ab)) ?_
 refine Ah <| Ac <| A4 <| Ay rfl (.tmp (Ab) .nil) ?_
 show _ = _
 first | rfl | decide
end Go.Proofs.Ytccogmkhijgelaa
namespace Go.Proofs.Ytccogmkhijgelaa
def turnN (xs : List Nat) (n : Nat) : Nat := xs[n % xs.length]?.getD 0
theorem Ey {xs : List Nat} (h : ∀ x ∈ xs, x < 256) {n : Nat} : turnN xs n < 256 := by
 unfold turnN
 cases hx : xs[n % xs.length]? with
 | none => decide
 | some x => exact h x (List.mem_of_getElem? hx)
theorem turnN_nil {n : Nat} : turnN [] n = 0 := by simp [turnN]
theorem turnN_at {xs : List Nat} {n : Nat} (h : n % xs.length < xs.length) : turnN xs n = xs[n % xs.length] := by simp [turnN, h]
/-- What was taken so far, and what is left. -/
structure TreeI (n : Nat) (g : Nat → Int) (taken left : List Nat) : Prop where
 nodup : (taken ++ left).Nodup
 len : taken.length + left.length = n
 all : ∀ i, i < n ↔ i ∈ taken ++ left
 root : ∀ (h : 0 < taken.length), g taken[0] = -1
 up : ∀ j (h : j < taken.length), 0 < j → ∃ k, ∃ hk : k < j, g taken[j] = (taken[k] : Int)
theorem TreeI.start {n : Nat} {g : Nat → Int} : TreeI n g [] (List.range n) := ⟨by simpa using List.nodup_range, by simp, fun i => by simp, fun h => absurd h (by simp), fun j h => absurd h (by simp)⟩
theorem erase_perm {α : Type} {l : List α} {k : Nat} (hk : k < l.length) : l.Perm (l[k] :: l.eraseIdx k) := by
 rw [List.eraseIdx_eq_take_drop_succ]
 have h : l = l.take k ++ l[k] :: l.drop (k + 1) := by rw [← List.drop_eq_getElem_cons hk, List.take_append_drop]
 conv => lhs; rw [h]
 exact List.perm_middle
section
variable {n : Nat} {g : Nat → Int} {taken left : List Nat} {k : Nat}
theorem TreeI.perm (hk : k < left.length) : (taken ++ left).Perm ((taken ++ [left[k]]) ++ left.eraseIdx k) := by
 rw [List.append_assoc]
 exact (erase_perm hk).append_left taken
theorem TreeI.fresh (h : TreeI n g taken left) (hk : k < left.length) {j : Nat} (hj : j < taken.length) : taken[j] ≠ left[k] := fun he => by
 have := (List.nodup_append.1 h.nodup).2.2 _ (List.getElem_mem hj) _ (List.getElem_mem hk)
 exact this he
theorem TreeI.lt (h : TreeI n g taken left) (hk : k < left.length) : left[k] < n := (h.all _).2 (List.mem_append_right _ (List.getElem_mem hk))
theorem TreeI.step (h : TreeI n g taken left) (hk : k < left.length) {g' : Nat → Int} (hg : ∀ i, i ≠ left[k] → g' i = g i) (h0 : taken.length = 0 → g' left[k] = -1) (h1 : 0 < taken.length → ∃ q, ∃ hq : q < taken.length, g' left[k] = (taken[q] : Int)) :
   TreeI n g' (taken ++ [left[k]]) (left.eraseIdx k) := by
 have hp := TreeI.perm (taken := taken) hk
 refine ⟨hp.nodup_iff.1 h.nodup, by have := h.len; rw [List.length_append, List.length_eraseIdx_of_lt hk, List.length_singleton]; omega, fun i => (h.all i).trans hp.mem_iff, fun hl => ?_, fun j hj hj0 => ?_⟩
 · by_cases ht : 0 < taken.length
   · rw [List.getElem_append_left ht, hg _ (h.fresh hk ht)]; exact h.root ht
   · rw [List.getElem_append_right (by omega)]
     simp only [List.getElem_singleton]
     exact h0 (by omega)
 · by_cases ht : j < taken.length
   · obtain ⟨q, hq, he⟩ := h.up j ht hj0
     refine ⟨q, hq, ?_⟩
     rw [List.getElem_append_left ht, List.getElem_append_left (by omega), hg _ (h.fresh hk ht)]; exact he
   · have hj2 : j = taken.length := by simp at hj; omega
     subst hj2
     obtain ⟨q, hq, he⟩ := h1 hj0
     refine ⟨q, hq, ?_⟩
     rw [List.getElem_append_right (Nat.le_refl _), List.getElem_append_left hq]
     simp only [List.getElem_singleton]
     exact he
end
theorem reach_le {l : List Int} {i f : Nat} (h : reach l f i = true) : ∀ d, reach l (f + d) i = true
 | 0 => h
 | d + 1 => reach_succ (reach_le h d)
theorem firsts_uniq {l : List Int} {r : Nat} (hr : upN l r = -1) : ∀ {k : Nat}, (∀ i, i < k → upN l i = -1 → i = r) → firstsN l k = if r < k then 1 else 0
 | 0, _ => by simp [firstsN]
 | k + 1, h => by
   unfold firstsN
   rw [firsts_uniq hr (fun i hi => h i (by omega))]
   by_cases hk : upN l k = -1
   · have := h k (by omega) hk
     subst this
     rw [if_pos hk, if_neg (by omega), if_pos (by omega)]; rfl
   · rw [if_neg hk]
     have : r ≠ k := fun e => hk (by rw [← e]; exact hr)
     by_cases hrk : r < k
     · rw [if_pos hrk, if_pos (by omega)]
     · rw [if_neg hrk, if_neg (by omega)]
def listG (g : Nat → Int) (n : Nat) : List Int := (List.range n).map g
theorem TreeI.tree {n : Nat} {g : Nat → Int} {taken : List Nat} (h : TreeI n g taken []) (hn : 0 < n) : IsTree (listG g n) := by
 have hlen : (listG g n).length = n := by simp [listG]
 have hup : ∀ i, i < n → upN (listG g n) i = g i := fun i hi => upN_map hi
 have hall : ∀ i, i < n ↔ i ∈ taken := fun i => by rw [h.all i, List.append_nil]
 have htl : taken.length = n := by have := h.len; simpa using this
 have hlt : ∀ j (hj : j < taken.length), taken[j] < n := fun j hj => (hall _).2 (List.getElem_mem hj)
 refine ⟨fun i hi => ?_, fun i hi => ?_, ?_⟩
 · rw [hlen] at hi ⊢
   rw [hup i hi]
   obtain ⟨j, hj, rfl⟩ := List.getElem_of_mem ((hall i).1 hi)
   by_cases hj0 : j = 0
   · subst hj0; rw [h.root hj]; omega
   · obtain ⟨k, hk, he⟩ := h.up j hj (by omega)
     rw [he]
     have := hlt k (by omega)
     omega
 · rw [hlen] at hi ⊢
   obtain ⟨j, hj, rfl⟩ := List.getElem_of_mem ((hall i).1 hi)
   have key : ∀ j (hj : j < taken.length), reach (listG g n) j taken[j] = true := by
     intro j
     induction j using Nat.strongRecOn with
     | _ j ih =>
       intro hj
       by_cases hj0 : j = 0
       · subst hj0; exact reach_end (by rw [hup _ (hlt 0 hj)]; exact h.root hj)
       · obtain ⟨k, hk, he⟩ := h.up j hj (by omega)
         obtain ⟨j', rfl⟩ : ∃ j', j = j' + 1 := ⟨j - 1, by omega⟩
         rw [reach_step (j := taken[k]) (by rw [hup _ (hlt _ hj)]; exact he)]
         have := reach_le (ih k hk (by omega)) (j' - k)
         rw [show k + (j' - k) = j' by omega] at this
         exact this
   have := reach_le (key j hj) (n - j)
   rw [show j + (n - j) = n by omega] at this
   exact this
 · rw [hlen]
   have h0 : 0 < taken.length := by omega
   rw [firsts_uniq (r := taken[0]) (by rw [hup _ (hlt 0 h0)]; exact h.root h0) fun i hi hu => ?_, if_pos (hlt 0 h0)]
   rw [hup i hi] at hu
   obtain ⟨j, hj, rfl⟩ := List.getElem_of_mem ((hall i).1 hi)
   by_cases hj0 : j = 0
   · subst hj0; rfl
   · obtain ⟨k, hk, he⟩ := h.up j hj (by omega)
     omega
end Go.Proofs.Ytccogmkhijgelaa
namespace Go.Proofs.Ytccogmkhijgelaa
open Go.RowKit
theorem bd_96 : Body Try.prog 96 := Bo (by kernel_rfl)
theorem one_5 : OneT Try.prog 5 := Dt (by kernel_rfl)
theorem sl_50 : SliceT Try.prog 50 5 1 := Eo (by kernel_rfl)
set_option maxRecDepth 100000 in
theorem valid_ok {F : Heap} {vp ve : Value} {ps : List (Value × Edn)} {s : Stm} (hr : StmR F vp ve ps s) : Ok Try.prog 40 [.agg #[vp, ve]].toArray F fun u _ => u = .bool (decide ((checkT s).2.2 = 0)) := by
 refine Ok.intro Try.func40 rfl Try.ntmps40 rfl fun w0 => ?_
 refine Af <| Ai fun ds => Bj rfl (B2 (Ak rfl) rfl fun b1 hb1 nb1 => ?_)
 refine Aa rfl (Ae Ad) ?_
 refine Ah <| Ac <| Af <| Ai fun ds => Aa rfl (Bb B7 (Al rfl <| Ab) rfl rfl (A7 0 rfl)) ?_
 refine Bx rfl (Be bd_17 A1 (.cons (Ab) .nil) (refCheckT_ok hr) (fun _ _ h => h.trans (show checkTV s = .tuple #[.int .i64 (checkT s).1, .int .i64 (checkT s).2.1, .int .i64 (checkT s).2.2] from rfl))) ?_
 refine Aa rfl (Ag (Ab)) ?_
 refine Aa rfl (Az (Ab) rfl) ?_
 refine Aa rfl (Az (Al rfl <| Ab) rfl) ?_
 refine Aa rfl (Az (Aq rfl <| Ab) rfl) ?_
 refine Aa rfl (Ae (Aq rfl <| Ab)) ?_
 refine Aa rfl (Ae (Aq rfl <| Ab)) ?_
 refine Aa rfl (Ae (Aq rfl <| Ab)) ?_
 refine Ah <| Ac <| Af <| Ai fun ds => Aa rfl (Ag (Ab)) ?_
 refine Aa rfl (By (Ab) Ad) ?_
 refine Aa rfl (Ae (Ab)) ?_
 refine Ah <| Ac <| A4 <| Ay rfl (.tmp (Ab) .nil) ?_
 rfl
set_option maxRecDepth 100000 in
theorem Ej {F : Heap} {vx : Value} {xs : List Nat} (hxs : Sl F vx 1 u8E xs) (hxb : ∀ x ∈ xs, x < 256) {n : Nat} {z : Int} (hz : z = (n : Int)) : Ok Try.prog 96 [vx, .int .i64 z].toArray F fun u _ => u = .int .i64 (turnN xs n : Int) := by
 subst hz
 refine Ok.intro Try.func96 rfl Try.ntmps96 rfl fun w0 => ?_
 have hL := hxs.plain.lt
 by_cases h0 : xs.length = 0
 ·
  refine Af <| Ai fun ds => Aa rfl (Ae Ad) ?_
  refine Ah <| Ac <| Af <| Af <| Ai fun ds => Aa rfl (Ag (Al rfl <| Ak rfl)) ?_
  refine Aa rfl (Bm sl_50 (Ab) hxs.plain) ?_
  refine Aa rfl (By (Ab) Ad) ?_
  refine Ah <| Ac <| Ar (Ab) (by first | rfl | exact decide_eq_true (by omega)) ?_
  refine Af <| Ai fun ds => Aa rfl (Ae Ad) ?_
  refine Ah <| Ac <| A4 <| Ba ?_
  refine Ay rfl (.tmp (Ab) .nil) ?_
  show _ = _
  have : xs = [] := List.eq_nil_of_length_eq_zero h0
  subst this
  rw [turnN_nil]; rfl
 ·
  refine Af <| Ai fun ds => Aa rfl (Ae Ad) ?_
  refine Ah <| Ac <| Af <| Af <| Ai fun ds => Aa rfl (Ag (Al rfl <| Ak rfl)) ?_
  refine Aa rfl (Bm sl_50 (Ab) hxs.plain) ?_
  refine Aa rfl (By (Ab) Ad) ?_
  refine Ah <| Ac <| Ao (Ab) (by first | rfl | exact decide_eq_false (by omega)) ?_
  have hlt : n % xs.length < xs.length := Nat.mod_lt _ (by omega)
  have hb := hxb _ (List.getElem_mem hlt)
  refine Aw <| Ac <| Af <| Ai fun ds => Aa rfl (Ag (Ax rfl <| Ak rfl)) ?_
  refine Aa rfl (Ag (Ax rfl <| Al rfl <| Ak rfl)) ?_
  refine Aa rfl (Ag (Ax rfl <| Aq rfl <| Ak rfl)) ?_
  refine Aa rfl (Bm sl_50 (Ab) hxs.plain) ?_
  refine Aa rfl (q_rem (Aq rfl <| Ab) (Ab) (Int.natCast_nonneg _) (by omega)) ?_
  refine Aa rfl (A8 (k := n % xs.length) sl_50 (Ax rfl <| Ab) hxs.plain (Ab) (by omega) hlt) ?_
  refine Aa rfl (Ap one_5 (Ab) (hxs.cell1 hlt rfl)) ?_
  refine Aa rfl (q_convert ⟨_, Try.underlying5⟩ Try.underlying3 (Ab) (IntWalk.i64_in _ ⟨by omega, by omega⟩)) ?_
  refine Aa rfl (Ae (Ab)) ?_
  refine Ah <| Ac <| A4 <| Ay rfl (.tmp (Ab) .nil) ?_
  show _ = _
  rw [turnN_at hlt]; rfl
theorem iL_zero {n : Nat} : List.replicate n (Value.int .i64 0) = (iL (fun _ => 0) n).flatMap intE := by
 induction n with
 | zero => rfl
 | succ n ih => rw [List.replicate_succ', iL_succ, List.flatMap_append, ih]; rfl
theorem nat_get {xs : List Nat} {i : Nat} (h : i < xs.length) : (xs.flatMap natE)[i * 1]? = some (.int .i64 (xs[i] : Int)) := flat_at (enc := natE) (s := 1) (fun _ => rfl) (j := 0) xs i h rfl
theorem set_one {g : Nat → Int} {i : Nat} {v w : Int} : updI (updI g i v) i w = updI g i w := by funext j; unfold updI; split <;> rfl
theorem row_addr {b n c : Nat} : addc (base (.slice (some ⟨b, 0, none⟩) n n)) (c * 1) = ⟨b, c * 1, none⟩ := by simp [base, addc]
theorem updI_ne {g : Nat → Int} {i : Nat} {v : Int} : ∀ j, j ≠ i → updI g i v j = g j := fun j h => by unfold updI; rw [if_neg h]
theorem updI_eq {g : Nat → Int} {i : Nat} {v : Int} : updI g i v i = v := by unfold updI; rw [if_pos rfl]
set_option maxRecDepth 100000 in
theorem tree_ok7 {F : Heap} {vx : Value} {xs : List Nat} (hxs : Sl F vx 1 u8E xs) (hxb : ∀ x ∈ xs, x < 256) {many : Nat} (hm0 : 0 < many) (hm5 : many ≤ 5) : Ok Try.prog 41 [.int .i64 (many : Int), vx].toArray F fun u F' => ∃ l, Ints F' u l ∧ l.length = many ∧ IsTree l := by
 have hle0 : F.le F := Heap.le_refl _
 refine Ok.intro Try.func41 rfl Try.ntmps41 rfl fun w0 => ?_
 have hxl := hxs.plain.lt
 refine Af <| Ai fun ds => Aa rfl (Ae Ad) ?_
 refine Ah <| Ac <| Af <| Ai fun ds => Aa rfl (Ag (Al rfl <| Ak rfl)) ?_
 refine Bj rfl (x_make (k := many) Bh el_3 rfl rfl (Ab) (Ab) rfl (by omega) (by omega) fun b1 hb1 nb1 => ?_)
 refine Aa rfl (Ae (Ab)) ?_
 refine Ah <| Ac <| Af <| Ai fun ds => Aa rfl (Ae Ad) ?_
 refine Aa rfl (Ae Ad) ?_
 refine Ah <| Ac <| Af <| Af <| Ai fun ds => Aa rfl (Ae Ad) ?_
 refine Ah <| Ac <| A0 <| Bt [6, 8, 13, 14, 15, 16, 17, 18, 19, 20, 21] (fun m e σ => ∃ k : Nat, m + k = many ∧ e 8 = .int .i64 (k : Int) ∧ ∃ v6 R6, e 6 = v6 ∧ Own 3 1 v6 (List.range k).length ((List.range k).flatMap natE) R6 ∧ σ = ⟨F, (b1, bx 3 ((iL (fun _ => 0) many).flatMap intE)) :: R6⟩) (many) ?_ ?_
 · exact ⟨0, by omega, (Ab), _, _, (Aq rfl <| Ab), Own.nil, by rw [iL_zero]⟩
 ·
  rintro m e _ ⟨k, hm9, hs8, v6, R6, hs6, ho, rfl⟩; have hrl : (List.range k).length = k := List.length_range
  by_cases hlt : k < many
  ·
   refine Af <| Af <| Ai fun ds => Aa rfl (Ag (At rfl hs8)) ?_
   refine Aa rfl (Ag (Al rfl <| Aj rfl <| Ax rfl <| Aq rfl <| Al rfl <| Ak rfl)) ?_
   refine Aa rfl (Bu (Al rfl <| Ab) (Ab)) ?_
   refine Ah <| Ac <| Ar (Ab) (by first | rfl | exact decide_eq_true (by omega)) ?_
   refine Aw <| Ac <| Af <| A0 <| Ai fun ds => Aa rfl (Ag (Aq rfl <| Al rfl <| At rfl hs6)) ?_
   refine Aa rfl (Ag (Ax rfl <| At rfl hs8)) ?_
   refine Bj rfl (B4 Bh Df rfl (.cons (Ab) .nil) rfl rfl (by decide) (by simp [Value.oneCell']) fun b3 hb3 nb3 => ?_)
   refine Bj rfl (Co Bh el_3 (Aq rfl <| Ab) ho (Ab) (Dl (s := 1) 0 rfl rfl (by simp [Value.oneCell'])) (by omega) (by omega) (.s <| .s <| .z) .last fun v4 R5 ho6 => ?_)
   have ho2 := ho6.snoc (x := k) rfl rfl
   refine Aa rfl (Ae (Ab)) ?_
   refine Ah <| Bd <| Ac <| Dj (fun _ _ h => h.drop (.cons _ <| .cons_cons _ <| .refl _)) ?_
   refine Ai fun ds => Aa rfl (Ag (A5 rfl <| At rfl hs8)) ?_
   refine Aa rfl (Bq (Ab) Ad rfl (by omega) (by omega)) ?_
   refine Aa rfl (Ae (Ab)) ?_
   refine Ah <| Ac ⟨_, m - 1, Off.eq (Dr rfl <| ou2 rfl <| Ds rfl <| Bg), by omega, ?_⟩
   exact ⟨k + 1, by omega, (Ab), _, _, (Aq rfl <| Al rfl <| Ab), by rw [List.range_succ]; exact ho2, rfl⟩
  ·
   refine Af <| Af <| Ai fun ds => Aa rfl (Ag (At rfl hs8)) ?_
   refine Aa rfl (Ag (Al rfl <| Aj rfl <| Ax rfl <| Aq rfl <| Al rfl <| Ak rfl)) ?_
   refine Aa rfl (Bu (Al rfl <| Ab) (Ab)) ?_
   refine Ah <| Ac <| Ao (Ab) (by first | rfl | exact decide_eq_false (by omega)) ?_
   obtain rfl : many = k := by omega
   refine Ct (σ := ⟨_, _⟩) (by rfl) ho (.s <| .z) .last fun F7 hF8 hz9 => ?_
   replace hxs := hxs.mono hF8
   replace hle0 := Heap.le_trans hle0 hF8
   have hlf := ho.sl (fun _ => rfl) hz9 (by omega)
   refine Bp ?_
   refine Bf <| Bf <| Bi <| Ac <| Af <| A0 <| Bt [6, 7, 9, 10, 22, 23, 24, 25, 26, 27, 28, 29, 30, 31, 32, 33, 34, 35, 36, 37, 38, 39, 40, 41, 42, 43, 44, 45, 46, 47, 48, 49, 50, 51, 52, 53, 54, 55, 56, 57, 58, 59, 60, 61, 62, 63, 64, 65, 66, 67, 68, 69, 70, 71] (fun m e σ => ∃ G, F7.le G ∧ ∃ (g : Nat → Int) (taken left : List Nat) (v6 v7 : Value) (R7 : List (Nat × Obj)), m = left.length ∧ e 6 = v6 ∧ e 7 = v7 ∧ Nats G v6 left ∧ Own 3 1 v7 taken.length (taken.flatMap natE) R7 ∧ TreeI many g taken left ∧ σ = ⟨G, (b1, bx 3 ((iL g many).flatMap intE)) :: R7⟩) (many) ?_ ?_
   · exact ⟨_, Heap.le_refl _, fun _ => 0, [], _, _, _, _, List.length_range.symm, (Aq rfl <| Al rfl <| At rfl hs6), (Aq rfl <| Al rfl <| Aj rfl <| Al rfl <| Ab), hlf, E0, TreeI.start, rfl⟩
   ·
    rintro m2 e2 _ ⟨G, hFG, g, taken, left, v6, v7, R7, rfl, ht6, ht7, hlf, ho, hI, rfl⟩; replace hxs := hxs.mono hFG; replace hle0 := Heap.le_trans hle0 hFG; have hlf9 := hlf.plain.lt; have hlen0 := hI.len
    by_cases hl0 : left.length = 0
    ·
     refine Af <| Af <| Ai fun ds => Aa rfl (Ag (At rfl ht6)) ?_
     refine Aa rfl (Bm Bh (Ab) hlf.plain) ?_
     refine Aa rfl (C8 (Ab) Ad) ?_
     refine Ah <| Ac <| Ao (Ab) (decide_eq_false (by omega)) ?_
     have hle := List.eq_nil_of_length_eq_zero hl0
     subst hle
     refine Bp ?_
     refine Bf <| Bf <| Bi <| Ac <| Af <| B9 (i := 0) rfl hb1 (.here) fun F11 hF12 hz5 => ?_
     refine Ai fun ds => Aa rfl (Ag (Aq rfl <| Al rfl <| Aj rfl <| Aq rfl <| Al rfl <| Aj rfl <| Aq rfl <| Al rfl <| Ab)) ?_
     refine Aa rfl (Ae (Ab)) ?_
     refine Ah <| Ac <| A4 <| Ay rfl (.tmp (Ab) .nil) ?_
     refine ⟨iL g many, sl_box hz5 rfl Ch (fun _ => rfl) (by omega), Ch, ?_⟩
     exact hI.tree hm0
    ·
     refine Af <| Af <| Ai fun ds => Aa rfl (Ag (At rfl ht6)) ?_
     refine Aa rfl (Bm Bh (Ab) hlf.plain) ?_
     refine Aa rfl (C8 (Ab) Ad) ?_
     refine Ah <| Ac <| Ar (Ab) (decide_eq_true (by omega)) ?_
     have hkk : (turnN xs taken.length % left.length) < left.length := Nat.mod_lt _ (by omega)
     have hil := hI.lt hkk
     have hlen := hI.len
     have ht1 : turnN xs taken.length < 256 := Ey hxb
     have ht2 : turnN xs (many + taken.length) < 256 := Ey hxb
     refine Aw <| Ac <| A0 <| Af <| Ai fun ds => Aa rfl (Ag (Aq rfl <| Al rfl <| Aj rfl <| Aq rfl <| Al rfl <| Aj rfl <| Ax rfl <| Aq rfl <| Al rfl <| Ak rfl)) ?_
     refine Aa rfl (Ag (Ax rfl <| At rfl ht7)) ?_
     refine Aa rfl (Bm Bh (Ab) (ho.plain (by omega))) ?_
     refine Bx rfl (Be bd_96 A1 (.cons (Aq rfl <| Ab) (.cons (Ab) .nil)) (Ej hxs hxb rfl) (fun _ _ h => h)) ?_
     refine Aa rfl (Ag (Ax rfl <| Aq rfl <| Al rfl <| At rfl ht6)) ?_
     refine Aa rfl (Bm Bh (Ab) hlf.plain) ?_
     refine Aa rfl (q_rem (Aq rfl <| Ab) (Ab) (Int.natCast_nonneg _) (by omega)) ?_
     refine Aa rfl (Ae (Ab)) ?_
     refine Ah <| Ac <| Af <| Ai fun ds => Aa rfl (Ag (A5 rfl <| Aq rfl <| Al rfl <| At rfl ht6)) ?_
     refine Aa rfl (Ag (Al rfl <| Ab)) ?_
     refine Aa rfl (A8 (k := (turnN xs taken.length % left.length)) Bh (Al rfl <| Ab) hlf.plain (Ab) (by omega) hkk) ?_
     refine Aa rfl (Ap Bk (Ab) (hlf.cell1 hkk rfl)) ?_
     refine Aa rfl (Ae (Ab)) ?_
     refine Ah <| Ac <| Af ?_
     have hleS := hle0
     refine C0 (.inl rfl) (fun _ _ h => h) (.cons_cons _ <| .refl _) [] (by kernel_rfl) fun ds => ?_
     refine A3 1 rfl (by kernel_rfl) (by kernel_rfl) (by kernel_rfl) (by kernel_rfl) rfl rfl (fun _ h => h.drop (.cons_cons _ <| .refl _)) (fun _ _ _ h => h) (Ag (A2 rfl <| At rfl ht6)) ?_
     refine A3 2 rfl (by kernel_rfl) (by kernel_rfl) (by kernel_rfl) (by kernel_rfl) rfl rfl (fun _ h => h.drop (.cons_cons _ <| .refl _)) (fun _ _ _ h => h) (Ag (Ax rfl <| Aq rfl <| Ab)) ?_
     refine A3 3 rfl (by kernel_rfl) (by kernel_rfl) (by kernel_rfl) (by kernel_rfl) rfl rfl (fun _ h => h.drop (.cons_cons _ <| .refl _)) (fun _ _ _ h => h) (q_sliceTo Bh (Al rfl <| Ab) hlf.plain (Ab) (k := (turnN xs taken.length % left.length)) (by omega) (by omega)) ?_
     refine A3 5 rfl (by kernel_rfl) (by kernel_rfl) (by kernel_rfl) (by kernel_rfl) rfl rfl (fun _ h => h.drop (.cons_cons _ <| .refl _)) (fun _ _ _ h => h) (Ag (A2 rfl <| Aq rfl <| Al rfl <| At rfl ht6)) ?_
     refine A3 6 rfl (by kernel_rfl) (by kernel_rfl) (by kernel_rfl) (by kernel_rfl) rfl rfl (fun _ h => h.drop (.cons_cons _ <| .refl _)) (fun _ _ _ h => h) (Ag (A5 rfl <| Al rfl <| Ab)) ?_
     refine A3 7 rfl (by kernel_rfl) (by kernel_rfl) (by kernel_rfl) (by kernel_rfl) rfl rfl (fun _ h => h.drop (.cons_cons _ <| .refl _)) (fun _ _ _ h => h) (Bq (Ab) Ad rfl (by omega) (by omega)) ?_
     refine A3 8 rfl (by kernel_rfl) (by kernel_rfl) (by kernel_rfl) (by kernel_rfl) rfl rfl (fun _ h => h.drop (.cons_cons _ <| .refl _)) (fun _ _ _ h => h) (q_sliceFrom Bh (Aq rfl <| Ab) hlf.plain (Ab) (k := (turnN xs taken.length % left.length) + 1) (by omega) (by omega)) ?_
     refine WX_x 0 rfl (by kernel_rfl) rfl (x_build0 Bh fun b13 hb13 nb13 => ⟨fun _ _ => (fun _ h => h.drop (.cons _ <| .cons_cons _ <| .refl _)), ?_⟩)
     refine WX_x 4 rfl (by kernel_rfl) rfl (Co Bh el_3 (Ab) (own_box rfl) (Ax rfl <| Al rfl <| Ab) ((hlf.to (k := (turnN xs taken.length % left.length)) (by omega)).src (fun _ => rfl) natE_one) (by rw [List.length_take]; omega) (by rw [List.length_take]; omega) (.z) .box fun v14 R15 ho16 => ⟨fun _ _ => (fun _ h => h.drop (List.sublist_append_of_sublist_right <| .cons_cons _ <| .refl _)), ?_⟩)
     refine WX_x 9 rfl (by kernel_rfl) rfl (Co Bh el_3 (Ab) ho16 (Aq rfl <| Ab) ((hlf.from (k := (turnN xs taken.length % left.length) + 1) (by omega)).src (fun _ => rfl) natE_one) (by rw [List.length_take, List.length_drop]; omega) (by rw [List.length_take, List.length_drop]; omega) (.z) .more fun v17 R18 ho19 => ⟨fun _ _ => (fun _ h => h.drop (List.sublist_append_of_sublist_right <| .cons_cons _ <| .refl _)), ?_⟩)
     have ho45 : Own 3 1 v17 (left.eraseIdx (turnN xs taken.length % left.length)).length ((left.eraseIdx (turnN xs taken.length % left.length)).flatMap natE) R18 := by rw [List.eraseIdx_eq_take_drop_succ]; simpa using ho19
     refine A3 10 rfl (by kernel_rfl) (by kernel_rfl) (by kernel_rfl) (by kernel_rfl) rfl rfl (fun _ h => h.drop (List.sublist_append_of_sublist_right <| .cons_cons _ <| .refl _)) (fun _ _ _ h => h) (Ae (Ab)) ?_
     refine C9 (by kernel_rfl) ?_ _
     refine Ac <| Af <| Ct (σ := ⟨_, _⟩) (by rfl) ho45 (.z) .more fun F20 hF21 hz22 => ?_
     replace hxs := hxs.mono hF21
     replace hFG := Heap.le_trans hFG hF21
     refine E4 (.one (.skip <| .here) <| .lastb (.lastS)) ?_
     have hlf2 := ho45.sl (fun _ => rfl) hz22 (by rw [List.length_eraseIdx_of_lt hkk]; omega)
     refine Ai fun ds => Aa rfl (Ag (A2 rfl <| A5 rfl <| Aq rfl <| Al rfl <| Aj rfl <| Aq rfl <| Al rfl <| Aj rfl <| Aq rfl <| Al rfl <| Ab)) ?_
     refine Aa rfl (Ag (A5 rfl <| Ax rfl <| Ab)) ?_
     refine Aa rfl (A8 (k := left[(turnN xs taken.length % left.length)]) Bh (Al rfl <| Ab) (Cu (Nat.le_refl _) (by omega)) (Ab) rfl hil) ?_
     refine Cf (D4 sz_3 (Ab) row_addr Ad (i := 0) rfl (by rw [iL_len1]; omega) rfl (.here) ?_)
     refine Ah <| Ac <| Af <| Af ?_
     rw [iL_set hil]
     by_cases ht0 : taken.length = 0
     ·
      refine Ai fun ds => Aa rfl (Ag (A2 rfl <| A5 rfl <| Ax rfl <| Aq rfl <| At rfl ht7)) ?_
      refine Aa rfl (Bm Bh (Ab) (ho.plain (by omega))) ?_
      refine Aa rfl (C8 (Ab) Ad) ?_
      refine Ah <| Ac <| Ao (Ab) (decide_eq_false (by omega)) ?_
      refine Aw <| Ac <| Ai fun ds => Aa rfl (Ag (Bc rfl <| Al rfl <| At rfl ht7)) ?_
      refine Aa rfl (Ag (A2 rfl <| Aq rfl <| Ab)) ?_
      refine Bj rfl (B4 Bh Df rfl (.cons (Ab) .nil) rfl rfl (by decide) (by simp [Value.oneCell']) fun b23 hb23 nb23 => ?_)
      refine Bj rfl (Co Bh el_3 (Aq rfl <| Ab) ho (Ab) (Dl (s := 1) 0 rfl rfl (by simp [Value.oneCell'])) (by omega) (by omega) (.s <| .s <| .z) .last fun v24 R25 ho26 => ?_)
      have ho9 := ho26.snoc (x := left[(turnN xs taken.length % left.length)]) rfl rfl
      refine Ew (.one (.next <| .here) <| .lastb (.next <| .last)) ?_
      refine Aa rfl (Ae (Ab)) ?_
      refine Ah <| Bd ?_
      refine Ac ⟨_, (left.eraseIdx (turnN xs taken.length % left.length)).length, Off.eq (Ex rfl <| Ee rfl <| ou2 rfl <| Bg), (by rw [List.length_eraseIdx_of_lt hkk]; omega), ?_⟩
      refine ⟨_, hFG, updI g left[(turnN xs taken.length % left.length)] (-1), _, _, _, _, _, rfl, (A5 rfl <| Aq rfl <| Al rfl <| Ab), (Ab), hlf2, ho9, hI.step hkk updI_ne (fun h => updI_eq) (fun h => absurd h (by omega)), rfl⟩
     ·
      have hqq : (turnN xs (many + taken.length) / 2 % taken.length) < taken.length := Nat.mod_lt _ (by omega)
      refine Ai fun ds => Aa rfl (Ag (A2 rfl <| A5 rfl <| Ax rfl <| Aq rfl <| At rfl ht7)) ?_
      refine Aa rfl (Bm Bh (Ab) (ho.plain (by omega))) ?_
      refine Aa rfl (C8 (Ab) Ad) ?_
      refine Ah <| Ac <| Ar (Ab) (decide_eq_true (by omega)) ?_
      refine Ai fun ds => Aa rfl (Ag (Bc rfl <| Al rfl <| Aj rfl <| Aq rfl <| Al rfl <| Aj rfl <| Aq rfl <| Al rfl <| Ab)) ?_
      refine Aa rfl (Ag (A2 rfl <| Aq rfl <| Ab)) ?_
      refine Aa rfl (Ag (Bc rfl <| Aq rfl <| Al rfl <| At rfl ht7)) ?_
      refine Aa rfl (Ag (Bc rfl <| Ax rfl <| Aj rfl <| Aq rfl <| Al rfl <| Aj rfl <| Ax rfl <| Aq rfl <| Al rfl <| Ak rfl)) ?_
      refine Aa rfl (Ag (Bc rfl <| Ax rfl <| Al rfl <| Aj rfl <| Aq rfl <| Al rfl <| Aj rfl <| Ax rfl <| Aq rfl <| Al rfl <| Ak rfl)) ?_
      refine Aa rfl (Ag (Bc rfl <| Ax rfl <| Aq rfl <| At rfl ht7)) ?_
      refine Aa rfl (Bm Bh (Ab) (ho.plain (by omega))) ?_
      refine Aa rfl (Bq (Aq rfl <| Ab) (Ab) rfl (by omega) (by omega)) ?_
      refine Bx rfl (Be bd_96 A1 (.cons (Ax rfl <| Ab) (.cons (Ab) .nil)) (Ej hxs hxb (n := many + taken.length) (by push_cast; rfl)) (fun _ _ h => h)) ?_
      refine Aa rfl (q_quo (Ab) Ad (Int.natCast_nonneg _) (by omega) (by decide)) ?_
      refine Aa rfl (Ag (Bc rfl <| A5 rfl <| Aq rfl <| Al rfl <| At rfl ht7)) ?_
      refine Aa rfl (Bm Bh (Ab) (ho.plain (by omega))) ?_
      refine Aa rfl (q_rem (Aq rfl <| Ab) (Ab) (by omega) (by omega)) ?_
      refine Aa rfl (A8 (k := (turnN xs (many + taken.length) / 2 % taken.length)) Bh (A5 rfl <| Aq rfl <| Ab) (ho.plain (by omega)) (Ab) (by push_cast; rfl) hqq) ?_
      refine Aa rfl (Ap Bk (Ab) (own_cell ho (fun p hp => .tail _ (hp)) (nat_get hqq))) ?_
      refine Aa rfl (A8 (k := left[(turnN xs taken.length % left.length)]) Bh (A5 rfl <| Ax rfl <| Aq rfl <| Ab) (Cu (Nat.le_refl _) (by omega)) (A5 rfl <| Ax rfl <| Al rfl <| Ab) rfl hil) ?_
      refine Cf (D4 sz_3 (Ab) row_addr (Al rfl <| Ab) (i := 0) rfl (by rw [iL_len1]; omega) rfl (.here) ?_)
      refine Ah <| Ac ?_
      rw [iL_set hil, set_one]
      refine Ai fun ds => Aa rfl (Ag (Bc rfl <| A2 rfl <| Al rfl <| At rfl ht7)) ?_
      refine Aa rfl (Ag (Bc rfl <| Aq rfl <| Ab)) ?_
      refine Bj rfl (B4 Bh Df rfl (.cons (Ab) .nil) rfl rfl (by decide) (by simp [Value.oneCell']) fun b27 hb27 nb27 => ?_)
      refine Bj rfl (Co Bh el_3 (Aq rfl <| Ab) ho (Ab) (Dl (s := 1) 0 rfl rfl (by simp [Value.oneCell'])) (by omega) (by omega) (.s <| .s <| .z) .last fun v28 R29 ho30 => ?_)
      have ho9 := ho30.snoc (x := left[(turnN xs taken.length % left.length)]) rfl rfl
      refine Ew (.one (.next <| .here) <| .lastb (.next <| .last)) ?_
      refine Aa rfl (Ae (Ab)) ?_
      refine Ah <| Bd ?_
      refine Ac ⟨_, (left.eraseIdx (turnN xs taken.length % left.length)).length, Off.eq (Ex rfl <| C6 rfl <| Ee rfl <| ou2 rfl <| Bg), (by rw [List.length_eraseIdx_of_lt hkk]; omega), ?_⟩
      refine ⟨_, hFG, updI g left[(turnN xs taken.length % left.length)] (taken[(turnN xs (many + taken.length) / 2 % taken.length)] : Int), _, _, _, _, _, rfl, (A2 rfl <| A5 rfl <| Aq rfl <| Al rfl <| Ab), (Ab), hlf2, ho9, hI.step hkk updI_ne (fun h => absurd h ht0) (fun h => ⟨_, hqq, updI_eq⟩), rfl⟩
end Go.Proofs.Ytccogmkhijgelaa
namespace Go.Proofs.Ytccogmkhijgelaa
theorem tree_err0 {s : Stm} {l : List Int} (h0 : (checkT s).2.2 = 0) (hl : l.length = s.editions.length) (ht : IsTree l) : treeErr s l = 0 := by
 have h1 : trTo s l l.length = 0 := by
   unfold trTo
   rw [gTo_ok (treeZ_ok h0 hl), List.take_length, if_neg]
   intro h
   rw [List.any_eq_true] at h
   obtain ⟨x, hx, hb⟩ := h
   obtain ⟨i, hi, rfl⟩ := List.getElem_of_mem hx
   have := ht.in_ i hi
   rw [C1 hi] at hb
   simp [inT, inB] at hb
   omega
 rw [treeErr_in h1, ht.isT]; rfl
theorem cost_nofit {s : Stm} {l : List Int} (h : fitsT s l = false) : costL s l = 1000 := by unfold costL; unfold fitsT at h; rw [h]; rfl
theorem fit_of_cost {s : Stm} {l : List Int} (h : costL s l < 1000) : fitsT s l = true := by
 cases hf : fitsT s l with
 | true => rfl
 | false => rw [cost_nofit hf] at h; omega
section
variable {s : Stm} {l : List Int}
theorem years_edge (ht : IsTree l) (hl : l.length = s.editions.length) {i k : Nat} (hi : i < l.length) (h : upN l i = (k : Int)) : firstY s (treeE l) k + 1 ≤ firstY s (treeE l) i ∧ lastY s (treeE l) k + 1 ≤ lastY s (treeE l) i := by
 have he := treeE_at hi h
 have hd : Dag s.editions.length (treeE l) := by rw [← hl]; exact ht.dag
 refine ⟨hd.fits (base := fun i => (s.ed i).lo) he, ?_⟩
 have h1 := hd.swap.fits (base := fun i => -(s.ed i).hi) (e := (i, k)) (D1.2 he)
 simp only at h1
 unfold lastY
 omega
end
theorem cost_sum {s : Stm} {l : List Int} (h : costL s l < 1000) : costL s l = sumN s.places.length (leastL s l) ∧ ∀ p, p < s.places.length → leastL s l p < 1000 := by
 have hf := fit_of_cost h
 unfold fitsT at hf
 unfold costL at h ⊢
 rw [if_pos hf] at h ⊢
 refine ⟨by omega, fun p hp => ?_⟩
 have := sumN_mem (n := s.places.length) (i := p) (f := leastL s l) (fun i _ => Dq.1) hp
 omega
theorem least_some {s : Stm} {l : List Int} {p : Nat} (hl : l.length = s.editions.length) (h : leastL s l p < 1000) : ∃ g, Filling s l p g ∧ Possible s l p g ∧ changesOf l g = leastL s l p := by
 rcases foldmin_or (f := countL s l p) (l := allFill s p) (m := 1000) with h1 | ⟨x, hx, h1⟩
 · have : leastL s l p = 1000 := h1
   omega
 · have h2 : leastL s l p = countL s l p x := h1
   have h3 := ((allFill_mem hl).1 hx).2
   rw [h2] at h
   unfold countL at h h2
   split at h
   · rename_i h4
     rw [if_pos h4] at h2
     exact ⟨_, h3, possB_iff.1 h4, h2.symm⟩
   · omega
end Go.Proofs.Ytccogmkhijgelaa
namespace Go.Proofs.Ytccogmkhijgelaa
open Go.RowKit
theorem bd_40 : Body Try.prog 40 := Bo (by kernel_rfl)
theorem bd_41 : Body Try.prog 41 := Bo (by kernel_rfl)
theorem sz_60 : SizeT Try.prog 60 2 := Cz (by kernel_rfl)
end Go.Proofs.Ytccogmkhijgelaa
namespace Go.Proofs.Ytccogmkhijgelaa
def EarR (F : Heap) (u : Go.Value) (s : Stm) (E : Edges) : Prop := fitsE s E = true ∧ Ints F u (iL (firstY s E) s.editions.length) ∨ fitsE s E = false ∧ u = .slice none 0 0
theorem EarR.mono {F F' : Heap} {u : Go.Value} {s : Stm} {E : Edges} (h : EarR F u s E) (hF : F.le F') : EarR F' u s E := h.elim (fun h => .inl ⟨h.1, h.2.mono hF⟩) .inr
theorem EarR.nil {F : Heap} {u : Go.Value} {s : Stm} {E : Edges} (h : EarR F u s E) (hn : 0 < s.editions.length) : ∃ a k c, u = .slice a k c ∧ (decide (a = none)) = !(fitsE s E) := by
 rcases h with ⟨h1, h2⟩ | ⟨h1, rfl⟩
 · obtain ⟨a, c, rfl, -, g2, -, -⟩ := h2.plain
   refine ⟨a, _, c, rfl, ?_⟩
   rw [h1]
   refine decide_eq_false fun h => ?_
   have := (g2 h).1
   rw [Ch] at this
   omega
 · exact ⟨none, 0, 0, rfl, by rw [h1]; rfl⟩
section
variable {s : Stm} {l : List Int} {M : Edges} {r i q : Nat} {cur : Nat → Int}
end
end Go.Proofs.Ytccogmkhijgelaa
namespace Go.Proofs.Ytccogmkhijgelaa
def diffN (l : List ByteArray) : Prop := l.Pairwise fun a b => sameS a b = false
theorem diffN_iff {α : Type} {f : α → ByteArray} {l : List α} : diffN (l.map f) ↔ ∀ j (hj : j < l.length), (l.take j).any (fun y => sameS (f y) (f l[j])) = false := by
 unfold diffN
 rw [List.pairwise_map, List.pairwise_iff_getElem]
 constructor
 · intro h j hj
   rw [List.any_eq_false]
   intro y hy
   obtain ⟨i, hi, rfl⟩ := List.getElem_of_mem hy
   rw [List.length_take] at hi
   rw [List.getElem_take]
   rw [h i j (by omega) hj (by omega)]; simp
 · intro h i j hi hj hij
   have := List.any_eq_false.1 (h j hj) l[i] (by rw [List.mem_iff_getElem]; exact ⟨i, by rw [List.length_take]; omega, by rw [List.getElem_take]⟩)
   simpa using this
structure CheckOk (s : Stm) : Prop where
 np : inB 1 6 s.places.length = true
 pl : ∀ x ∈ s.places, nameOk x.name = true ∧ inB 0 1 x.kind = true
 pn : diffN (s.places.map (·.name))
 ne : inB 1 5 s.editions.length = true
 ed : ∀ x ∈ s.editions, nameOk x.name = true ∧ ednErr s x = 0
 en : diffN (s.editions.map (·.name))
theorem check_ok {s : Stm} : (checkT s).2.2 = 0 ↔ CheckOk s := by
 constructor
 · intro h
   obtain ⟨h1, h2, h3, h4⟩ := checkT_none h
   have hp : ∀ k (hk : k < s.places.length), nameOk s.places[k].name = true ∧ (s.places.take k).any (fun y => sameS y.name s.places[k].name) = false ∧ inB 0 1 s.places[k].kind = true := fun k hk => by
     have := h2 k hk
     rw [Et hk] at this
     split at this
     · cases this
     · split at this
       · cases this
       · split at this
         · cases this
         · rename_i a b c; exact ⟨by simpa using a, by simpa using b, by simpa using c⟩
   have he : ∀ k (hk : k < s.editions.length), nameOk s.editions[k].name = true ∧ (s.editions.take k).any (fun y => sameS y.name s.editions[k].name) = false ∧ ednErr s s.editions[k] = 0 := fun k hk => by
     have := h4 k hk
     rw [D7 hk] at this
     rw [ed_at hk]
     split at this
     · cases this
     · split at this
       · cases this
       · rename_i a b; exact ⟨by simpa using a, by simpa using b, this⟩
   refine ⟨h1, fun x hx => ?_, diffN_iff.2 fun j hj => (hp j hj).2.1, h3, fun x hx => ?_, diffN_iff.2 fun j hj => (he j hj).2.1⟩
   · obtain ⟨k, hk, rfl⟩ := List.getElem_of_mem hx
     exact ⟨(hp k hk).1, (hp k hk).2.2⟩
   · obtain ⟨k, hk, rfl⟩ := List.getElem_of_mem hx
     exact ⟨(he k hk).1, (he k hk).2.2⟩
 · intro h
   have hp : firstQ s.places.length (plcErr s) = (0, 0) := firstQ_ok fun k hk => by
     have h1 := h.pl _ (List.getElem_mem hk)
     have h2 := diffN_iff.1 h.pn k hk
     rw [Et hk, h1.1, h2, h1.2]; rfl
   have he : firstQ s.editions.length (edErr s) = (0, 0) := firstQ_ok fun k hk => by
     have h1 := h.ed _ (List.getElem_mem hk)
     have h2 := diffN_iff.1 h.en k hk
     rw [D7 hk, ← ed_at hk, h1.1, h2, h1.2]; rfl
   unfold checkT
   rw [if_neg (by rw [h.np]; simp), hp, if_neg (by simp), if_neg (by rw [h.ne]; simp), he, if_neg (by simp)]
section
variable {s s' : Stm} {l : List Int}
theorem least_len (hl : l.length = s.editions.length) {p : Nat} (h : leastL s l p < 1000) : leastL s l p ≤ l.length := by
 obtain ⟨g, -, -, h1⟩ := least_some hl h
 rw [← h1]; exact D0.2
theorem sum_le_mul {n : Nat} {f : Nat → Int} {c : Int} (h : ∀ i, i < n → f i ≤ c) : sumN n f ≤ n * c := by
 induction n with
 | zero => simp [sumN]
 | succ n ih =>
   have h1 := ih fun i hi => h i (by omega)
   have h2 := h n (by omega)
   simp only [sumN]
   have h3 : ((n + 1 : Nat) : Int) * c = (n : Int) * c + c := by push_cast; rw [Int.add_mul, Int.one_mul]
   rw [h3]; omega
theorem cost_iff (hv : ValidT s) (hl : l.length = s.editions.length) : costL s l < 1000 ↔ fitsT s l = true ∧ ∀ p, p < s.places.length → leastL s l p < 1000 := by
 constructor
 · exact fun h => ⟨fit_of_cost h, (cost_sum h).2⟩
 · rintro ⟨h1, h2⟩
   unfold fitsT at h1
   unfold costL
   rw [if_pos h1]
   have h3 := sum_le_mul (n := s.places.length) (f := leastL s l) (c := 5) fun p hp => by
     have := least_len hl (h2 p hp)
     have := hv.ne
     omega
   have h4 := hv.np
   have h5 : (s.places.length : Int) * 5 ≤ 6 * 5 := Int.mul_le_mul_of_nonneg_right (by omega) (by omega)
   omega
theorem least_mono {p p' : Nat} (hl : l.length = s.editions.length) (hl' : l.length = s'.editions.length) (hin : TreeIn l) (h : ∀ g, Filling s' l p' g → Possible s' l p' g → Filling s l p g ∧ Possible s l p g) : leastL s l p ≤ leastL s' l p' :=
 le_least Dq.2 hl' fun g h1 h2 => leastL_le hin hl (h g h1 h2).1 (h g h1 h2).2
theorem least_same {p p' : Nat} (hl : l.length = s.editions.length) (hl' : l.length = s'.editions.length) (hin : TreeIn l) (h : ∀ g, (Filling s' l p' g ∧ Possible s' l p' g) ↔ (Filling s l p g ∧ Possible s l p g)) : leastL s l p = leastL s' l p' :=
 Int.le_antisymm (least_mono hl hl' hin fun g h1 h2 => (h g).1 ⟨h1, h2⟩) (least_mono hl' hl hin fun g h1 h2 => (h g).2 ⟨h1, h2⟩)
theorem climb_base_congr {E : Edges} {b b' : Nat → Int} {n : Nat} (hE : ∀ e ∈ E, e.1 < n ∧ e.2 < n) (h : ∀ i, i < n → b i = b' i) : ∀ f i, i < n → climb E b f i = climb E b' f i := by
 intro f
 induction f with
 | zero => exact h
 | succ f ih =>
   intro i hi
   have one : ∀ c c' : Nat → Int, (∀ i, i < n → c i = c' i) → (∀ i, i < n → climb E c f i = climb E c' f i) → climb E c (f + 1) i ≤ climb E c' (f + 1) i := fun c c' h ih => by
     refine Eg.2 ⟨by rw [h i hi]; exact Db, fun e he hei => ?_⟩
     rw [ih _ (hE e he).1]
     have := climb_edge (f := f) (base := c') he
     rw [hei] at this
     exact this
   exact Int.le_antisymm (one _ _ h ih) (one _ _ (fun i hi => (h i hi).symm) fun i hi => (ih i hi).symm)
theorem fits_years (ht : IsTree l) (hl : l.length = s.editions.length) (hl' : l.length = s'.editions.length) (h : ∀ i, i < l.length → (s'.ed i).lo = (s.ed i).lo ∧ (s'.ed i).hi = (s.ed i).hi) : fitsT s' l = fitsT s l := by
 unfold fitsT
 rw [Bool.eq_iff_iff, fitsE_iff, fitsE_iff]
 have hd := ht.dag
 have e : ∀ i, i < l.length → firstY s' (treeE l) i = firstY s (treeE l) i := fun i hi => by
   unfold firstY
   rw [← hl, ← hl']
   exact climb_base_congr hd.1 (fun i hi => (h i hi).1) _ i hi
 rw [← hl, ← hl']
 constructor
 · intro h1 i hi; rw [← e i hi, ← (h i hi).2]; exact h1 i hi
 · intro h1 i hi; rw [e i hi, (h i hi).2]; exact h1 i hi
end
section
variable {s : Stm} {l : List Int} {x p : Nat} {v : Int}
end
end Go.Proofs.Ytccogmkhijgelaa
namespace Go.Proofs.Ytccogmkhijgelaa
section
variable {s : Stm} {l : List Int} {x p : Nat}
end
theorem best_least {s : Stm} {l : List Int} (hl : l.length = s.editions.length) (ht : IsTree l) (hc : costL s l < 1000) : bestsM s ≤ costL s l ∧ bestsL s ≠ [] ∧ (costL s l = bestsM s → l ∈ bestsL s) := by
 have h1 : l ∈ allTrees s := Dy.2 ⟨hl, ht, fit_of_cost hc⟩
 have h2 := bestsM_le h1
 refine ⟨h2, fun h => ?_, fun h => bestsL_mem.2 ⟨h1, h, hc⟩⟩
 have := bestsL_nil.1 h
 omega
end Go.Proofs.Ytccogmkhijgelaa
namespace Go.Proofs.Ytccogmkhijgelaa
theorem sum_hit {m i : Nat} {σ : Nat → Nat} {c : Int} (hc : 0 ≤ c) (hinj : ∀ j k, j < m → k < m → σ j = σ k → j = k) : sumN m (fun k => if σ k = i then c else 0) ≤ c := by
 by_cases h : ∃ k, k < m ∧ σ k = i
 · obtain ⟨k, hk, he⟩ := h
   rw [Ca (g := fun q => if k = q then c else 0) fun q hq => ?_, sumN_one hk]
   · exact Int.le_refl _
   · by_cases h1 : k = q
     · subst h1; rw [if_pos he, if_pos rfl]
     · rw [if_neg h1, if_neg fun h2 => h1 (hinj k q hk hq (by rw [he, h2]))]
 · rw [Ca (g := fun _ => 0) fun q hq => if_neg fun h1 => h ⟨q, hq, h1⟩, sumN_zero]
   exact hc
theorem sum_emb {m n : Nat} {σ : Nat → Nat} {f : Nat → Int} (hlt : ∀ k, k < m → σ k < n) (hinj : ∀ j k, j < m → k < m → σ j = σ k → j = k) (hf : ∀ i, i < n → 0 ≤ f i) : sumN m (fun k => f (σ k)) ≤ sumN n f := by
 have e1 : ∀ k, k < m → sumN n (fun i => if σ k = i then f i else 0) = f (σ k) := fun k hk => by
   rw [Ca (f := fun i => if σ k = i then f i else 0) (g := fun i => if σ k = i then f (σ k) else 0) (fun i _ => by by_cases h : σ k = i <;> simp [h])]
   exact sumN_one (hlt k hk)
 have e : sumN m (fun k => f (σ k)) = sumN m fun k => sumN n fun i => if σ k = i then f i else 0 := Ca fun k hk => (e1 k hk).symm
 rw [e, sumN_swap]
 exact sumN_le fun i hi => sum_hit (hf i hi) hinj
structure Emb (l l' : List Int) (σ : Nat → Nat) : Prop where
 lt : ∀ k, k < l'.length → σ k < l.length
 inj : ∀ j k, j < l'.length → k < l'.length → σ j = σ k → j = k
 up : ∀ k, k < l'.length → (upN l' k = -1 ∧ upN l (σ k) = -1) ∨ ∃ q : Nat, q < l'.length ∧ upN l' k = (q : Int) ∧ upN l (σ k) = (σ q : Int)
theorem tree_rank {l : List Int} (hin : TreeIn l) (hr : ∃ ρ : Nat → Nat, ∀ (i k : Nat), i < l.length → upN l i = (k : Int) → ρ k < ρ i) (h1 : firstsN l l.length = 1) : IsTree l := by
 obtain ⟨ρ, hρ⟩ := hr
 refine ⟨hin, fun i hi => ?_, h1⟩
 have key : ∀ d i, i < l.length → rankC ρ l.length i ≤ d → reach l d i = true := by
   intro d
   induction d with
   | zero =>
     intro i hi hd
     by_cases hu : upN l i = -1
     · exact reach_end hu
     · obtain ⟨j, hj, hjl⟩ := hin.nat hi hu
       have := rankC_lt (n := l.length) hjl (hρ i j hi hj)
       omega
   | succ d ih =>
     intro i hi hd
     by_cases hu : upN l i = -1
     · exact reach_end hu
     · obtain ⟨j, hj, hjl⟩ := hin.nat hi hu
       have := rankC_lt (n := l.length) hjl (hρ i j hi hj)
       rw [reach_step hj]
       exact ih j hjl (by omega)
 exact key _ i hi rankC_le
section
variable {l l' : List Int} {σ : Nat → Nat} {s s' : Stm}
theorem Emb.root (h : Emb l l' σ) {k : Nat} (hk : k < l'.length) (hu : upN l' k = -1) : upN l (σ k) = -1 := by
 rcases h.up k hk with ⟨-, h1⟩ | ⟨q, -, h2, -⟩
 · exact h1
 · omega
theorem Emb.edge (h : Emb l l' σ) {k q : Nat} (hk : k < l'.length) (hu : upN l' k = (q : Int)) : q < l'.length ∧ upN l (σ k) = (σ q : Int) := by
 rcases h.up k hk with ⟨h1, -⟩ | ⟨q', h1, h2, h3⟩
 · omega
 · obtain rfl : q' = q := by omega
   exact ⟨h1, h3⟩
theorem Emb.in_ (h : Emb l l' σ) : TreeIn l' := fun i hi => by
 rcases h.up i hi with ⟨h1, -⟩ | ⟨q, h1, h2, -⟩ <;> omega
theorem Emb.tree (h : Emb l l' σ) (ht : IsTree l) (hr : ∃ r, r < l'.length ∧ upN l' r = -1) : IsTree l' := by
 obtain ⟨r, hr, hru⟩ := hr
 refine tree_rank h.in_ ⟨fun k => dep l l.length (σ k), fun i k hi hk => ?_⟩ ?_
 · have h3 := (h.edge hi hk).2
   show dep l l.length (σ k) < dep l l.length (σ i)
   rw [dep_edge h3 (ht.reach _ (h.lt i hi))]; omega
 · rw [firsts_uniq (r := r) hru fun i hi hu => ?_, if_pos hr]
   exact h.inj i r hi hr (first_le_one (l := l) (σ i) (σ r) (h.lt i hi) (h.lt r hr) (h.root hi hu) (h.root hr hru) (by rw [ht.one]; exact Int.le_refl _))
theorem Emb.same (h : Emb l l' σ) {g : Nat → Int} {k : Nat} (hk : k < l'.length) : chg l' (fun k => g (σ k)) k = chg l g (σ k) := by
 unfold chg
 rcases h.up k hk with ⟨h1, h2⟩ | ⟨q, h1, h2, h3⟩
 · rw [if_pos h1, if_pos h2]
 · rw [if_neg (show ¬ upN l' k = -1 by omega), if_neg (show ¬ upN l (σ k) = -1 by omega), h2, h3, Int.toNat_natCast, Int.toNat_natCast]
theorem Emb.changes (h : Emb l l' σ) {g : Nat → Int} : changesOf l' (fun k => g (σ k)) ≤ changesOf l g := by
 unfold changesOf
 rw [Ca fun k hk => h.same hk]
 exact sum_emb (f := chg l g) h.lt h.inj fun i _ => chg_bound.1
/-- The editions are the same, and the places. -/
structure EmbS (s s' : Stm) (l l' : List Int) (σ : Nat → Nat) : Prop extends Emb l l' σ where
 len : l.length = s.editions.length
 len' : l'.length = s'.editions.length
 pl : s'.places = s.places
 ed : ∀ k, k < l'.length → s'.ed k = s.ed (σ k)
theorem EmbS.least (h : EmbS s s' l l' σ) {p : Nat} : leastL s' l' p ≤ leastL s l p := by
 have hfr : freeP s' p = freeP s p := by unfold freeP Stm.pl; rw [h.pl]
 refine le_least Dq.2 h.len fun g h1 h2 => Int.le_trans (leastL_le (g := fun k => g (σ k)) h.in_ h.len' ⟨fun i hi => h1.val _ (h.lt i hi), fun i hi => ?_⟩ fun i hi hu => ?_) h.changes
 · have := h1.fit _ (h.lt i hi)
   unfold fitR Stm.r at this ⊢
   rw [h.ed i hi]; exact this
 · obtain ⟨q, hq, hql⟩ := h.in_.nat hi hu
   have h3 := (h.edge hi hq).2
   have := h2 _ (h.lt i hi) (by omega)
   rw [h3, Int.toNat_natCast] at this
   rw [hq, Int.toNat_natCast, hfr]; exact this
theorem EmbS.fits (h : EmbS s s' l l' σ) (ht : IsTree l) (ht' : IsTree l') (hf : fitsT s l = true) : fitsT s' l' = true := by
 unfold fitsT at hf ⊢
 rw [fitsE_iff] at hf ⊢
 intro i hi
 rw [← h.len'] at hi
 have hd := ht'.dag
 have := climb_least (base := fun i => (s'.ed i).lo) hd.1 (L := fun k => firstY s (treeE l) (σ k)) (fun k hk => by show (s'.ed k).lo ≤ _; rw [h.ed k hk]; exact firstY_lo) (fun e he => by
   obtain ⟨h1, h2, h3⟩ := ht'.edge he
   exact (years_edge ht h.len (h.lt _ h2) (h.edge h2 h3).2).1) s'.editions.length i hi
 have h4 := hf (σ i) (by rw [← h.len]; exact h.lt i hi)
 unfold firstY
 rw [h.ed i hi]
 exact Int.le_trans this h4
/-- No fewer at each place: no fewer in all. -/
theorem cost_le2 (hv : ValidT s) (hl : l.length = s.editions.length) (hp : s'.places.length = s.places.length) (hf : fitsT s' l' = true → fitsT s l = true) (h : ∀ p, p < s.places.length → leastL s l p ≤ leastL s' l' p) (hc : costL s' l' < 1000) : costL s l < 1000 ∧ costL s l ≤ costL s' l' := by
 obtain ⟨h1, h2⟩ := cost_sum hc
 have h3 : costL s l < 1000 := (cost_iff hv hl).2 ⟨hf (fit_of_cost hc), fun p hp' => by have := h p hp'; have := h2 p (by omega); omega⟩
 refine ⟨h3, ?_⟩
 rw [h1, (cost_sum h3).1, hp]
 exact sumN_le h
theorem EmbS.cost (h : EmbS s s' l l' σ) (hv' : ValidT s') (ht : IsTree l) (ht' : IsTree l') (hc : costL s l < 1000) : costL s' l' < 1000 ∧ costL s' l' ≤ costL s l :=
 cost_le2 hv' h.len' (by rw [h.pl]) (h.fits ht ht') (fun _ _ => h.least) hc
end
section
variable {s : Stm} {l : List Int} {i : Nat}
end
def backS (s : Stm) : Stm := ⟨s.places, s.editions.reverse⟩
section
variable {s : Stm} {l : List Int}
end
end Go.Proofs.Ytccogmkhijgelaa
namespace Go.Proofs.Ytccogmkhijgelaa
def Edn.sub (x : Edn) (P : List Nat) : Edn := ⟨x.name, x.lo, x.hi, P.map fun p => x.rd[p]?.getD 0⟩
section
variable {s : Stm} {b : Nat → Bool} {l : List Int}
end
def oneS (s : Stm) (p : Nat) : Stm := ⟨s.places.set p ⟨(s.pl p).name, 1⟩, s.editions⟩
section
variable {s : Stm} {l : List Int} {p : Nat}
end
section
variable {s : Stm} {l : List Int} {p : Nat}
theorem metB_iff {v : Nat} : metB s p v = true ↔ ∃ i, i < s.editions.length ∧ s.r i p = (v : Int) := by
 unfold metB
 rw [List.any_eq_true]
 exact ⟨fun ⟨i, hi, h⟩ => ⟨i, List.mem_range.1 hi, of_decide_eq_true h⟩, fun ⟨i, hi, h⟩ => ⟨i, List.mem_range.2 hi, decide_eq_true h⟩⟩
end
end Go.Proofs.Ytccogmkhijgelaa
namespace Go.Proofs.Ytccogmkhijgelaa
section
variable {s : Stm} {p : Nat} {l : List Int}
end
theorem StmR.kind {F : Heap} {vp ve w : Go.Value} {ps : List (Go.Value × Edn)} {s : Stm} {p : Nat} (h : StmR F vp ve ps s) (hw : Sl F w 2 Plc.enc (oneS s p).places) : StmR F w ve ps (oneS s p) := ⟨hw, h.eds, h.rds, h.eqs⟩
/-- Editions that are laid one after another. -/
structure EdsR (F : Heap) (qs : List (Go.Value × Edn)) (es : List Edn) : Prop where
 rds : ∀ q ∈ qs, Ints F q.1 q.2.rd
 eqs : qs.map (·.2) = es
theorem EdsR.nil {F : Heap} : EdsR F [] [] := ⟨fun _ h => (by cases h), rfl⟩
theorem EdsR.mono {F F' : Heap} {qs : List (Go.Value × Edn)} {es : List Edn} (h : EdsR F qs es) (hF : F.le F') : EdsR F' qs es := ⟨fun q hq => (h.rds q hq).mono hF, h.eqs⟩
theorem EdsR.snoc {F : Heap} {qs : List (Go.Value × Edn)} {es : List Edn} (h : EdsR F qs es) {v : Go.Value} {x : Edn} (hv : Ints F v x.rd) : EdsR F (qs ++ [(v, x)]) (es ++ [x]) :=
 ⟨fun q hq => (by rcases List.mem_append.1 hq with hq | hq; exact h.rds q hq; simp at hq; subst hq; exact hv), by rw [List.map_append, h.eqs]; rfl⟩
theorem EdsR.len {F : Heap} {qs : List (Go.Value × Edn)} {es : List Edn} (h : EdsR F qs es) : qs.length = es.length := by rw [← h.eqs, List.length_map]
theorem EdsR.stm {F : Heap} {vp ve : Go.Value} {qs : List (Go.Value × Edn)} {s : Stm} (h : EdsR F qs s.editions) (hp : Sl F vp 2 Plc.enc s.places) (he : Sl F ve 4 edE qs) : StmR F vp ve qs s := ⟨hp, he, h.rds, h.eqs⟩
end Go.Proofs.Ytccogmkhijgelaa
namespace Go.Proofs.Ytccogmkhijgelaa
/-- A reading's other number. -/
def renV (w : Nat) (r : Int) : Int := 1 + (r + w) % 3
theorem renV_in {w : Nat} {r : Int} : 1 ≤ renV w r ∧ renV w r ≤ 3 := by unfold renV; omega
theorem renV_eq {w : Nat} {a b : Int} (ha : 1 ≤ a ∧ a ≤ 3) (hb : 1 ≤ b ∧ b ≤ 3) : renV w a = renV w b ↔ a = b := by unfold renV; omega
theorem renV_back {w : Nat} {a : Int} (ha : 1 ≤ a ∧ a ≤ 3) : renV (2 * w + 1) (renV w a) = a := by unfold renV; push_cast; omega
/-- The one stem is the other one, with a place numbered otherwise. -/
structure Ren (s s' : Stm) (p w : Nat) : Prop where
 pl : s'.places = s.places
 len : s'.editions.length = s.editions.length
 year : ∀ i, i < s.editions.length → (s'.ed i).lo = (s.ed i).lo ∧ (s'.ed i).hi = (s.ed i).hi
 same : ∀ i, i < s.editions.length → ∀ q, q ≠ p → s'.r i q = s.r i q
 zero : ∀ i, i < s.editions.length → s.r i p = 0 → s'.r i p = 0
 other : ∀ i, i < s.editions.length → s.r i p ≠ 0 → s'.r i p = renV w (s.r i p)
section
variable {s s' : Stm} {p w : Nat} {l : List Int}
theorem Ren.back (h : Ren s s' p w) (hv : ValidT s) (hp : p < s.places.length) : Ren s' s p (2 * w + 1) :=
 ⟨h.pl.symm, h.len.symm, fun i hi => by rw [h.len] at hi; exact ⟨(h.year i hi).1.symm, (h.year i hi).2.symm⟩, fun i hi q hq => by rw [h.len] at hi; exact (h.same i hi q hq).symm,
  fun i hi h0 => by
    rw [h.len] at hi
    by_cases hz : s.r i p = 0
    · exact hz
    · have := h.other i hi hz
      have := renV_in (w := w) (r := s.r i p)
      omega,
  fun i hi h0 => by
    rw [h.len] at hi
    by_cases hz : s.r i p = 0
    · exact absurd (h.zero i hi hz) h0
    · rw [h.other i hi hz, renV_back]
      have := hv.rd i p hi hp
      omega⟩
theorem Ren.free (h : Ren s s' p w) {q : Nat} : freeP s' q = freeP s q := by unfold freeP Stm.pl; rw [h.pl]
theorem changes_ren (hin : TreeIn l) {g : Nat → Int} (hg : ∀ i, i < l.length → 1 ≤ g i ∧ g i ≤ 3) : changesOf l (fun i => renV w (g i)) = changesOf l g := by
 unfold changesOf
 refine Ca fun i hi => ?_
 unfold chg
 by_cases hu : upN l i = -1
 · rw [if_pos hu, if_pos hu]
 · obtain ⟨q, hq, hql⟩ := hin.nat hi hu
   have e : (renV w (g (upN l i).toNat) = renV w (g i)) ↔ g (upN l i).toNat = g i := by
     rw [hq, Int.toNat_natCast]; exact renV_eq (hg q hql) (hg i hi)
   rw [if_neg hu, if_neg hu]
   by_cases h : g (upN l i).toNat = g i
   · rw [if_pos h, if_pos (e.2 h)]
   · rw [if_neg h, if_neg (fun k => h (e.1 k))]
theorem Ren.least_le (h : Ren s s' p w) (hf : freeP s p = true) (hl : l.length = s.editions.length) (hin : TreeIn l) : leastL s' l p ≤ leastL s l p := by
 refine le_least Dq.2 hl fun g h1 h2 => ?_
 rw [← changes_ren (w := w) hin h1.val]
 refine leastL_le hin (by rw [h.len]; exact hl) ⟨fun i _ => renV_in, fun i hi => ?_⟩ fun i hi hu => .inr (.inr (by rw [h.free]; exact hf))
 rcases h1.fit i hi with h3 | h3
 · exact .inl (h.zero i (by omega) h3)
 · by_cases hz : s.r i p = 0
   · exact .inl (h.zero i (by omega) hz)
   · exact .inr (by rw [h.other i (by omega) hz, h3])
theorem Ren.least (h : Ren s s' p w) (hv : ValidT s) (hp : p < s.places.length) (hf : freeP s p = true) (hl : l.length = s.editions.length) (hin : TreeIn l) (q : Nat) : leastL s' l q = leastL s l q := by
 by_cases hq : q = p
 · subst hq
   exact Int.le_antisymm (h.least_le hf hl hin) ((h.back hv hp).least_le (by rw [h.free]; exact hf) (by rw [h.len]; exact hl) hin)
 · refine (least_same hl (by rw [h.len]; exact hl) hin fun g => ?_).symm
   have hfr := h.free (q := q)
   constructor
   · rintro ⟨h1, h2⟩
     exact ⟨⟨h1.val, fun i hi => by have := h1.fit i hi; unfold fitR at this ⊢; rw [h.same i (by omega) q hq] at this; exact this⟩, fun i hi hu => by have := h2 i hi hu; rw [hfr] at this; exact this⟩
   · rintro ⟨h1, h2⟩
     exact ⟨⟨h1.val, fun i hi => by have := h1.fit i hi; unfold fitR at this ⊢; rw [h.same i (by omega) q hq]; exact this⟩, fun i hi hu => by have := h2 i hi hu; rw [hfr]; exact this⟩
theorem Ren.fits (h : Ren s s' p w) (ht : IsTree l) (hl : l.length = s.editions.length) : fitsT s' l = fitsT s l :=
 fits_years ht hl (by rw [h.len]; exact hl) fun i hi => h.year i (by omega)
theorem Ren.cost (h : Ren s s' p w) (hv : ValidT s) (hp : p < s.places.length) (hf : freeP s p = true) (hl : l.length = s.editions.length) (ht : IsTree l) : costL s' l = costL s l := by
 have h1 := h.fits ht hl
 unfold fitsT at h1
 unfold costL
 rw [h1, h.pl, show leastL s' l = leastL s l from funext fun q => h.least hv hp hf hl ht.in_ q]
theorem filter_same {α : Type} {f g : α → Bool} {l : List α} (h : ∀ x ∈ l, f x = g x) : l.filter f = l.filter g := by
 induction l with
 | nil => rfl
 | cons a l ih =>
   rw [List.filter_cons, List.filter_cons, h a List.mem_cons_self, ih fun x hx => h x (List.mem_cons_of_mem _ hx)]
theorem Ren.trees (h : Ren s s' p w) : allTrees s' = allTrees s := by
 unfold allTrees
 rw [h.len]
 refine filter_same fun x hx => ?_
 obtain ⟨t, rfl, hd, hin, hT⟩ := trees_mem.1 hx
 refine h.fits ?_ hd
 exact isTree_of (fun i hi => by have := hin i (by omega); rw [hd]; exact this) hT
theorem bestR_congr {top : Int} {c c' : List Int → Int} : ∀ {xs : List (List Int)}, (∀ x ∈ xs, c x = c' x) → bestR top c xs = bestR top c' xs := by
 intro xs
 induction xs using snoc_ind with
 | h0 => intro _; rfl
 | h1 xs t ih =>
   intro h
   rw [D9, D9, ih fun x hx => h x (by simp [hx])]
   unfold bestStep
   rw [h t (by simp)]
theorem Ren.best (h : Ren s s' p w) (hv : ValidT s) (hp : p < s.places.length) (hf : freeP s p = true) : bestR 1000 (costL s') (allTrees s') = bestR 1000 (costL s) (allTrees s) := by
 rw [h.trees]
 refine bestR_congr fun x hx => ?_
 obtain ⟨h1, h2, -⟩ := Dy.1 hx
 exact h.cost hv hp hf h1 h2
theorem Ren.met (h : Ren s s' p w) (hv : ValidT s) (hp : p < s.places.length) {v : Nat} (hv3 : 1 ≤ v ∧ v ≤ 3) : metB s' p (renV w v).toNat = metB s p v := by
 have hin := renV_in (w := w) (r := (v : Int))
 rw [Bool.eq_iff_iff, metB_iff, metB_iff, h.len]
 constructor
 · rintro ⟨i, hi, h1⟩
   by_cases hz : s.r i p = 0
   · rw [h.zero i hi hz] at h1; omega
   · rw [h.other i hi hz, Int.toNat_of_nonneg (by omega)] at h1
     have hrd := hv.rd i p hi hp
     exact ⟨i, hi, (renV_eq (by omega) (by omega)).1 h1⟩
 · rintro ⟨i, hi, h1⟩
   refine ⟨i, hi, ?_⟩
   rw [h.other i hi (by omega), h1, Int.toNat_of_nonneg (by omega)]
theorem Ren.kinds (h : Ren s s' p w) (hv : ValidT s) (hp : p < s.places.length) (q : Nat) : kindsN s' q = kindsN s q := by
 by_cases hq : q = p
 · subst hq
   have h1 := h.met hv hp (v := 1) (by omega)
   have h2 := h.met hv hp (v := 2) (by omega)
   have h3 := h.met hv hp (v := 3) (by omega)
   unfold kindsN kindTo
   simp only [sumN, Nat.zero_add, Nat.reduceAdd]
   rw [← h1, ← h2, ← h3]
   unfold renV
   rcases (show w % 3 = 0 ∨ w % 3 = 1 ∨ w % 3 = 2 by omega) with hw | hw | hw
   · rw [show (1 + (((1 : Nat) : Int) + w) % 3).toNat = 2 by omega, show (1 + (((2 : Nat) : Int) + w) % 3).toNat = 3 by omega, show (1 + (((3 : Nat) : Int) + w) % 3).toNat = 1 by omega]
     omega
   · rw [show (1 + (((1 : Nat) : Int) + w) % 3).toNat = 3 by omega, show (1 + (((2 : Nat) : Int) + w) % 3).toNat = 1 by omega, show (1 + (((3 : Nat) : Int) + w) % 3).toNat = 2 by omega]
     omega
   · rw [show (1 + (((1 : Nat) : Int) + w) % 3).toNat = 1 by omega, show (1 + (((2 : Nat) : Int) + w) % 3).toNat = 2 by omega, show (1 + (((3 : Nat) : Int) + w) % 3).toNat = 3 by omega]
 · have e : ∀ v, metB s' q v = metB s q v := fun v => by
     rw [Bool.eq_iff_iff, metB_iff, metB_iff, h.len]
     constructor
     · rintro ⟨i, hi, h1⟩; exact ⟨i, hi, by rw [← h.same i hi q hq]; exact h1⟩
     · rintro ⟨i, hi, h1⟩; exact ⟨i, hi, by rw [h.same i hi q hq]; exact h1⟩
   unfold kindsN kindTo
   exact Ca fun j _ => by rw [e]
theorem Ren.unclean (h : Ren s s' p w) (hv : ValidT s) (hp : p < s.places.length) (hf : freeP s p = true) (hl : l.length = s.editions.length) (ht : IsTree l) : uncleanL s' l = uncleanL s l := by
 unfold uncleanL
 rw [h.pl]
 refine congrArg (fun b => selN b s.places.length) (funext fun q => ?_)
 unfold uncleanB
 rw [h.least hv hp hf hl ht.in_ q]
 unfold needN
 rw [h.kinds hv hp q]
theorem Ren.clean (h : Ren s s' p w) (hv : ValidT s) (hp : p < s.places.length) (hf : freeP s p = true) : cleanR s' (allTrees s') = cleanR s (allTrees s) := by
 rw [h.trees]
 have key : ∀ (xs : List (List Int)), (∀ x ∈ xs, x ∈ allTrees s) → cleanR s' xs = cleanR s xs := fun xs => by
   induction xs using snoc_ind with
   | h0 => intro _; rfl
   | h1 xs t ih =>
     intro hx
     obtain ⟨h1, h2, -⟩ := Dy.1 (hx t (by simp))
     rw [cleanR_snoc, cleanR_snoc, ih fun x h => hx x (by simp [h])]
     unfold cleanStep
     rw [h.unclean hv hp hf h1 h2]
 exact key _ fun x hx => hx
theorem Ren.bests (h : Ren s s' p w) (hv : ValidT s) (hp : p < s.places.length) (hf : freeP s p = true) : bestsL s' = bestsL s ∧ bestsM s' = bestsM s := by
 unfold bestsL bestsM; rw [h.best hv hp hf]; exact ⟨rfl, rfl⟩
theorem Ren.bestTE (h : Ren s s' p w) (h0 : (checkT s).2.2 = 0) (h0' : (checkT s').2.2 = 0) (hp : p < s.places.length) (hf : freeP s p = true) : bestTE s' = bestTE s := by
 obtain ⟨h1, h2⟩ := h.bests (Dd h0) hp hf
 unfold Go.Proofs.Ytccogmkhijgelaa.bestTE askedT
 rw [h1, h2, h0, h0']
theorem Ren.cleanE (h : Ren s s' p w) (h0 : (checkT s).2.2 = 0) (h0' : (checkT s').2.2 = 0) (hp : p < s.places.length) (hf : freeP s p = true) : cleanE s' = cleanE s := by
 unfold Go.Proofs.Ytccogmkhijgelaa.cleanE
 rw [h.clean (Dd h0) hp hf, h0, h0']
end
theorem StmR.back {F : Heap} {vp ve w : Go.Value} {ps : List (Go.Value × Edn)} {s : Stm} (h : StmR F vp ve ps s) (hw : Sl F w 4 edE ps.reverse) : StmR F vp w ps.reverse (backS s) :=
 ⟨h.places, hw, fun p hp => h.rds p (List.mem_reverse.1 hp), by rw [List.map_reverse, h.eqs]; rfl⟩
end Go.Proofs.Ytccogmkhijgelaa
namespace Go.Proofs.Ytccogmkhijgelaa
theorem sumN_upd {n i : Nat} {f f' : Nat → Int} (hi : i < n) (h : ∀ j, j < n → j ≠ i → f' j = f j) : sumN n f' = sumN n f + (f' i - f i) := by
 induction n with
 | zero => omega
 | succ n ih =>
   by_cases hn : i = n
   · subst hn
     have := Ca (n := i) (f := f') (g := f) fun j hj => h j (by omega) (by omega)
     simp only [sumN]; omega
   · have := ih (by omega) fun j hj hne => h j (by omega) hne
     have := h n (by omega) (fun k => hn k.symm)
     simp only [sumN]; omega
def updA {α : Type} (f : Nat → α) (i : Nat) (v : α) : Nat → α := fun j => if j = i then v else f j
theorem Dk {α : Type} {f : Nat → α} {i : Nat} {v : α} : updA f i v i = v := if_pos rfl
theorem Cl {α : Type} {f : Nat → α} {i j : Nat} {v : α} (h : j ≠ i) : updA f i v j = f j := if_neg h
def rdL (R : Nat → List Int) (p j : Nat) : Int := (R j)[p]?.getD 0
/-- A reading's change. -/
def chgX (l : List Int) (R : Nat → List Int) (i p : Nat) (r : Int) : Int := if upN l i = -1 then 0 else if rdL R p (upN l i).toNat = r then 0 else 1
structure TellI (s : Stm) (l : List Int) (ρ : Nat → Nat) (D : Nat → Bool) (Y : Nat → Int) (R : Nat → List Int) (c : Int) : Prop where
 no : ∀ i, i < l.length → D i = false → Y i = 0
 len : ∀ i, i < l.length → D i = true → (R i).length = s.places.length
 val : ∀ i, i < l.length → D i = true → ∀ x ∈ R i, 1 ≤ x ∧ x ≤ 3
 lo : ∀ i, i < l.length → D i = true → 1450 ≤ Y i ∧ Y i ≤ 1499 + 50 * (ρ i : Int)
 src : ∀ i, i < l.length → D i = true → ∀ k : Nat, upN l i = (k : Int) → D k = true ∧ Y k < Y i ∧ ∀ p, p < s.places.length → stepOk (freeP s p) (rdL R p k) (rdL R p i)
 cnt : c = sumN l.length fun i => if D i = true then sumN s.places.length (fun p => chg l (rdL R p) i) else 0
section
variable {s : Stm} {l : List Int} {ρ : Nat → Nat} {D : Nat → Bool} {Y : Nat → Int} {R : Nat → List Int} {c : Int}
theorem TellI.start : TellI s l ρ (fun _ => false) (fun _ => 0) (fun _ => []) 0 :=
 ⟨fun _ _ _ => rfl, (fun _ _ h => nomatch h), (fun _ _ h => nomatch h), (fun _ _ h => nomatch h), (fun _ _ h => nomatch h), by
   have : (fun i : Nat => if (fun _ => false : Nat → Bool) i = true then sumN s.places.length (fun p => chg l (rdL (fun _ => []) p) i) else 0) = fun _ => 0 := funext fun i => if_neg (fun h => nomatch h)
   rw [this, sumN_zero]⟩
theorem TellI.bound (h : TellI s l ρ D Y R c) (hn : l.length ≤ 5) (hp : s.places.length ≤ 6) : 0 ≤ c ∧ c ≤ 30 := by
 have h1 : ∀ k, 0 ≤ sumN s.places.length (fun p => chg l (rdL R p) k) ∧ sumN s.places.length (fun p => chg l (rdL R p) k) ≤ s.places.length * 1 := fun k =>
   ⟨Dp fun _ _ => chg_bound.1, sum_le_mul fun _ _ => chg_bound.2⟩
 have h2 : c ≤ l.length * 6 := by
   rw [h.cnt]
   refine sum_le_mul fun i _ => ?_
   split
   · have := (h1 i).2; omega
   · omega
 refine ⟨?_, by omega⟩
 rw [h.cnt]
 refine Dp fun i _ => ?_
 split
 · exact (h1 i).1
 · exact Int.le_refl _
theorem TellI.step (h : TellI s l ρ D Y R c) (ht : IsTree l) {i : Nat} (hi : i < l.length) (hD : D i = false) {y : Int} {xs : List Int} (hl : xs.length = s.places.length) (hx : ∀ x ∈ xs, 1 ≤ x ∧ x ≤ 3)
   (h0 : upN l i = -1 → 1450 ≤ y ∧ y ≤ 1499) (hρ : ∀ k : Nat, upN l i = (k : Int) → ρ k < ρ i)
   (hk : ∀ k : Nat, upN l i = (k : Int) → D k = true ∧ Y k < y ∧ y ≤ Y k + 50 ∧ ∀ p, p < s.places.length → stepOk (freeP s p) (rdL R p k) (xs[p]?.getD 0)) :
   TellI s l ρ (updA D i true) (updA Y i y) (updA R i xs) (c + sumN s.places.length fun p => chgX l R i p (xs[p]?.getD 0)) := by
 have hne : ∀ j, j < l.length → D j = true → j ≠ i := fun j _ hj e => by subst e; rw [hD] at hj; cases hj
 have hup : ∀ j, j < l.length → D j = true → ∀ k : Nat, upN l j = (k : Int) → k ≠ i := fun j hj hd k hu e => by
   have := (h.src j hj hd k hu).1
   subst e; rw [hD] at this; cases this
 have hki : ∀ k : Nat, upN l i = (k : Int) → k ≠ i := fun k hu e => by
   have := (hk k hu).1
   subst e; rw [hD] at this; cases this
 refine ⟨fun j hj hd => ?_, fun j hj hd => ?_, fun j hj hd => ?_, fun j hj hd => ?_, fun j hj hd k hu => ?_, ?_⟩
 · by_cases e : j = i
   · subst e; rw [Dk] at hd; cases hd
   · rw [Cl e] at hd ⊢; exact h.no j hj hd
 · by_cases e : j = i
   · subst e; rw [Dk]; exact hl
   · rw [Cl e] at hd ⊢; exact h.len j hj hd
 · by_cases e : j = i
   · subst e; rw [Dk]; exact hx
   · rw [Cl e] at hd ⊢; exact h.val j hj hd
 · by_cases e : j = i
   · subst e
     rw [Dk]
     by_cases hu : upN l j = -1
     · have := h0 hu; omega
     · obtain ⟨k, hk1, hkl⟩ := ht.in_.nat hj hu
       obtain ⟨q1, q2, q3, -⟩ := hk k hk1
       have := h.lo k hkl q1
       have := hρ k hk1
       omega
   · rw [Cl e] at hd ⊢; exact h.lo j hj hd
 · by_cases e : j = i
   · subst e
     obtain ⟨q1, q2, q3, q4⟩ := hk k hu
     have hkj := hki k hu
     refine ⟨by rw [Cl hkj]; exact q1, by rw [Dk, Cl hkj]; exact q2, fun p hp => ?_⟩
     have := q4 p hp
     unfold rdL at this ⊢
     rw [Dk, Cl hkj]; exact this
   · rw [Cl e] at hd
     have hkj := hup j hj hd k hu
     obtain ⟨q1, q2, q3⟩ := h.src j hj hd k hu
     refine ⟨by rw [Cl hkj]; exact q1, by rw [Cl e, Cl hkj]; exact q2, fun p hp => ?_⟩
     have := q3 p hp
     unfold rdL at this ⊢
     rw [Cl e, Cl hkj]; exact this
 · rw [sumN_upd (f := fun i => if D i = true then sumN s.places.length (fun p => chg l (rdL R p) i) else 0) hi (fun j hj e => ?_), ← h.cnt]
   · rw [Dk, if_pos rfl, if_neg (by rw [hD]; simp), Int.sub_zero]
     refine congrArg (fun z => c + z) (Ca fun p _ => ?_)
     unfold chgX chg rdL
     by_cases hu : upN l i = -1
     · rw [if_pos hu, if_pos hu]
     · obtain ⟨k, hk1, hkl⟩ := ht.in_.nat hi hu
       rw [if_neg hu, if_neg hu, hk1, Int.toNat_natCast, Cl (hki k hk1), Dk]
   · by_cases hd : D j = true
     · rw [Cl e, if_pos hd, if_pos hd]
       refine Ca fun p _ => ?_
       unfold chg rdL
       by_cases hu : upN l j = -1
       · rw [if_pos hu, if_pos hu]
       · obtain ⟨k, hk1, hkl⟩ := ht.in_.nat hj hu
         rw [if_neg hu, if_neg hu, hk1, Int.toNat_natCast, Cl (hup j hj hd k hk1), Cl e]
     · rw [Cl e, if_neg hd, if_neg hd]
/-- A rank. -/
theorem tree_rank9 (ht : IsTree l) : ∃ ρ : Nat → Nat, (∀ i, i < l.length → ρ i < l.length) ∧ ∀ i, i < l.length → ∀ k : Nat, upN l i = (k : Int) → ρ k < ρ i := by
 obtain ⟨h1, ρ, h2⟩ := ht.dag
 refine ⟨rankC ρ l.length, fun i hi => ?_, fun i hi k hu => ?_⟩
 · have := countP_lt (p := fun j => decide (ρ j < ρ i)) (q := fun _ => true) (k := i) (fun _ _ => rfl) rfl (decide_eq_false (by omega)) (List.mem_range.2 hi)
   unfold rankC
   have h9 : (List.range l.length).countP (fun _ => true) ≤ (List.range l.length).length := List.countP_le_length
   rw [List.length_range] at h9
   omega
 · have he := treeE_at hi hu
   exact rankC_lt (h1 _ he).1 (h2 _ he)
def lostL (xd : List Nat) (np i : Nat) (xs : List Int) : Nat → List Int
 | 0 => xs
 | p + 1 => if turnN xd (i * np + p) % 4 = 1 then (lostL xd np i xs p).set p 0 else lostL xd np i xs p
theorem lostL_len {xd : List Nat} {np i : Nat} {xs : List Int} : ∀ p, (lostL xd np i xs p).length = xs.length
 | 0 => rfl
 | p + 1 => by unfold lostL; split; rw [List.length_set]; exact lostL_len p; exact lostL_len p
theorem lostL_at {xd : List Nat} {np i : Nat} {xs : List Int} {q : Nat} : ∀ p, (lostL xd np i xs p)[q]?.getD 0 = 0 ∨ (lostL xd np i xs p)[q]?.getD 0 = xs[q]?.getD 0
 | 0 => .inr rfl
 | p + 1 => by
   unfold lostL
   split
   · rw [List.getElem?_set]
     by_cases h : p = q
     · subst h
       rw [if_pos rfl]
       split
       · exact .inl rfl
       · exact .inl rfl
     · rw [if_neg h]; exact lostL_at p
   · exact lostL_at p
def toldE (s : Stm) (xd : List Nat) (Y : Nat → Int) (R : Nat → List Int) (i : Nat) : Edn :=
 ⟨(s.ed i).name, max 1450 (Y i - ((turnN xd i % 40 : Nat) : Int)), min 1850 (Y i + ((turnN xd (i + 1) % 40 : Nat) : Int)), lostL xd s.places.length i (R i) s.places.length⟩
def toldS (s : Stm) (xd : List Nat) (Y : Nat → Int) (R : Nat → List Int) : Stm := ⟨s.places, (List.range s.editions.length).map (toldE s xd Y R)⟩
variable {xd : List Nat}
theorem De : (toldS s xd Y R).editions.length = s.editions.length := by simp [toldS]
theorem told_ed {i : Nat} (hi : i < s.editions.length) : (toldS s xd Y R).ed i = toldE s xd Y R i := by simp [Stm.ed, toldS, hi]
theorem told_free {p : Nat} : freeP (toldS s xd Y R) p = freeP s p := rfl
/-- All are told. -/
structure ToldI (s : Stm) (l : List Int) (Y : Nat → Int) (R : Nat → List Int) (c : Int) : Prop where
 len : ∀ i, i < l.length → (R i).length = s.places.length
 val : ∀ i, i < l.length → ∀ x ∈ R i, 1 ≤ x ∧ x ≤ 3
 lo : ∀ i, i < l.length → 1450 ≤ Y i ∧ Y i ≤ 1850
 src : ∀ i, i < l.length → ∀ k : Nat, upN l i = (k : Int) → Y k < Y i ∧ ∀ p, p < s.places.length → stepOk (freeP s p) (rdL R p k) (rdL R p i)
 cnt : c = sumN l.length fun i => sumN s.places.length (fun p => chg l (rdL R p) i)
theorem TellI.all (h : TellI s l ρ D Y R c) (hd : ∀ i, i < l.length → D i = true) (hn : l.length ≤ 5) (hρ : ∀ i, i < l.length → ρ i < l.length) : ToldI s l Y R c :=
 ⟨fun i hi => h.len i hi (hd i hi), fun i hi => h.val i hi (hd i hi), fun i hi => by have := h.lo i hi (hd i hi); have := hρ i hi; omega,
  fun i hi k hu => (h.src i hi (hd i hi) k hu).2, by rw [h.cnt]; exact Ca fun i hi => if_pos (hd i hi)⟩
theorem ToldI.at (h : ToldI s l Y R c) {i : Nat} (hi : i < l.length) {p : Nat} (hp : p < s.places.length) : 1 ≤ rdL R p i ∧ rdL R p i ≤ 3 := by
 have hl := h.len i hi
 unfold rdL
 rw [List.getElem?_eq_getElem (by omega)]
 exact h.val i hi _ (List.getElem_mem _)
theorem ToldI.check (h : ToldI s l Y R c) (h0 : (checkT s).2.2 = 0) (hll : l.length = s.editions.length) : (checkT (toldS s xd Y R)).2.2 = 0 := by
 have hc := check_ok.1 h0
 have hn : (toldS s xd Y R).editions.map (·.name) = s.editions.map (·.name) := by
   refine List.ext_getElem (by simp [toldS]) fun i h1 h2 => ?_
   have hi : i < s.editions.length := by simpa using h2
   simp [toldS, toldE, Stm.ed, hi]
 refine check_ok.2 ⟨hc.np, hc.pl, hc.pn, by rw [De]; exact hc.ne, fun x hx => ?_, by rw [hn]; exact hc.en⟩
 obtain ⟨i, hi, rfl⟩ := List.mem_map.1 hx
 have hi' : i < s.editions.length := List.mem_range.1 hi
 refine ⟨(hc.ed (s.ed i) (by rw [← ed_at hi']; exact List.getElem_mem hi')).1, ?_⟩
 have hy := h.lo i (by omega)
 have hl := h.len i (by omega)
 unfold ednErr
 rw [if_neg, if_neg, if_neg, if_neg]
 · intro h5
   rw [List.any_eq_true] at h5
   obtain ⟨z, hz, hb⟩ := h5
   obtain ⟨q, hq, rfl⟩ := List.getElem_of_mem hz
   have hq' : q < (R i).length := by rw [← lostL_len (xd := xd) (np := s.places.length) (i := i) (xs := R i) s.places.length]; exact hq
   have hv := h.at (i := i) (p := q) (by omega) (by omega)
   have := lostL_at (xd := xd) (np := s.places.length) (i := i) (xs := R i) (q := q) s.places.length
   rw [List.getElem?_eq_getElem (show q < (lostL xd s.places.length i (R i) s.places.length).length from hq)] at this
   have e : (R i)[q]?.getD 0 = rdL R q i := rfl
   rw [e] at this
   have hb' : inB 0 3 ((lostL xd s.places.length i (R i) s.places.length)[q]'hq) = true := by
     simp only [Option.getD_some] at this
     unfold inB
     simp only [Bool.and_eq_true, decide_eq_true_eq]
     omega
   rw [show ((toldE s xd Y R i).rd[q]'hq) = (lostL xd s.places.length i (R i) s.places.length)[q]'hq from rfl, hb'] at hb
   cases hb
 · show ¬ (lostL xd s.places.length i (R i) s.places.length).length ≠ s.places.length
   rw [lostL_len]; exact fun h => h hl
 · show ¬ (min 1850 _ : Int) < max 1450 _
   omega
 · show ¬ ((inB 1450 1850 (max 1450 _) && inB 1450 1850 (min 1850 _)) = false)
   unfold inB
   simp only [Bool.and_eq_false_iff, decide_eq_false_iff_not]
   omega
theorem ToldI.years (h : ToldI s l Y R c) (hll : l.length = s.editions.length) (ht : IsTree l) {i : Nat} (hi : i < s.editions.length) : firstY (toldS s xd Y R) (treeE l) i ≤ Y i ∧ Y i ≤ lastY (toldS s xd Y R) (treeE l) i := by
 refine years_in (s := toldS s xd Y R) (L := Y) (fun e he => ?_) (fun j hj => ?_) (fun e he => ?_) i (by rw [De]; exact hi)
 · obtain ⟨h1, h2, -⟩ := ht.edge he
   rw [De]; omega
 · rw [De] at hj
   rw [told_ed hj]
   have := h.lo j (by omega)
   show (max 1450 _ : Int) ≤ _ ∧ _ ≤ (min 1850 _ : Int)
   omega
 · obtain ⟨h1, h2, h3⟩ := ht.edge he
   have := (h.src e.2 h2 e.1 h3).1
   omega
theorem ToldI.fits (h : ToldI s l Y R c) (hll : l.length = s.editions.length) (ht : IsTree l) : fitsT (toldS s xd Y R) l = true := by
 unfold fitsT
 rw [fitsE_iff]
 intro i hi
 rw [De] at hi
 have h1 := (h.years (xd := xd) hll ht hi).1
 refine Int.le_trans h1 ?_
 rw [told_ed hi]
 have := h.lo i (by omega)
 show _ ≤ (min 1850 _ : Int)
 omega
theorem ToldI.cost (h : ToldI s l Y R c) (h0 : (checkT s).2.2 = 0) (hll : l.length = s.editions.length) (ht : IsTree l) : costL (toldS s xd Y R) l < 1000 ∧ costL (toldS s xd Y R) l ≤ c := by
 have hv := Dd (h.check (xd := xd) h0 hll)
 have hle : ∀ p, p < s.places.length → leastL (toldS s xd Y R) l p ≤ changesOf l (rdL R p) := fun p hp => by
   refine leastL_le ht.in_ (by rw [De]; exact hll) ⟨fun i hi => h.at hi hp, fun i hi => ?_⟩ fun i hi hu => ?_
   · unfold fitR Stm.r
     rw [told_ed (by omega)]
     exact lostL_at _
   · obtain ⟨k, hk, hkl⟩ := ht.in_.nat hi hu
     rw [hk, Int.toNat_natCast, told_free]
     exact (h.src i hi k hk).2 p hp
 have hc : costL (toldS s xd Y R) l < 1000 := (cost_iff hv (by rw [De]; exact hll)).2 ⟨h.fits hll ht, fun p hp => by
   have := hle p hp
   have := (D0 (l := l) (g := rdL R p)).2
   have := hv.ne
   rw [De] at this
   omega⟩
 refine ⟨hc, ?_⟩
 rw [(cost_sum hc).1, h.cnt, sumN_swap]
 exact sumN_le hle
end
end Go.Proofs.Ytccogmkhijgelaa
namespace Go.Proofs.Ytccogmkhijgelaa
open Go
theorem chgX_bound {l : List Int} {R : Nat → List Int} {i p : Nat} {r : Int} : 0 ≤ chgX l R i p r ∧ chgX l R i p r ≤ 1 := by unfold chgX; split; omega; split <;> omega
theorem get_old {xs : List Int} {r : Int} {q : Nat} (h : q < xs.length) : (xs ++ [r])[q]?.getD 0 = xs[q]?.getD 0 := by rw [List.getElem?_append_left h]
theorem get_new {xs : List Int} {r : Int} : (xs ++ [r])[xs.length]?.getD 0 = r := by simp
theorem tell_snoc {c : Int} {l : List Int} {R : Nat → List Int} {j p : Nat} {r : Int} {xs : List Int} (h : xs.length = p) : c + sumN p (fun q => chgX l R j q (xs[q]?.getD 0)) + chgX l R j p r = c + sumN (p + 1) (fun q => chgX l R j q ((xs ++ [r])[q]?.getD 0)) := by
 subst h
 simp only [sumN]
 rw [get_new, Ca (f := fun q => chgX l R j q ((xs ++ [r])[q]?.getD 0)) (g := fun q => chgX l R j q (xs[q]?.getD 0)) fun q hq => by rw [get_old hq]]
 omega
theorem tell_val {r : Int} {xs : List Int} (h : ∀ x ∈ xs, 1 ≤ x ∧ x ≤ 3) (hr : 1 ≤ r ∧ r ≤ 3) : ∀ x ∈ xs ++ [r], 1 ≤ x ∧ x ≤ 3 := fun x hx => by
 rcases List.mem_append.1 hx with hx | hx
 · exact h x hx
 · rw [List.mem_singleton.1 hx]; exact hr
theorem tell_step {l : List Int} {s : Stm} {R : Nat → List Int} {j p : Nat} {r : Int} {xs : List Int} (h : xs.length = p) (hk : ∀ k : Nat, upN l j = (k : Int) → ∀ q, q < p → stepOk (freeP s q) (rdL R q k) (xs[q]?.getD 0)) (hr : ∀ k : Nat, upN l j = (k : Int) → stepOk (freeP s p) (rdL R p k) r) :
   ∀ k : Nat, upN l j = (k : Int) → ∀ q, q < p + 1 → stepOk (freeP s q) (rdL R q k) ((xs ++ [r])[q]?.getD 0) := fun k hu q hq => by
 subst h
 by_cases e : q = xs.length
 · subst e; rw [get_new]; exact hr k hu
 · rw [get_old (by omega)]; exact hk k hu q (by omega)
theorem lostL_yes {xd : List Nat} {np i : Nat} {xs : List Int} {p : Nat} (h : turnN xd (i * np + p) % 4 = 1) : lostL xd np i xs (p + 1) = (lostL xd np i xs p).set p 0 := if_pos h
theorem lostL_no {xd : List Nat} {np i : Nat} {xs : List Int} {p : Nat} (h : ¬ turnN xd (i * np + p) % 4 = 1) : lostL xd np i xs (p + 1) = lostL xd np i xs p := if_neg h
def valE (v : Value) : List Value := [v]
def vL (W : Nat → Value) (n : Nat) : List Value := (List.range n).map W
theorem vL_len {W : Nat → Value} {n : Nat} : (vL W n).length = n := by simp [vL]
theorem valE_flat {l : List Value} : l.flatMap valE = l := by
 induction l with
 | nil => rfl
 | cons a l ih => rw [List.flatMap_cons, ih]; rfl
theorem vL_zero {v : Value} {n : Nat} : List.replicate n v = (vL (fun _ => v) n).flatMap valE := by
 rw [valE_flat]
 refine List.ext_getElem (by simp [vL]) fun i h1 h2 => ?_
 simp [vL]
theorem vL_at {W : Nat → Value} {n i : Nat} (h : i < (vL W n).length) : (vL W n)[i] = W i := by simp [vL]
theorem vL_get {W : Nat → Value} {n i : Nat} (h : i < n) : ((vL W n).flatMap valE)[i * 1]? = some (W i) := by
 rw [valE_flat, Nat.mul_one, List.getElem?_eq_getElem (by rw [vL_len]; exact h), vL_at]
theorem vL_len1 {W : Nat → Value} {n : Nat} : ((vL W n).flatMap valE).length = n := by rw [valE_flat, vL_len]
theorem vL_set {W : Nat → Value} {n i : Nat} {v : Value} (_h : i < n) : ((vL W n).flatMap valE).set (i * 1) v = (vL (updA W i v) n).flatMap valE := by
 rw [valE_flat, valE_flat, Nat.mul_one]
 refine List.ext_getElem (by simp [vL]) fun j h1 h2 => ?_
 rw [List.getElem_set]
 by_cases h : i = j
 · subst h; rw [if_pos rfl, vL_at, Dk]
 · rw [if_neg h, vL_at, vL_at, Cl (fun k => h k.symm)]
theorem updA_updA {α : Type} {f : Nat → α} {i : Nat} {v w : α} : updA (updA f i v) i w = updA f i w := by funext j; unfold updA; split <;> rfl
theorem updA_self {α : Type} {f : Nat → α} {i : Nat} {v : α} (h : f i = v) : updA f i v = f := by funext j; unfold updA; split; rename_i e; subst e; exact h.symm; rfl
theorem iL_setA {f : Nat → Int} {n i : Nat} {v : Int} (h : i < n) : ((iL f n).flatMap intE).set (i * 1) (.int .i64 v) = (iL (updA f i v) n).flatMap intE := iL_set h
theorem row_addr9 {b n c : Nat} : addc (base (.slice (some ⟨b, 0, none⟩) n n)) (c * 1) = ⟨b, c * 1, none⟩ := by simp [base, addc]
theorem Dn {F : Heap} {H : List (Nat × Obj)} {b c n T : Nat} {l : List Value} {v : Value} (i : Nat) (hi : H[i]? = some (b, bx T l)) (hc : l[c * 1]? = some v) : Cell ⟨F, H⟩ (addc (base (.slice (some ⟨b, 0, none⟩) n n)) (c * 1)) v := by
 rw [row_addr9]; exact Cell.own i hi hc
/-- The readings so far. -/
structure TellR (F : Heap) (n : Nat) (W : Nat → Value) (D : Nat → Bool) (R : Nat → List Int) : Prop where
 rd : ∀ i, i < n → D i = true → Ints F (W i) (R i)
 no : ∀ i, i < n → D i = false → W i = .slice none 0 0
theorem TellR.mono {F F' : Heap} {n : Nat} {W : Nat → Value} {D : Nat → Bool} {R : Nat → List Int} (h : TellR F n W D R) (hF : F.le F') : TellR F' n W D R := ⟨fun i hi hd => (h.rd i hi hd).mono hF, h.no⟩
theorem TellR.start {F : Heap} {n : Nat} : TellR F n (fun _ => .slice none 0 0) (fun _ => false) (fun _ => []) := ⟨(fun _ _ h => nomatch h), fun _ _ _ => rfl⟩
theorem TellR.step {F : Heap} {n : Nat} {W : Nat → Value} {D : Nat → Bool} {R : Nat → List Int} (h : TellR F n W D R) {i : Nat} {w : Value} {xs : List Int} (hw : Ints F w xs) : TellR F n (updA W i w) (updA D i true) (updA R i xs) :=
 ⟨fun j hj hd => by
   by_cases e : j = i
   · subst e; rw [Dk, Dk]; exact hw
   · rw [Cl e] at hd; rw [Cl e, Cl e]; exact h.rd j hj hd,
  fun j hj hd => by
   by_cases e : j = i
   · subst e; rw [Dk] at hd; cases hd
   · rw [Cl e] at hd; rw [Cl e]; exact h.no j hj hd⟩
/-- The editions so far. -/
structure TellQ (F : Heap) (ps qs : List (Value × Edn)) (s : Stm) (xd : List Nat) (Y : Nat → Int) (R : Nat → List Int) (i : Nat) : Prop where
 len : qs.length = ps.length
 done : ∀ j (h : j < qs.length), j < i → qs[j].2 = toldE s xd Y R j ∧ Ints F qs[j].1 (toldE s xd Y R j).rd
 left : ∀ j (h : j < qs.length) (h2 : j < ps.length), i ≤ j → qs[j] = ps[j]
section
variable {F : Heap} {ps qs : List (Value × Edn)} {s : Stm} {xd : List Nat} {Y : Nat → Int} {R : Nat → List Int} {i : Nat}
theorem TellQ.mono {F' : Heap} (h : TellQ F ps qs s xd Y R i) (hF : F.le F') : TellQ F' ps qs s xd Y R i := ⟨h.len, fun j hj hi => ⟨(h.done j hj hi).1, (h.done j hj hi).2.mono hF⟩, h.left⟩
theorem TellQ.start : TellQ F ps ps s xd Y R 0 := ⟨rfl, fun j _ h => absurd h (by omega), fun _ _ _ _ => rfl⟩
theorem TellQ.step (h : TellQ F ps qs s xd Y R i) (_hi : i < qs.length) {w : Value} (hw : Ints F w (toldE s xd Y R i).rd) : TellQ F ps (qs.set i (w, toldE s xd Y R i)) s xd Y R (i + 1) := by
 refine ⟨by rw [List.length_set]; exact h.len, fun j hj hji => ?_, fun j hj h2 hij => ?_⟩
 · rw [List.length_set] at hj
   rw [List.getElem_set]
   by_cases e : i = j
   · subst e; rw [if_pos rfl]; exact ⟨rfl, hw⟩
   · rw [if_neg e]; exact h.done j hj (by omega)
 · rw [List.length_set] at hj
   rw [List.getElem_set, if_neg (by omega)]
   exact h.left j hj h2 (by omega)
theorem TellQ.stm {vp ve w : Value} (h : TellQ F ps qs s xd Y R ps.length) (hr : StmR F vp ve ps s) (hw : Sl F w 4 edE qs) : StmR F vp w qs (toldS s xd Y R) := by
 refine ⟨hr.places, hw, fun q hq => ?_, ?_⟩
 · obtain ⟨j, hj, rfl⟩ := List.getElem_of_mem hq
   obtain ⟨h1, h2⟩ := h.done j hj (by have := h.len; omega)
   rw [h1]; exact h2
 · have hl := h.len
   have hl2 := hr.len
   refine List.ext_getElem (by simp [toldS]; omega) fun j h1 h2 => ?_
   rw [List.getElem_map, (h.done j (by simpa using h1) (by have := h1; rw [List.length_map] at this; omega)).1]
   simp [toldS]
end
theorem ed_own_year {E : Nat} {w : Value} {R : List (Nat × Obj)} {qs : List (Value × Edn)} {i : Nat} {a b : Int} (h : Own E 4 w qs.length (((qs.flatMap edE).set (i * 4 + 1) (.int .i64 a)).set (i * 4 + 1 + 1) (.int .i64 b)) R) (hi : i < qs.length) :
   Own E 4 w (qs.set i (qs[i].1, ⟨qs[i].2.name, a, b, qs[i].2.rd⟩)).length ((qs.set i (qs[i].1, ⟨qs[i].2.name, a, b, qs[i].2.rd⟩)).flatMap edE) R := by
 rw [E1 E2 (j := 1) (x := (qs[i].1, ⟨qs[i].2.name, a, qs[i].2.hi, qs[i].2.rd⟩)) (by omega) qs i hi rfl, show i * 4 + 1 + 1 = i * 4 + 2 from rfl,
   E1 E2 (j := 2) (x := (qs[i].1, ⟨qs[i].2.name, a, b, qs[i].2.rd⟩)) (by omega) _ i (by rw [List.length_set]; exact hi) (by rw [List.getElem_set_self]; rfl), List.set_set] at h
 rw [List.length_set]; exact h
theorem ed_own_rd {E : Nat} {w u : Value} {R : List (Nat × Obj)} {qs : List (Value × Edn)} {i : Nat} {y : Value × Edn} {x : Edn} (hi : i < qs.length) (h : Own E 4 w (qs.set i y).length (((qs.set i y).flatMap edE).set (i * 4 + 3) u) R) (h1 : y.2.name = x.name) (h2 : y.2.lo = x.lo) (h3 : y.2.hi = x.hi) :
   Own E 4 w (qs.set i (u, x)).length ((qs.set i (u, x)).flatMap edE) R := by
 rw [E1 E2 (j := 3) (x := (u, x)) (by omega) _ i (by rw [List.length_set]; exact hi) (by rw [List.getElem_set_self]; simp [edE, h1, h2, h3]), List.set_set, List.length_set] at h
 rw [List.length_set]; exact h
end Go.Proofs.Ytccogmkhijgelaa
