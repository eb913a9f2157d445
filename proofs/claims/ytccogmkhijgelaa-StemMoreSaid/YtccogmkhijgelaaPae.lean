/-
  A part of a proof: StemMore returns true of any stem, numbers, edition, place and reading, and leaves what it is handed as it was. No conditions.
-/
import Derived.Test.YtccogmkhijgelaaPad
import Derived.KernelRfl
namespace Go.Proofs.Ytccogmkhijgelaa
open Go.RowKit
theorem agg_128 : AggT Try.prog 128 3 := aggT_of (by kernel_rfl)
theorem bd_87 : Body Try.prog 87 := Bp (by kernel_rfl)
theorem el_64 : ElemT Try.prog 64 4 56 (.agg #[.string ⟨#[]⟩, .int .i64 0, .int .i64 0, .slice none 0 0]) := elemT_of (by kernel_rfl) rfl (by decide)
theorem sz_128 : SizeT Try.prog 128 3 := Cx (by kernel_rfl)
theorem sz_23 : SizeT Try.prog 23 1 := Cx (by kernel_rfl)
theorem sz_26 : SizeT Try.prog 26 1 := Cx (by kernel_rfl)
theorem src_eds {F : Heap} {v : Value} {ps : List (Value × Edn)} (h : Sl F v 4 edE ps) (hone : ∀ p ∈ ps, p.1.oneCell' = true) {H : List (Nat × Obj)} : Src ⟨F, H⟩ v ps.length (ps.flatMap edE) 4 := h.srcM edE_len fun p hp => edE_one (hone p hp)
theorem StmX.ones {F : Heap} {b kb : Nat} {vp ve : Value} {ps : List (Value × Edn)} {s : Stm} (hX : StmX F b vp ve (.map (some kb)) ps s) : ∀ u ∈ [vp, ve, .map (some kb)], u.oneCell' = true := by
 intro u hu
 simp only [List.mem_cons, List.not_mem_nil, or_false] at hu
 rcases hu with rfl | rfl | rfl
 · exact hX.r.places.plain.one
 · exact hX.r.eds.plain.one
 · rfl
set_option maxRecDepth 100000 in
theorem cloneEd_own {F : Heap} {v : Value} {ps : List (Value × Edn)} (h : Sl F v 4 edE ps) (hone : ∀ p ∈ ps, p.1.oneCell' = true) (hn : ps.length ≤ 1000) : OkN Try.prog 87 [v].toArray F fun u _F' Hn => Own 64 4 u ps.length (ps.flatMap edE) Hn := by
 obtain ⟨a0, c0, rfl, g1, g2, g3, g4⟩ := h.plain
 refine OkN.intro Try.func87 rfl Try.ntmps87 rfl fun w0 => ?_
 cases a0
 ·
  refine Af <| Ai fun ds => Aa rfl (Ae Ad) ?_
  refine Ah <| Ac <| Af <| Af <| Ai fun ds => Aa rfl (Ag (Am rfl <| Ak rfl)) ?_
  refine Aa rfl (q_eqlNil Try.underlying23 (Ab) Ad) ?_
  refine Ah <| Ac <| Ar (Ab) rfl ?_
  refine Af <| Ai fun ds => Aa rfl (Ae Ad) ?_
  refine Ah <| Ac <| A3 <| A9 ?_
  refine En rfl (.tmp (Ab) .nil) (List.nil_sublist _) ?_
  obtain ⟨h0, -⟩ := g2 rfl
  have : ps = [] := List.eq_nil_of_length_eq_zero h0
  subst this
  exact Ef
 ·
  refine Af <| Ai fun ds => Aa rfl (Ae Ad) ?_
  refine Ah <| Ac <| Af <| Af <| Ai fun ds => Aa rfl (Ag (Am rfl <| Ak rfl)) ?_
  refine Aa rfl (q_eqlNil Try.underlying23 (Ab) Ad) ?_
  refine Ah <| Ac <| Ao (Ab) rfl ?_
  refine Ax <| Ac <| Af <| Ai fun ds => Bg rfl (x_build0 B1 fun b1 hb1 nb1 => ?_)
  refine Aa rfl (Ag (A1 rfl <| Ak rfl)) ?_
  refine Bg rfl (Cg B1 el_64 (Am rfl <| Ab) (Eg rfl) (Ab) (src_eds h hone) (by omega) (by omega) (.z) .box fun v2 R3 ho4 => ?_)
  have ho1 : Own 64 4 v2 ps.length (ps.flatMap edE) R3 := by simpa using ho4
  refine Aa rfl (Ae (Ab)) ?_
  refine Ah <| Ac <| A3 <| En rfl (.tmp (Ab) .nil) (List.sublist_append_left _ _) ?_
  exact ho1
def IntsR7 (F : Heap) (u : Value) (p : List Int × Int) : Prop := ∃ v, u = .tuple #[v, .int .i64 p.2] ∧ Ints F v p.1
theorem IntsR7.mono {F F' : Heap} {u : Value} {p : List Int × Int} (h : IntsR7 F u p) (hF : F.le F') : IntsR7 F' u p := by obtain ⟨v, h1, h2⟩ := h; exact ⟨v, h1, h2.mono hF⟩
set_option maxRecDepth 100000 in
theorem reading_top_ok {F : Heap} {vp ve : Value} {ps : List (Value × Edn)} {s : Stm} (hr : StmR F vp ve ps s) {v : Value} {l : List Int} (hl : Ints F v l) (z q : Int) : Ok Try.prog 35 [.agg #[vp, ve], v, .int .i64 z, .int .i64 q].toArray F fun u F' => IntsR7 F' u (readE s l z q) := by
 have hle0 : F.le F := Heap.le_refl _
 refine Ok.intro Try.func35 rfl Try.ntmps35 rfl fun w0 => ?_
 have hL := hl.plain.lt
 have hlen := hr.len
 have hL1 := hr.eds.plain.lt
 have hL2 := hr.places.plain.lt
 by_cases hok : treeErr s l = 0
 ·
  obtain ⟨hv, hll, ht⟩ := tree_ok hok
  have hne := hv.ne
  have hnp := hv.np
  have hl5 : l.length ≤ 5 := by omega
  have hcv := changes_costV (s := s) ht hv hll
  have hcb := Er (s := s) (l := l)
  refine Af <| Ai fun ds => Bg rfl (B4 (Ak rfl) rfl fun b1 hb1 nb1 => ?_)
  refine Aa rfl (Ae Ad) ?_
  refine Aa rfl (Ae Ad) ?_
  refine Ah <| Ac <| Af <| Ai fun ds => Aa rfl (A8 B2 (Aq rfl <| Ab) rfl rfl (A7 0 rfl)) ?_
  refine Aa rfl (Ag (A1 rfl <| Ak rfl)) ?_
  refine Bg rfl (Dt bd_68 Az (.cons (Am rfl <| Ab) (.cons (Ab) .nil)) (enter_ok hr hl hok) fun v2 F3 R6 hr4 hF5 => ?_)
  replace hr := hr.mono hF5
  replace hle0 := Heap.le_trans hle0 hF5
  obtain ⟨ba, kb, rfl, hX, rfl⟩ := hr4
  refine Aa rfl (Ag (Ab)) ?_
  refine Aa rfl (Ay (Ab) rfl) ?_
  refine Aa rfl (Ay (Am rfl <| Ab) rfl) ?_
  refine Aa rfl (Ay (Aq rfl <| Ab) rfl) ?_
  refine Bg rfl (B6 D6 rfl fun b7 hb7 nb7 => ?_)
  refine Aa rfl (Ae (Aq rfl <| Am rfl <| Ab)) ?_
  refine Cc (Ca Ej (Am rfl <| Ab) (Aq rfl <| Am rfl <| Ab) (i := 0) rfl rfl rfl rfl Da (.here) ?_)
  refine Aa rfl (Ae (Aq rfl <| Ab)) ?_
  refine Ah <| Ac <| Af <| A0 <| Af <| B9 (i := 1) rfl hb1 (.next <| .here) fun F8 hF9 hz4 => ?_
  replace hr := hr.mono hF9
  replace hle0 := Heap.le_trans hle0 hF9
  replace hX := hX.mono hF9
  refine B9 (i := 0) rfl hb7 (.here) fun F10 hF11 hz11 => ?_
  replace hr := hr.mono hF11
  replace hle0 := Heap.le_trans hle0 hF11
  replace hX := hX.mono hF11
  replace hz4 := hF11 _ _ hz4
  refine Ai fun ds => Aa rfl (Ag (Ab)) ?_
  refine Aa rfl (B3 (Ab) Ad) ?_
  refine Aa rfl (Ae (Ab)) ?_
  refine Ah <| Ac <| Ao (Ab) (by decide) ?_
  by_cases h1 : inB 0 (s.editions.length - 1) z = true
  ·
   refine Af <| Ai fun ds => Aa rfl (Al Bo (A5 rfl <| A1 rfl <| Aq rfl <| Am rfl <| Ab)) ?_
   refine Aa rfl (Ap By (Ab) (CellF.own hz4 rfl).cell) ?_
   refine Aa rfl (Bk B1 (Ab) hr.eds.plain) ?_
   refine Aa rfl (q_sub (Ab) Ad rfl (by omega) (by omega)) ?_
   refine Aa rfl (Ag (A2 rfl <| A1 rfl <| Ak rfl)) ?_
   refine Bg rfl (B7 Bj C9 rfl (.cons (Ab) .nil) rfl rfl (by decide) (by simp [Value.oneCell']) fun b12 hb12 nb12 => ?_)
   refine B8 (i := 0) rfl hb12 .here fun F13 hF14 hz15 => ?_
   replace hr := hr.mono hF14
   replace hle0 := Heap.le_trans hle0 hF14
   replace hX := hX.mono hF14
   replace hz4 := hF14 _ _ hz4
   replace hz11 := hF14 _ _ hz11
   have hsl16 := C0 hz15
   refine Bx rfl (Ba Ec Az (.cons Ad (.cons (Aq rfl <| Ab) (.cons (Ab) .nil))) (Ci _ _ hsl16) (fun _ _ h => h)) ?_
   refine Aa rfl (Ag (Ab)) ?_
   refine As rfl rfl (Ab) (by simp [hlen, h1]) ?_
   refine Aa rfl (Al Cn (A2 rfl <| A1 rfl <| Aq rfl <| Am rfl <| Ab)) ?_
   refine As rfl rfl (Am rfl <| Ab) (by simp [hlen, h1]) ?_
   refine Aa rfl (Ap Cz (Ab) (CellF.own hz4 rfl).cell) ?_
   refine As rfl rfl (Aq rfl <| Ab) (by simp [hlen, h1]) ?_
   refine Aa rfl (Bk C1 (Ab) hr.places.plain) ?_
   refine As rfl rfl (Aq rfl <| Am rfl <| Ab) (by simp [hlen, h1]) ?_
   refine Aa rfl (q_sub (Ab) Ad rfl (by omega) (by omega)) ?_
   refine As rfl rfl (A1 rfl <| Ab) (by simp [hlen, h1]) ?_
   refine Aa rfl (Ag (A2 rfl <| A5 rfl <| A1 rfl <| Ak rfl)) ?_
   refine As rfl rfl (A1 rfl <| Am rfl <| Ab) (by simp [hlen, h1]) ?_
   refine Bg rfl (B7 Bj C9 rfl (.cons (Ab) .nil) rfl rfl (by decide) (by simp [Value.oneCell']) fun b17 hb17 nb17 => ?_)
   refine B8 (i := 0) rfl hb17 .here fun F18 hF19 hz20 => ?_
   replace hr := hr.mono hF19
   replace hle0 := Heap.le_trans hle0 hF19
   replace hX := hX.mono hF19
   replace hz4 := hF19 _ _ hz4
   replace hz11 := hF19 _ _ hz11
   have hsl21 := C0 hz20
   refine As rfl rfl (A1 rfl <| Aq rfl <| Ab) (by simp [hlen, h1]) ?_
   refine Bx rfl (Ba Ec Az (.cons Ad (.cons (Aq rfl <| Ab) (.cons (Ab) .nil))) (Ci _ _ hsl21) (fun _ _ h => h)) ?_
   refine Aa rfl (Bc (A1 rfl <| Aq rfl <| Am rfl <| Ab) (by simp [hlen, h1]) (Ab)) ?_
   refine Aa rfl (Ae (Ab)) ?_
   refine Ah <| Ac ?_
   by_cases h2 : inB 0 (s.places.length - 1) q = true
   ·
    have h12 : (inB 0 (s.editions.length - 1) z && inB 0 (s.places.length - 1) q) = true := by rw [h1, h2]; rfl
    obtain ⟨x, rfl, hx⟩ := inB_nat h1
    obtain ⟨p, rfl, hp⟩ := inB_nat h2
    have hxp : x < ps.length := by omega
    have hrx := hr.rd hxp
    have hpx : p < (s.ed x).rd.length := by rw [hv.rdl x hx]; exact hp
    have er := rdT_at hpx
    have hrdl := hv.rdl x hx
    have hrb9 := hv.rd x p hx hp
    have e1 := hr.at hxp
    refine Ao (Ab) (by simp [h2]) ?_
    by_cases hc : costL s l = 1000
    ·
     refine Af <| Ai fun ds => Aa rfl (Ag (A2 rfl <| A1 rfl <| Am rfl <| Ab)) ?_
     refine Aa rfl (A8 B0 (A2 rfl <| A1 rfl <| Aq rfl <| Am rfl <| Ab) rfl rfl (Cm hz11)) ?_
     refine WL_order (.cons (.here) <| .nil) ?_
     refine Bg rfl (x_callM bd_69 Az (.cons (Am rfl <| Ab) (.cons (Ab) .nil)) rfl (changes_ok hX ht hll hv KnownT.nil) fun v26 F27 H30 hr28 hF29 => ?_)
     obtain ⟨es2, rfl, rfl, hK2⟩ := hr28
     refine Aa rfl (Bw (Ab) Ad) ?_
     refine Aa rfl (Ae (Ab)) ?_
     refine Ah <| Ac <| Ar (Ab) (by rw [hcv]; unfold costV; rw [if_pos hc]; rfl) ?_
     refine Af <| Ai fun ds => Aa rfl (Ae Ad) ?_
     refine Aa rfl (Ae Ad) ?_
     refine Ah <| Ac <| A3 <| Bi (A9 ?_)
     refine Aw rfl (.tmp (Am rfl <| Ab) (.tmp (Ab) .nil)) ?_
     rw [readE_bad (readErr_3 hok h12 hc) (by decide)]
     exact ⟨_, rfl, Sl.nil⟩
    ·
     have hre := readErr_0 hok h12 hc
     refine Af <| Ai fun ds => Aa rfl (Ag (A2 rfl <| A1 rfl <| Am rfl <| Ab)) ?_
     refine Aa rfl (A8 B0 (A2 rfl <| A1 rfl <| Aq rfl <| Am rfl <| Ab) rfl rfl (Cm hz11)) ?_
     refine WL_order (.cons (.here) <| .nil) ?_
     refine Bg rfl (x_callM bd_69 Az (.cons (Am rfl <| Ab) (.cons (Ab) .nil)) rfl (changes_ok hX ht hll hv KnownT.nil) fun v35 F36 H39 hr37 hF38 => ?_)
     replace hr := hr.mono hF38
     replace hle0 := Heap.le_trans hle0 hF38
     replace hX := hX.mono hF38
     replace hrx := hrx.mono hF38
     replace hz4 := hF38 _ _ hz4
     replace hz11 := hF38 _ _ hz11
     obtain ⟨es2, rfl, rfl, hK2⟩ := hr37
     refine Aa rfl (Bw (Ab) Ad) ?_
     refine Aa rfl (Ae (Ab)) ?_
     refine Ah <| Ac <| Ao (Ab) (by rw [hcv]; unfold costV; rw [if_neg hc]; exact decide_eq_false (by omega)) ?_
     refine Ax <| Bb <| Ac <| Af <| Ai fun ds => Aa rfl (Ag (A2 rfl <| A5 rfl <| Aq rfl <| Ab)) ?_
     refine Aa rfl (A8 B0 (A2 rfl <| A5 rfl <| A1 rfl <| Ab) rfl rfl (Cm hz11)) ?_
     refine Aa rfl (Ag (Bl rfl <| A5 rfl <| Ak rfl)) ?_
     refine Bx rfl (Ba bd_82 Az (.cons (Aq rfl <| Ab) (.cons (Am rfl <| Ab) (.cons (Ab) .nil))) (D2 hX ht hll hv hp) (fun _ _ h => h)) ?_
     refine Aa rfl (Ae (Ab)) ?_
     refine Ah <| Ac <| Af <| Ai fun ds => Aa rfl (Al Bo (Bl rfl <| A5 rfl <| Aq rfl <| Ab)) ?_
     refine Aa rfl (Ap By (Ab) (CellF.own hz4 rfl).cell) ?_
     refine Aa rfl (Ag (Bl rfl <| A5 rfl <| A1 rfl <| Am rfl <| Ak rfl)) ?_
     refine Aa rfl (Be (k := x) B1 (Am rfl <| Ab) hr.eds.plain (Ab) rfl hxp) ?_
     refine Aa rfl (Bs Cb (Ab)) ?_
     refine Aa rfl (Ap Ch (Ab) (hr.eds.cell hxp rfl)) ?_
     refine Aa rfl (Ag (Bl rfl <| A2 rfl <| Am rfl <| Ak rfl)) ?_
     refine Aa rfl (Be (k := p) Bj (Am rfl <| Ab) hrx.plain (Ab) rfl hpx) ?_
     refine Aa rfl (Ap Bn (Ab) (hrx.cell1 hpx rfl)) ?_
     refine Aa rfl (Ae (Ab)) ?_
     refine Ah <| Ac <| Af <| Af <| Ai fun ds => Aa rfl (Ag Ad) ?_
     refine Ah <| Ac <| A0 <| Bu [8, 14, 15, 62, 63, 64, 65, 66, 67, 68, 69, 70, 71, 72, 73, 74, 75, 76, 77, 78, 79, 80, 81, 82, 83, 84, 85, 86, 87, 88, 89, 90, 91, 92, 93, 94, 95, 96, 97, 98, 99, 100, 101, 102, 103, 104, 105, 106, 107, 108, 109, 110, 111, 112, 113, 114, 115, 116, 117, 118, 119, 120, 121] (fun m e σ => ∃ G, F36.le G ∧ ∃ k : Nat, m + k = 3 ∧ e 62 = .int .i64 (k : Int) ∧ ∃ v8 R8, e 8 = v8 ∧ Own 3 1 v8 (readTo s l x p k).length ((readTo s l x p k).flatMap intE) R8 ∧ σ = ⟨G, (kb, mapO es2) :: R8⟩) (3) ?_ ?_
     · exact ⟨_, Heap.le_refl _, 0, by omega, (Ab), _, _, (Bl rfl <| A2 rfl <| A1 rfl <| Ab), Own.nil, rfl⟩
     ·
      rintro m e _ ⟨G, hFG, k, hm, hs62, v8, R8, hs8, ho, rfl⟩; have hrl := readTo_len (s := s) (l := l) (x := x) (p := p) (k := k); replace hr := hr.mono hFG; replace hX := hX.mono hFG; replace hrx := hrx.mono hFG; replace hz4 := hFG _ _ hz4; replace hz11 := hFG _ _ hz11; have hle0 := Heap.le_trans hle0 hFG
      by_cases hlt : k < 3
      ·
       refine Af <| Ai fun ds => Aa rfl (Bv (At rfl hs62) Ad) ?_
       refine Ah <| Ac <| Af <| Ar (Ab) (by first | rfl | exact decide_eq_true (by omega)) ?_
       by_cases hk0 : 0 < s.r x p
       ·
        refine Ax <| Ac <| Af <| A0 <| Af <| Ai fun ds => Aa rfl (Ag (Am rfl <| At rfl hs62)) ?_
        refine Aa rfl (Ae (Ab)) ?_
        refine Ah <| Ac <| Af <| Af <| Ai fun ds => Aa rfl (Ag (Aq rfl <| Am rfl <| Aj rfl <| Am rfl <| Ab)) ?_
        refine Aa rfl (C7 (Ab) Ad) ?_
        refine Aa rfl (Ag (Ab)) ?_
        refine As rfl rfl (Ab) (by rw [er]; exact decide_eq_true hk0) ?_
        refine Aa rfl (Ag (A1 rfl <| Aq rfl <| Aj rfl <| Am rfl <| Ab)) ?_
        refine As rfl rfl (Am rfl <| Ab) (by rw [er]; exact decide_eq_true hk0) ?_
        refine Aa rfl (Ag (A1 rfl <| Ab)) ?_
        refine As rfl rfl (Aq rfl <| Ab) (by rw [er]; exact decide_eq_true hk0) ?_
        refine Aa rfl (Bt (Ab) Ad rfl (by omega) (by omega)) ?_
        refine As rfl rfl (Aq rfl <| Am rfl <| Ab) (by rw [er]; exact decide_eq_true hk0) ?_
        refine Aa rfl (B3 (Aq rfl <| Ab) (Ab)) ?_
        refine Aa rfl (A6 (A1 rfl <| Ab) (by rw [er]; exact decide_eq_true hk0) (Ab)) ?_
        refine Ah <| Ac ?_
        by_cases hke : s.r x p = (k : Int) + 1
        ·
         have hkn : (decide (s.r x p = 0) || decide (s.r x p = (k : Int) + 1)) = true := by rw [decide_eq_true hke]; simp
         refine Ao (Ab) (by rw [er]; exact decide_eq_false (fun h => h hke)) ?_
         have hvm := setS_valid (v := (k : Int) + 1) hv hx hp (by omega)
         refine Ax <| Ac <| Af <| Ai fun ds => Aa rfl (Ag (A5 rfl <| Aq rfl <| Am rfl <| Aj rfl <| Bl rfl <| A5 rfl <| Aq rfl <| Ab)) ?_
         refine Aa rfl (Bz (Ab)) ?_
         refine Aa rfl (A8 agg_128 (Ab) rfl rfl (Cm hX.blk)) ?_
         refine Bg rfl (B6 zr_128 rfl fun b41 hb41 nb41 => ?_)
         refine Cc (Ca sz_128 (Ab) (Am rfl <| Ab) (i := 0) rfl rfl rfl rfl hX.ones (.here) ?_)
         refine Ah <| Ac <| Af <| Ai fun ds => Aa rfl (Ag (A5 rfl <| A1 rfl <| Aq rfl <| Am rfl <| Aj rfl <| Bl rfl <| A5 rfl <| Aq rfl <| Ab)) ?_
         refine Aa rfl (Bz (Ab)) ?_
         refine Aa rfl (Al Ce (Ab)) ?_
         refine Aa rfl (Al Bo (Ab)) ?_
         refine Aa rfl (Ap By (Ab) (CellF.own hX.blk rfl).cell) ?_
         refine Bg rfl (x_callNf bd_87 Az (.cons (Ab) .nil) (cloneEd_own hX.r.eds hX.r.one (by omega)) fun v42 F43 R46 hr44 hF45 => ?_)
         replace hX := hX.mono hF45
         replace hrx := hrx.mono hF45
         replace hFG := Heap.le_trans hFG hF45
         replace hle0 := Heap.le_trans hle0 hF45
         replace hz11 := hF45 _ _ hz11
         have hoE := hr44
         refine Aa rfl (Al Ce (A1 rfl <| Aq rfl <| Ab)) ?_
         refine Aa rfl (Al Bo (Ab)) ?_
         refine Ds (.one (.skip <| .here) <| .one (.skip <| .here) <| .blk (.lastS) <| .lastb (.last)) ?_
         refine Cc (Cd sz_23 (Ab) (Aq rfl <| Ab) (i := 0) rfl (.next <| .here) (Own.one hoE) (.here) ?_)
         refine Ah <| Ac <| Af ?_
         have hleS := hle0
         refine Cy (.inl rfl) (fun _ _ h => h) (.cons_cons _ <| .cons_cons _ <| .refl _) [16] (by kernel_rfl) fun ds => ?_
         refine A4 0 rfl (by kernel_rfl) (by kernel_rfl) (by kernel_rfl) (by kernel_rfl) rfl rfl (fun _ h => h.drop (.cons_cons _ <| .cons_cons _ <| .refl _)) (fun _ _ _ h => h) (Al Ce (A5 rfl <| Ab)) ?_
         refine A4 1 rfl (by kernel_rfl) (by kernel_rfl) (by kernel_rfl) (by kernel_rfl) rfl rfl (fun _ h => h.drop (.cons_cons _ <| .cons_cons _ <| .refl _)) (fun _ _ _ h => h) (Al Bo (Ab)) ?_
         refine A4 2 rfl (by kernel_rfl) (by kernel_rfl) (by kernel_rfl) (by kernel_rfl) rfl rfl (fun _ h => h.drop (.cons_cons _ <| .cons_cons _ <| .refl _)) (fun _ _ _ h => h) (Ap By (Ab) (Cell.own 0 rfl rfl)) ?_
         refine A4 3 rfl (by kernel_rfl) (by kernel_rfl) (by kernel_rfl) (by kernel_rfl) rfl rfl (fun _ h => h.drop (.cons_cons _ <| .cons_cons _ <| .refl _)) (fun _ _ _ h => h) (Ag (A2 rfl <| A5 rfl <| Aq rfl <| Aj rfl <| Bl rfl <| A2 rfl <| A1 rfl <| Aq rfl <| Ak rfl)) ?_
         refine A4 4 rfl (by kernel_rfl) (by kernel_rfl) (by kernel_rfl) (by kernel_rfl) rfl rfl (fun _ h => h.drop (.cons_cons _ <| .cons_cons _ <| .refl _)) (fun _ _ _ h => h) (Ag (A2 rfl <| A5 rfl <| Aq rfl <| Am rfl <| Aj rfl <| Bl rfl <| A5 rfl <| Aq rfl <| Ab)) ?_
         refine A4 5 rfl (by kernel_rfl) (by kernel_rfl) (by kernel_rfl) (by kernel_rfl) rfl rfl (fun _ h => h.drop (.cons_cons _ <| .cons_cons _ <| .refl _)) (fun _ _ _ h => h) (Bz (Ab)) ?_
         refine A4 6 rfl (by kernel_rfl) (by kernel_rfl) (by kernel_rfl) (by kernel_rfl) rfl rfl (fun _ h => h.drop (.cons_cons _ <| .cons_cons _ <| .refl _)) (fun _ _ _ h => h) (Al Ce (Ab)) ?_
         refine A4 7 rfl (by kernel_rfl) (by kernel_rfl) (by kernel_rfl) (by kernel_rfl) rfl rfl (fun _ h => h.drop (.cons_cons _ <| .cons_cons _ <| .refl _)) (fun _ _ _ h => h) (Al Bo (Ab)) ?_
         refine A4 8 rfl (by kernel_rfl) (by kernel_rfl) (by kernel_rfl) (by kernel_rfl) rfl rfl (fun _ h => h.drop (.cons_cons _ <| .cons_cons _ <| .refl _)) (fun _ _ _ h => h) (Ap By (Ab) (CellF.own hX.blk rfl).cell) ?_
         refine A4 9 rfl (by kernel_rfl) (by kernel_rfl) (by kernel_rfl) (by kernel_rfl) rfl rfl (fun _ h => h.drop (.cons_cons _ <| .cons_cons _ <| .refl _)) (fun _ _ _ h => h) (Ag (Bl rfl <| Aj rfl <| Bl rfl <| A2 rfl <| A1 rfl <| Aq rfl <| Ak rfl)) ?_
         refine A4 10 rfl (by kernel_rfl) (by kernel_rfl) (by kernel_rfl) (by kernel_rfl) rfl rfl (fun _ h => h.drop (.cons_cons _ <| .cons_cons _ <| .refl _)) (fun _ _ _ h => h) (Be (k := x) B1 (Am rfl <| Ab) hX.r.eds.plain (Ab) rfl hxp) ?_
         refine A4 11 rfl (by kernel_rfl) (by kernel_rfl) (by kernel_rfl) (by kernel_rfl) rfl rfl (fun _ h => h.drop (.cons_cons _ <| .cons_cons _ <| .refl _)) (fun _ _ _ h => h) (Bs Cb (Ab)) ?_
         refine A4 12 rfl (by kernel_rfl) (by kernel_rfl) (by kernel_rfl) (by kernel_rfl) rfl rfl (fun _ h => h.drop (.cons_cons _ <| .cons_cons _ <| .refl _)) (fun _ _ _ h => h) (Ap Ch (Ab) (hX.r.eds.cell hxp rfl)) ?_
         refine WX_x 13 rfl (by kernel_rfl) rfl (x_callNf bd_76 Az (.cons (Ab) .nil) (cloneInt_own hrx (by omega)) fun v47 F48 R51 hr49 hF50 => ⟨fun _ _ _ h => (h.drop (List.sublist_append_of_sublist_right <| .cons_cons _ <| .cons_cons _ <| .refl _)).weak hF50 hleS, ?_⟩)
         replace hX := hX.mono hF50
         replace hFG := Heap.le_trans hFG hF50
         replace hz11 := hF50 _ _ hz11
         have hoR := hr49
         refine A4 14 rfl (by kernel_rfl) (by kernel_rfl) (by kernel_rfl) (by kernel_rfl) rfl rfl (fun _ h => (h.drop (List.sublist_append_of_sublist_right <| .cons_cons _ <| .cons_cons _ <| .refl _)).weak hF50 hleS) (fun _ _ _ h => h) (Be (k := x) B1 (A5 rfl <| Aq rfl <| Am rfl <| Ab) (hoE.plain (by omega)) (A5 rfl <| Aq rfl <| Ab) rfl hxp) ?_
         refine A4 15 rfl (by kernel_rfl) (by kernel_rfl) (by kernel_rfl) (by kernel_rfl) rfl rfl (fun _ h => (h.drop (List.sublist_append_of_sublist_right <| .cons_cons _ <| .cons_cons _ <| .refl _)).weak hF50 hleS) (fun _ _ _ h => h) (Bs Cb (Ab)) ?_
         refine WX_orderB (.one (.skip <| .here) <| .one (.skip <| .here) <| .blk (.skip <| .here) <| .blk (.lastS) <| .lastb (.last)) ?_
         refine WX_x0 16 rfl (by kernel_rfl) (x_storeR sz_26 (Ab) (Aq rfl <| Ab) hoE (by rw [Dp edE_len]; omega) (Own.one hoR) (.s <| .s <| .k <| .z) .more fun R52 ho53 => ⟨(fun h => nomatch h), ?_⟩)
         have hoE2 := ed_own_set (e := (s.ed x).setR p ((k : Int) + 1)) ho53 hxp (by rw [e1]; rfl) (by rw [e1]; rfl) (by rw [e1]; rfl)
         refine C2 (by kernel_rfl) ?_ _
         refine Ac <| Af <| Ai fun ds => Aa rfl (Al Ce (A2 rfl <| A5 rfl <| Ab)) ?_
         refine Aa rfl (Al Bo (Ab)) ?_
         refine Aa rfl (Ap By (Ab) (Cell.own 0 rfl rfl)) ?_
         refine Aa rfl (Ag (Bl rfl <| A5 rfl <| Aq rfl <| Aj rfl <| Bl rfl <| A2 rfl <| A1 rfl <| Aq rfl <| Ak rfl)) ?_
         refine Aa rfl (Be (k := x) B1 (Am rfl <| Ab) (hoE2.plain (by rw [List.length_set]; omega)) (Ab) rfl (by simp; omega)) ?_
         refine Aa rfl (Bs Cb (Ab)) ?_
         refine Aa rfl (Ap Ch (Ab) (own_cell hoE2 (fun p hp => .tail _ (.tail _ (List.mem_append_right _ (List.mem_append_left _ hp)))) (ed_set_get hxp))) ?_
         refine Aa rfl (Ag (Bl rfl <| A5 rfl <| A1 rfl <| Aq rfl <| Aj rfl <| Bl rfl <| A2 rfl <| A1 rfl <| Aq rfl <| Ak rfl)) ?_
         refine Aa rfl (Ag (Bl rfl <| A5 rfl <| A1 rfl <| Ab)) ?_
         refine Aa rfl (Bt (Ab) Ad rfl (by omega) (by omega)) ?_
         refine Aa rfl (Be (k := p) Bj (Aq rfl <| Am rfl <| Ab) (hoR.plain (by omega)) (Aq rfl <| Ab) rfl hpx) ?_
         refine Cc (x_storeR sz_3 (Ab) (Am rfl <| Ab) hoR (by rw [Dp (enc := intE) (s := 1) (fun _ => rfl)]; omega) rfl (.s <| .s <| .k <| .k <| .z) .last fun R54 ho55 => ?_)
         have hoR2 := ho55
         rw [show p * 1 = p * 1 + 0 from rfl, int_flat_set hpx] at hoR2
         replace hoR2 := hoR2.to (k' := ((s.ed x).rd.set p ((k : Int) + 1)).length) (by simp)
         refine Ah <| Ac <| Af <| Cj (σ := ⟨_, _⟩) (by rfl) hoR2 (.s <| .s <| .k <| .k <| .z) .last fun F56 hF57 hz58 => ?_
         replace hX := hX.mono hF57
         replace hFG := Heap.le_trans hFG hF57
         replace hz11 := hF57 _ _ hz11
         refine WC_pickB (.one (.here) <| .one (.here) <| .blk (.here) <| .lastb (.here)) ?_
         have hrn := hoR2.sl (fun _ => rfl) hz58 (by simp; omega)
         refine Cj (σ := ⟨_, _⟩) (by rfl) hoE2 (.s <| .s <| .k <| .z) .last fun F59 hF60 hz61 => ?_
         replace hX := hX.mono hF60
         replace hFG := Heap.le_trans hFG hF60
         replace hrn := hrn.mono hF60
         replace hz11 := hF60 _ _ hz11
         refine WC_pickB (.one (.here) <| .one (.here) <| .lastb (.here)) ?_
         have hen := hoE2.sl (fun _ => rfl) hz61 (by simp; omega)
         refine B9 (i := 0) rfl hb41 (.here) fun F62 hF63 hz15 => ?_
         replace hX := hX.mono hF63
         replace hFG := Heap.le_trans hFG hF63
         replace hrn := hrn.mono hF63
         replace hen := hen.mono hF63
         replace hz11 := hF63 _ _ hz11
         have hXm : StmX _ _ _ _ _ _ (setS s x p ((k : Int) + 1)) := ⟨hX.r.set hen hrn, hz15⟩
         by_cases hpl : decide (placeN (setS s x p ((k : Int) + 1)) l p = placeN s l p) = true
         ·
          have hrb : readB s l x p k = true := by unfold readB; rw [hkn, hpl]; rfl
          refine Ai fun ds => Aa rfl (A8 B0 (Bl rfl <| A2 rfl <| Aq rfl <| Aj rfl <| Bl rfl <| A5 rfl <| Aq rfl <| Am rfl <| Ab) rfl rfl (Cm hz11)) ?_
          refine Aa rfl (Ag (Bl rfl <| A2 rfl <| Aq rfl <| Am rfl <| Aj rfl <| Bl rfl <| A2 rfl <| A1 rfl <| Aq rfl <| Ak rfl)) ?_
          refine Bx rfl (Ba bd_82 Az (.cons (Bl rfl <| A1 rfl <| Am rfl <| Ab) (.cons (Am rfl <| Ab) (.cons (Ab) .nil))) (D2 hXm ht (by rw [Di]; exact hll) hvm hp) (fun _ _ h => h)) ?_
          refine Aa rfl (Ag (Bl rfl <| A2 rfl <| A1 rfl <| Am rfl <| Aj rfl <| A5 rfl <| Aq rfl <| Am rfl <| Ab)) ?_
          refine Aa rfl (Bw (Am rfl <| Ab) (Ab)) ?_
          refine Ah <| Ac <| Ar (Ab) hpl ?_
          refine Ai fun ds => Aa rfl (Ag (Bl rfl <| A2 rfl <| A1 rfl <| Aq rfl <| Am rfl <| At rfl hs8)) ?_
          refine Aa rfl (Ag (Bl rfl <| A2 rfl <| A1 rfl <| Am rfl <| Ab)) ?_
          refine Aa rfl (Bt (Ab) Ad rfl (by omega) (by omega)) ?_
          refine Bg rfl (B7 Bj C9 rfl (.cons (Ab) .nil) rfl rfl (by decide) (by simp [Value.oneCell']) fun b64 hb64 nb64 => ?_)
          refine B8 (i := 0) rfl hb64 .here fun F65 hF66 hz67 => ?_
          replace hFG := Heap.le_trans hFG hF66
          have hsl68 := C0 hz67
          refine Bg rfl (Cg Bj el_3 (Aq rfl <| Am rfl <| Ab) ho (Ab) hsl68.srcInt (by simp only [List.length_singleton]; omega) (by simp only [List.length_singleton]; omega) (.s <| .z) .last fun v69 R70 ho71 => ?_)
          have ho2 := ho71.snoc (x := (k : Int) + 1) rfl rfl
          refine Aa rfl (Ae (Ab)) ?_
          refine Ah <| Bb <| Ac <| Ai fun ds => Aa rfl (Bt (Bl rfl <| A2 rfl <| A5 rfl <| A1 rfl <| Am rfl <| At rfl hs62) Ad rfl (by omega) (by omega)) ?_
          refine Aa rfl (Ag (Ab)) ?_
          refine Ah <| Ac ⟨_, m - 1, Off.eq (ou32 rfl <| C8 rfl <| D1 rfl <| Es rfl <| ou2 rfl <| Dy rfl <| Bf), by omega, ?_⟩
          exact ⟨_, hFG, k + 1, by omega, (Ab), _, _, (Aq rfl <| Ab), by rw [readTo_succ, if_pos hrb]; exact ho2, rfl⟩
         ·
          replace hpl : decide (placeN (setS s x p ((k : Int) + 1)) l p = placeN s l p) = false := by simpa using hpl
          have hrb : readB s l x p k = false := by unfold readB; rw [hpl]; simp
          refine Ai fun ds => Aa rfl (A8 B0 (Bl rfl <| A2 rfl <| Aq rfl <| Aj rfl <| Bl rfl <| A5 rfl <| Aq rfl <| Am rfl <| Ab) rfl rfl (Cm hz11)) ?_
          refine Aa rfl (Ag (Bl rfl <| A2 rfl <| Aq rfl <| Am rfl <| Aj rfl <| Bl rfl <| A2 rfl <| A1 rfl <| Aq rfl <| Ak rfl)) ?_
          refine Bx rfl (Ba bd_82 Az (.cons (Bl rfl <| A1 rfl <| Am rfl <| Ab) (.cons (Am rfl <| Ab) (.cons (Ab) .nil))) (D2 hXm ht (by rw [Di]; exact hll) hvm hp) (fun _ _ h => h)) ?_
          refine Aa rfl (Ag (Bl rfl <| A2 rfl <| A1 rfl <| Am rfl <| Aj rfl <| A5 rfl <| Aq rfl <| Am rfl <| Ab)) ?_
          refine Aa rfl (Bw (Am rfl <| Ab) (Ab)) ?_
          refine Ah <| Ac <| Ao (Ab) hpl ?_
          refine Ax <| Bb <| Ac <| Ai fun ds => Aa rfl (Bt (Bl rfl <| A2 rfl <| A1 rfl <| Aq rfl <| Am rfl <| At rfl hs62) Ad rfl (by omega) (by omega)) ?_
          refine Aa rfl (Ag (Ab)) ?_
          refine Ah <| Ac ⟨_, m - 1, Off.eq (ou32 rfl <| C8 rfl <| D1 rfl <| Dy rfl <| Bf), by omega, ?_⟩
          exact ⟨_, hFG, k + 1, by omega, (Ab), _, _, (Bl rfl <| A2 rfl <| A5 rfl <| Am rfl <| At rfl hs8), by rw [readTo_succ, if_neg (by rw [hrb]; simp)]; exact ho, rfl⟩
        ·
         have hrb : readB s l x p k = false := by unfold readB; rw [decide_eq_false (show ¬ s.r x p = 0 by omega), decide_eq_false (show ¬ s.r x p = (k : Int) + 1 by omega)]; rfl
         refine Ar (Ab) (by rw [er]; exact decide_eq_true hke) ?_
         refine Br ?_
         refine Bd (Bh ?_)
         refine Ac <| Ai fun ds => Aa rfl (Bt (A5 rfl <| Aq rfl <| Am rfl <| At rfl hs62) Ad rfl (by omega) (by omega)) ?_
         refine Aa rfl (Ag (Ab)) ?_
         refine Ah <| Ac ⟨_, m - 1, Off.eq (D1 rfl <| Es rfl <| Dy rfl <| Bf), by omega, ?_⟩
         exact ⟨_, hFG, k + 1, by omega, (Ab), _, _, (A5 rfl <| A1 rfl <| Am rfl <| At rfl hs8), by rw [readTo_succ, if_neg (by rw [hrb]; simp)]; exact ho, rfl⟩
       ·
        have hkn : (decide (s.r x p = 0) || decide (s.r x p = (k : Int) + 1)) = true := by rw [decide_eq_true (show s.r x p = 0 by omega)]; rfl
        refine Ax <| Ac <| Af <| A0 <| Af <| Ai fun ds => Aa rfl (Ag (Am rfl <| At rfl hs62)) ?_
        refine Aa rfl (Ae (Ab)) ?_
        refine Ah <| Ac <| Af <| Af <| Ai fun ds => Aa rfl (Ag (Aq rfl <| Am rfl <| Aj rfl <| Am rfl <| Ab)) ?_
        refine Aa rfl (C7 (Ab) Ad) ?_
        refine Aa rfl (Ag (Ab)) ?_
        refine Au rfl rfl (Ab) (.inl (congrArg Value.bool (by rw [er]; exact decide_eq_false hk0))) rfl ?_
        refine Au rfl rfl (Am rfl <| Ab) (.inl (congrArg Value.bool (by rw [er]; exact decide_eq_false hk0))) rfl ?_
        refine Au rfl rfl (Aq rfl <| Ab) (.inl (congrArg Value.bool (by rw [er]; exact decide_eq_false hk0))) rfl ?_
        refine Au rfl rfl (Aq rfl <| Am rfl <| Ab) (.inl (congrArg Value.bool (by rw [er]; exact decide_eq_false hk0))) rfl ?_
        refine Aa rfl (Bc (A1 rfl <| Ab) (by rw [er]; exact decide_eq_false hk0) Ad) ?_
        refine Ah <| Ac <| Ao (Ab) rfl ?_
        have hvm := setS_valid (v := (k : Int) + 1) hv hx hp (by omega)
        refine Ax <| Ac <| Af <| Ai fun ds => Aa rfl (Ag (A5 rfl <| Aq rfl <| Am rfl <| Aj rfl <| Bl rfl <| A5 rfl <| Aq rfl <| Ab)) ?_
        refine Aa rfl (Bz (Ab)) ?_
        refine Aa rfl (A8 agg_128 (Ab) rfl rfl (Cm hX.blk)) ?_
        refine Bg rfl (B6 zr_128 rfl fun b72 hb72 nb72 => ?_)
        refine Cc (Ca sz_128 (Ab) (Am rfl <| Ab) (i := 0) rfl rfl rfl rfl hX.ones (.here) ?_)
        refine Ah <| Ac <| Af <| Ai fun ds => Aa rfl (Ag (A5 rfl <| A1 rfl <| Aq rfl <| Am rfl <| Aj rfl <| Bl rfl <| A5 rfl <| Aq rfl <| Ab)) ?_
        refine Aa rfl (Bz (Ab)) ?_
        refine Aa rfl (Al Ce (Ab)) ?_
        refine Aa rfl (Al Bo (Ab)) ?_
        refine Aa rfl (Ap By (Ab) (CellF.own hX.blk rfl).cell) ?_
        refine Bg rfl (x_callNf bd_87 Az (.cons (Ab) .nil) (cloneEd_own hX.r.eds hX.r.one (by omega)) fun v73 F74 R77 hr75 hF76 => ?_)
        replace hX := hX.mono hF76
        replace hrx := hrx.mono hF76
        replace hFG := Heap.le_trans hFG hF76
        replace hle0 := Heap.le_trans hle0 hF76
        replace hz11 := hF76 _ _ hz11
        have hoE := hr75
        refine Aa rfl (Al Ce (A1 rfl <| Aq rfl <| Ab)) ?_
        refine Aa rfl (Al Bo (Ab)) ?_
        refine Ds (.one (.skip <| .here) <| .one (.skip <| .here) <| .blk (.lastS) <| .lastb (.last)) ?_
        refine Cc (Cd sz_23 (Ab) (Aq rfl <| Ab) (i := 0) rfl (.next <| .here) (Own.one hoE) (.here) ?_)
        refine Ah <| Ac <| Af ?_
        have hleS := hle0
        refine Cy (.inl rfl) (fun _ _ h => h) (.cons_cons _ <| .cons_cons _ <| .refl _) [16] (by kernel_rfl) fun ds => ?_
        refine A4 0 rfl (by kernel_rfl) (by kernel_rfl) (by kernel_rfl) (by kernel_rfl) rfl rfl (fun _ h => h.drop (.cons_cons _ <| .cons_cons _ <| .refl _)) (fun _ _ _ h => h) (Al Ce (A5 rfl <| Ab)) ?_
        refine A4 1 rfl (by kernel_rfl) (by kernel_rfl) (by kernel_rfl) (by kernel_rfl) rfl rfl (fun _ h => h.drop (.cons_cons _ <| .cons_cons _ <| .refl _)) (fun _ _ _ h => h) (Al Bo (Ab)) ?_
        refine A4 2 rfl (by kernel_rfl) (by kernel_rfl) (by kernel_rfl) (by kernel_rfl) rfl rfl (fun _ h => h.drop (.cons_cons _ <| .cons_cons _ <| .refl _)) (fun _ _ _ h => h) (Ap By (Ab) (Cell.own 0 rfl rfl)) ?_
        refine A4 3 rfl (by kernel_rfl) (by kernel_rfl) (by kernel_rfl) (by kernel_rfl) rfl rfl (fun _ h => h.drop (.cons_cons _ <| .cons_cons _ <| .refl _)) (fun _ _ _ h => h) (Ag (A2 rfl <| A5 rfl <| Aq rfl <| Aj rfl <| Bl rfl <| A2 rfl <| A1 rfl <| Aq rfl <| Ak rfl)) ?_
        refine A4 4 rfl (by kernel_rfl) (by kernel_rfl) (by kernel_rfl) (by kernel_rfl) rfl rfl (fun _ h => h.drop (.cons_cons _ <| .cons_cons _ <| .refl _)) (fun _ _ _ h => h) (Ag (A2 rfl <| A5 rfl <| Aq rfl <| Am rfl <| Aj rfl <| Bl rfl <| A5 rfl <| Aq rfl <| Ab)) ?_
        refine A4 5 rfl (by kernel_rfl) (by kernel_rfl) (by kernel_rfl) (by kernel_rfl) rfl rfl (fun _ h => h.drop (.cons_cons _ <| .cons_cons _ <| .refl _)) (fun _ _ _ h => h) (Bz (Ab)) ?_
        refine A4 6 rfl (by kernel_rfl) (by kernel_rfl) (by kernel_rfl) (by kernel_rfl) rfl rfl (fun _ h => h.drop (.cons_cons _ <| .cons_cons _ <| .refl _)) (fun _ _ _ h => h) (Al Ce (Ab)) ?_
        refine A4 7 rfl (by kernel_rfl) (by kernel_rfl) (by kernel_rfl) (by kernel_rfl) rfl rfl (fun _ h => h.drop (.cons_cons _ <| .cons_cons _ <| .refl _)) (fun _ _ _ h => h) (Al Bo (Ab)) ?_
        refine A4 8 rfl (by kernel_rfl) (by kernel_rfl) (by kernel_rfl) (by kernel_rfl) rfl rfl (fun _ h => h.drop (.cons_cons _ <| .cons_cons _ <| .refl _)) (fun _ _ _ h => h) (Ap By (Ab) (CellF.own hX.blk rfl).cell) ?_
        refine A4 9 rfl (by kernel_rfl) (by kernel_rfl) (by kernel_rfl) (by kernel_rfl) rfl rfl (fun _ h => h.drop (.cons_cons _ <| .cons_cons _ <| .refl _)) (fun _ _ _ h => h) (Ag (Bl rfl <| Aj rfl <| Bl rfl <| A2 rfl <| A1 rfl <| Aq rfl <| Ak rfl)) ?_
        refine A4 10 rfl (by kernel_rfl) (by kernel_rfl) (by kernel_rfl) (by kernel_rfl) rfl rfl (fun _ h => h.drop (.cons_cons _ <| .cons_cons _ <| .refl _)) (fun _ _ _ h => h) (Be (k := x) B1 (Am rfl <| Ab) hX.r.eds.plain (Ab) rfl hxp) ?_
        refine A4 11 rfl (by kernel_rfl) (by kernel_rfl) (by kernel_rfl) (by kernel_rfl) rfl rfl (fun _ h => h.drop (.cons_cons _ <| .cons_cons _ <| .refl _)) (fun _ _ _ h => h) (Bs Cb (Ab)) ?_
        refine A4 12 rfl (by kernel_rfl) (by kernel_rfl) (by kernel_rfl) (by kernel_rfl) rfl rfl (fun _ h => h.drop (.cons_cons _ <| .cons_cons _ <| .refl _)) (fun _ _ _ h => h) (Ap Ch (Ab) (hX.r.eds.cell hxp rfl)) ?_
        refine WX_x 13 rfl (by kernel_rfl) rfl (x_callNf bd_76 Az (.cons (Ab) .nil) (cloneInt_own hrx (by omega)) fun v78 F79 R82 hr80 hF81 => ⟨fun _ _ _ h => (h.drop (List.sublist_append_of_sublist_right <| .cons_cons _ <| .cons_cons _ <| .refl _)).weak hF81 hleS, ?_⟩)
        replace hX := hX.mono hF81
        replace hFG := Heap.le_trans hFG hF81
        replace hz11 := hF81 _ _ hz11
        have hoR := hr80
        refine A4 14 rfl (by kernel_rfl) (by kernel_rfl) (by kernel_rfl) (by kernel_rfl) rfl rfl (fun _ h => (h.drop (List.sublist_append_of_sublist_right <| .cons_cons _ <| .cons_cons _ <| .refl _)).weak hF81 hleS) (fun _ _ _ h => h) (Be (k := x) B1 (A5 rfl <| Aq rfl <| Am rfl <| Ab) (hoE.plain (by omega)) (A5 rfl <| Aq rfl <| Ab) rfl hxp) ?_
        refine A4 15 rfl (by kernel_rfl) (by kernel_rfl) (by kernel_rfl) (by kernel_rfl) rfl rfl (fun _ h => (h.drop (List.sublist_append_of_sublist_right <| .cons_cons _ <| .cons_cons _ <| .refl _)).weak hF81 hleS) (fun _ _ _ h => h) (Bs Cb (Ab)) ?_
        refine WX_orderB (.one (.skip <| .here) <| .one (.skip <| .here) <| .blk (.skip <| .here) <| .blk (.lastS) <| .lastb (.last)) ?_
        refine WX_x0 16 rfl (by kernel_rfl) (x_storeR sz_26 (Ab) (Aq rfl <| Ab) hoE (by rw [Dp edE_len]; omega) (Own.one hoR) (.s <| .s <| .k <| .z) .more fun R83 ho84 => ⟨(fun h => nomatch h), ?_⟩)
        have hoE2 := ed_own_set (e := (s.ed x).setR p ((k : Int) + 1)) ho84 hxp (by rw [e1]; rfl) (by rw [e1]; rfl) (by rw [e1]; rfl)
        refine C2 (by kernel_rfl) ?_ _
        refine Ac <| Af <| Ai fun ds => Aa rfl (Al Ce (A2 rfl <| A5 rfl <| Ab)) ?_
        refine Aa rfl (Al Bo (Ab)) ?_
        refine Aa rfl (Ap By (Ab) (Cell.own 0 rfl rfl)) ?_
        refine Aa rfl (Ag (Bl rfl <| A5 rfl <| Aq rfl <| Aj rfl <| Bl rfl <| A2 rfl <| A1 rfl <| Aq rfl <| Ak rfl)) ?_
        refine Aa rfl (Be (k := x) B1 (Am rfl <| Ab) (hoE2.plain (by rw [List.length_set]; omega)) (Ab) rfl (by simp; omega)) ?_
        refine Aa rfl (Bs Cb (Ab)) ?_
        refine Aa rfl (Ap Ch (Ab) (own_cell hoE2 (fun p hp => .tail _ (.tail _ (List.mem_append_right _ (List.mem_append_left _ hp)))) (ed_set_get hxp))) ?_
        refine Aa rfl (Ag (Bl rfl <| A5 rfl <| A1 rfl <| Aq rfl <| Aj rfl <| Bl rfl <| A2 rfl <| A1 rfl <| Aq rfl <| Ak rfl)) ?_
        refine Aa rfl (Ag (Bl rfl <| A5 rfl <| A1 rfl <| Ab)) ?_
        refine Aa rfl (Bt (Ab) Ad rfl (by omega) (by omega)) ?_
        refine Aa rfl (Be (k := p) Bj (Aq rfl <| Am rfl <| Ab) (hoR.plain (by omega)) (Aq rfl <| Ab) rfl hpx) ?_
        refine Cc (x_storeR sz_3 (Ab) (Am rfl <| Ab) hoR (by rw [Dp (enc := intE) (s := 1) (fun _ => rfl)]; omega) rfl (.s <| .s <| .k <| .k <| .z) .last fun R85 ho86 => ?_)
        have hoR2 := ho86
        rw [show p * 1 = p * 1 + 0 from rfl, int_flat_set hpx] at hoR2
        replace hoR2 := hoR2.to (k' := ((s.ed x).rd.set p ((k : Int) + 1)).length) (by simp)
        refine Ah <| Ac <| Af <| Cj (σ := ⟨_, _⟩) (by rfl) hoR2 (.s <| .s <| .k <| .k <| .z) .last fun F87 hF88 hz89 => ?_
        replace hX := hX.mono hF88
        replace hFG := Heap.le_trans hFG hF88
        replace hz11 := hF88 _ _ hz11
        refine WC_pickB (.one (.here) <| .one (.here) <| .blk (.here) <| .lastb (.here)) ?_
        have hrn := hoR2.sl (fun _ => rfl) hz89 (by simp; omega)
        refine Cj (σ := ⟨_, _⟩) (by rfl) hoE2 (.s <| .s <| .k <| .z) .last fun F90 hF91 hz92 => ?_
        replace hX := hX.mono hF91
        replace hFG := Heap.le_trans hFG hF91
        replace hrn := hrn.mono hF91
        replace hz11 := hF91 _ _ hz11
        refine WC_pickB (.one (.here) <| .one (.here) <| .lastb (.here)) ?_
        have hen := hoE2.sl (fun _ => rfl) hz92 (by simp; omega)
        refine B9 (i := 0) rfl hb72 (.here) fun F93 hF94 hz15 => ?_
        replace hX := hX.mono hF94
        replace hFG := Heap.le_trans hFG hF94
        replace hrn := hrn.mono hF94
        replace hen := hen.mono hF94
        replace hz11 := hF94 _ _ hz11
        have hXm : StmX _ _ _ _ _ _ (setS s x p ((k : Int) + 1)) := ⟨hX.r.set hen hrn, hz15⟩
        by_cases hpl : decide (placeN (setS s x p ((k : Int) + 1)) l p = placeN s l p) = true
        ·
         have hrb : readB s l x p k = true := by unfold readB; rw [hkn, hpl]; rfl
         refine Ai fun ds => Aa rfl (A8 B0 (Bl rfl <| A2 rfl <| Aq rfl <| Aj rfl <| Bl rfl <| A5 rfl <| Aq rfl <| Am rfl <| Ab) rfl rfl (Cm hz11)) ?_
         refine Aa rfl (Ag (Bl rfl <| A2 rfl <| Aq rfl <| Am rfl <| Aj rfl <| Bl rfl <| A2 rfl <| A1 rfl <| Aq rfl <| Ak rfl)) ?_
         refine Bx rfl (Ba bd_82 Az (.cons (Bl rfl <| A1 rfl <| Am rfl <| Ab) (.cons (Am rfl <| Ab) (.cons (Ab) .nil))) (D2 hXm ht (by rw [Di]; exact hll) hvm hp) (fun _ _ h => h)) ?_
         refine Aa rfl (Ag (Bl rfl <| A2 rfl <| A1 rfl <| Am rfl <| Aj rfl <| A5 rfl <| Aq rfl <| Am rfl <| Ab)) ?_
         refine Aa rfl (Bw (Am rfl <| Ab) (Ab)) ?_
         refine Ah <| Ac <| Ar (Ab) hpl ?_
         refine Ai fun ds => Aa rfl (Ag (Bl rfl <| A2 rfl <| A1 rfl <| Aq rfl <| Am rfl <| At rfl hs8)) ?_
         refine Aa rfl (Ag (Bl rfl <| A2 rfl <| A1 rfl <| Am rfl <| Ab)) ?_
         refine Aa rfl (Bt (Ab) Ad rfl (by omega) (by omega)) ?_
         refine Bg rfl (B7 Bj C9 rfl (.cons (Ab) .nil) rfl rfl (by decide) (by simp [Value.oneCell']) fun b95 hb95 nb95 => ?_)
         refine B8 (i := 0) rfl hb95 .here fun F96 hF97 hz98 => ?_
         replace hFG := Heap.le_trans hFG hF97
         have hsl99 := C0 hz98
         refine Bg rfl (Cg Bj el_3 (Aq rfl <| Am rfl <| Ab) ho (Ab) hsl99.srcInt (by simp only [List.length_singleton]; omega) (by simp only [List.length_singleton]; omega) (.s <| .z) .last fun v100 R101 ho102 => ?_)
         have ho2 := ho102.snoc (x := (k : Int) + 1) rfl rfl
         refine Aa rfl (Ae (Ab)) ?_
         refine Ah <| Bb <| Ac <| Ai fun ds => Aa rfl (Bt (Bl rfl <| A2 rfl <| A5 rfl <| A1 rfl <| Am rfl <| At rfl hs62) Ad rfl (by omega) (by omega)) ?_
         refine Aa rfl (Ag (Ab)) ?_
         refine Ah <| Ac ⟨_, m - 1, Off.eq (ou32 rfl <| C8 rfl <| D1 rfl <| Es rfl <| ou2 rfl <| Dy rfl <| Bf), by omega, ?_⟩
         exact ⟨_, hFG, k + 1, by omega, (Ab), _, _, (Aq rfl <| Ab), by rw [readTo_succ, if_pos hrb]; exact ho2, rfl⟩
        ·
         replace hpl : decide (placeN (setS s x p ((k : Int) + 1)) l p = placeN s l p) = false := by simpa using hpl
         have hrb : readB s l x p k = false := by unfold readB; rw [hpl]; simp
         refine Ai fun ds => Aa rfl (A8 B0 (Bl rfl <| A2 rfl <| Aq rfl <| Aj rfl <| Bl rfl <| A5 rfl <| Aq rfl <| Am rfl <| Ab) rfl rfl (Cm hz11)) ?_
         refine Aa rfl (Ag (Bl rfl <| A2 rfl <| Aq rfl <| Am rfl <| Aj rfl <| Bl rfl <| A2 rfl <| A1 rfl <| Aq rfl <| Ak rfl)) ?_
         refine Bx rfl (Ba bd_82 Az (.cons (Bl rfl <| A1 rfl <| Am rfl <| Ab) (.cons (Am rfl <| Ab) (.cons (Ab) .nil))) (D2 hXm ht (by rw [Di]; exact hll) hvm hp) (fun _ _ h => h)) ?_
         refine Aa rfl (Ag (Bl rfl <| A2 rfl <| A1 rfl <| Am rfl <| Aj rfl <| A5 rfl <| Aq rfl <| Am rfl <| Ab)) ?_
         refine Aa rfl (Bw (Am rfl <| Ab) (Ab)) ?_
         refine Ah <| Ac <| Ao (Ab) hpl ?_
         refine Ax <| Bb <| Ac <| Ai fun ds => Aa rfl (Bt (Bl rfl <| A2 rfl <| A1 rfl <| Aq rfl <| Am rfl <| At rfl hs62) Ad rfl (by omega) (by omega)) ?_
         refine Aa rfl (Ag (Ab)) ?_
         refine Ah <| Ac ⟨_, m - 1, Off.eq (ou32 rfl <| C8 rfl <| D1 rfl <| Dy rfl <| Bf), by omega, ?_⟩
         exact ⟨_, hFG, k + 1, by omega, (Ab), _, _, (Bl rfl <| A2 rfl <| A5 rfl <| Am rfl <| At rfl hs8), by rw [readTo_succ, if_neg (by rw [hrb]; simp)]; exact ho, rfl⟩
      ·
       refine Af <| Ai fun ds => Aa rfl (Bv (At rfl hs62) Ad) ?_
       refine Ah <| Ac <| Af <| Ao (Ab) (by first | rfl | exact decide_eq_false (by omega)) ?_
       obtain rfl : k = 3 := by omega
       refine Cj (σ := ⟨_, _⟩) (by rfl) ho (.s <| .z) .last fun F103 hF104 hz105 => ?_
       have hn8 := ho.sl (fun _ => rfl) hz105 (by have := readTo_len (s := s) (l := l) (x := x) (p := p) (k := 3); omega)
       refine Br ?_
       refine Bd <| Bd <| Bh <| Ac <| Af <| Ai fun ds => Aa rfl (Ag (Am rfl <| At rfl hs8)) ?_
       refine Aa rfl (Ae (Ab)) ?_
       refine Aa rfl (Ae Ad) ?_
       refine Ah <| Ac <| A3 <| Aw rfl (.tmp (Am rfl <| Ab) (.tmp (Ab) .nil)) ?_
       rw [readE_ok hre, Int.toNat_natCast, Int.toNat_natCast]
       exact ⟨_, rfl, hn8⟩
   ·
    replace h2 : inB 0 (s.places.length - 1) q = false := by simpa using h2
    refine Ar (Ab) (by simp [h2]) ?_
    refine Af <| Ai fun ds => Aa rfl (Ae Ad) ?_
    refine Aa rfl (Ae Ad) ?_
    refine Ah <| Ac <| A3 <| Bi (A9 ?_)
    refine Aw rfl (.tmp (Am rfl <| Ab) (.tmp (Ab) .nil)) ?_
    rw [readE_bad (readErr_2 hok (by rw [h1, h2]; rfl)) (by decide)]
    exact ⟨_, rfl, Sl.nil⟩
  ·
   replace h1 : inB 0 (s.editions.length - 1) z = false := by simpa using h1
   refine Af <| Ai fun ds => Aa rfl (Al Bo (A5 rfl <| A1 rfl <| Aq rfl <| Am rfl <| Ab)) ?_
   refine Aa rfl (Ap By (Ab) (CellF.own hz4 rfl).cell) ?_
   refine Aa rfl (Bk B1 (Ab) hr.eds.plain) ?_
   refine Aa rfl (q_sub (Ab) Ad rfl (by omega) (by omega)) ?_
   refine Aa rfl (Ag (A2 rfl <| A1 rfl <| Ak rfl)) ?_
   refine Bg rfl (B7 Bj C9 rfl (.cons (Ab) .nil) rfl rfl (by decide) (by simp [Value.oneCell']) fun b106 hb106 nb106 => ?_)
   refine B8 (i := 0) rfl hb106 .here fun F107 hF108 hz109 => ?_
   have hsl110 := C0 hz109
   refine Bx rfl (Ba Ec Az (.cons Ad (.cons (Aq rfl <| Ab) (.cons (Ab) .nil))) (Ci _ _ hsl110) (fun _ _ h => h)) ?_
   refine Aa rfl (Ag (Ab)) ?_
   refine Au rfl rfl (Ab) (.inl (congrArg Value.bool (by simp [hlen, h1]))) rfl ?_
   refine Au rfl rfl (Am rfl <| Ab) (.inl (congrArg Value.bool (by simp [hlen, h1]))) rfl ?_
   refine Au rfl rfl (Aq rfl <| Ab) (.inl (congrArg Value.bool (by simp [hlen, h1]))) rfl ?_
   refine Au rfl rfl (Aq rfl <| Am rfl <| Ab) (.inl (congrArg Value.bool (by simp [hlen, h1]))) rfl ?_
   refine Au rfl rfl (A1 rfl <| Ab) (.inl (congrArg Value.bool (by simp [hlen, h1]))) rfl ?_
   refine Au rfl rfl (A1 rfl <| Am rfl <| Ab) (.inl (congrArg Value.bool (by simp [hlen, h1]))) rfl ?_
   refine Au rfl rfl (A1 rfl <| Aq rfl <| Ab) (.inl (congrArg Value.bool (by simp [hlen, h1]))) rfl ?_
   refine Aa rfl (A6 (A1 rfl <| Aq rfl <| Am rfl <| Ab) (by simp [hlen, h1]) Ad) ?_
   refine Aa rfl (Ae (Ab)) ?_
   refine Ah <| Ac <| Ar (Ab) rfl ?_
   refine Af <| Ai fun ds => Aa rfl (Ae Ad) ?_
   refine Aa rfl (Ae Ad) ?_
   refine Ah <| Ac <| A3 <| Bi (A9 ?_)
   refine Aw rfl (.tmp (Am rfl <| Ab) (.tmp (Ab) .nil)) ?_
   rw [readE_bad (readErr_2 hok (by rw [h1]; rfl)) (by decide)]
   exact ⟨_, rfl, Sl.nil⟩
 ·
  refine Af <| Ai fun ds => Bg rfl (B4 (Ak rfl) rfl fun b111 hb111 nb111 => ?_)
  refine Aa rfl (Ae Ad) ?_
  refine Aa rfl (Ae Ad) ?_
  refine Ah <| Ac <| Af <| Ai fun ds => Aa rfl (A8 B2 (Aq rfl <| Ab) rfl rfl (A7 0 rfl)) ?_
  refine Aa rfl (Ag (A1 rfl <| Ak rfl)) ?_
  refine Bg rfl (Cp bd_68 Az (.cons (Am rfl <| Ab) (.cons (Ab) .nil)) (enter_bad hr hl hok) fun v112 F113 hr114 hF115 => ?_)
  obtain ⟨l2, rfl⟩ := hr114
  refine Aa rfl (Ag (Ab)) ?_
  refine Aa rfl (Ay (Ab) rfl) ?_
  refine Aa rfl (Ay (Am rfl <| Ab) rfl) ?_
  refine Aa rfl (Ay (Aq rfl <| Ab) rfl) ?_
  refine Bg rfl (B6 D6 rfl fun b116 hb116 nb116 => ?_)
  refine Aa rfl (Ae (Aq rfl <| Am rfl <| Ab)) ?_
  refine Cc (Ca Ej (Am rfl <| Ab) (Aq rfl <| Am rfl <| Ab) (i := 0) rfl rfl rfl rfl Da (.here) ?_)
  refine Aa rfl (Ae (Aq rfl <| Ab)) ?_
  refine Ah <| Ac <| Af <| A0 <| Af <| Ai fun ds => Aa rfl (Ag (Ab)) ?_
  refine Aa rfl (B3 (Ab) Ad) ?_
  refine Aa rfl (Ae (Ab)) ?_
  refine Ah <| Ac <| Ar (Ab) (decide_eq_true hok) ?_
  refine Af <| Ai fun ds => Aa rfl (Ag (Aq rfl <| Am rfl <| Ab)) ?_
  refine Aa rfl (Ae Ad) ?_
  refine Aa rfl (Ae (Am rfl <| Ab)) ?_
  refine Ah <| Ac <| A3 <| Bi (A9 ?_)
  refine Aw rfl (.tmp (Am rfl <| Ab) (.tmp (Ab) .nil)) ?_
  rw [readE_bad (readErr_1 hok) hok]
  exact ⟨_, rfl, Sl.nil⟩
end Go.Proofs.Ytccogmkhijgelaa
namespace Go.Proofs.Ytccogmkhijgelaa
open Go.RowKit
theorem zr_119 : ZeroT Try.prog 119 (.nilFunc) := C5 (by kernel_rfl)
theorem zr_26 : ZeroT Try.prog 26 (.slice none 0 0) := C5 (by kernel_rfl)
theorem zr_4 : ZeroT Try.prog 4 (.bool false) := C5 (by kernel_rfl)
theorem bd_84 : Body Try.prog 84 := Bp (by kernel_rfl)
theorem one_119 : OneT Try.prog 119 := Du (by kernel_rfl)
theorem one_4 : OneT Try.prog 4 := Du (by kernel_rfl)
theorem sz_119 : SizeT Try.prog 119 1 := Cx (by kernel_rfl)
theorem sz_4 : SizeT Try.prog 4 1 := Cx (by kernel_rfl)
theorem setTo_succ {s : Stm} {p k : Nat} : setTo s p (k + 1) = setTo s p k ||| 2 ^ (s.r k p).toNat := rfl
theorem kindTo_succ {s : Stm} {p k : Nat} : kindTo s p (k + 1) = kindTo s p k + if metB s p (k + 1) = true then 1 else 0 := rfl
theorem cleanS_none {s : Stm} {xs : List (List Int)} {t : List Int} (h : cleanR s xs = none) : cleanR s (xs ++ [t]) = some (uncleanL s t) := by rw [cleanR_snoc, h]; rfl
theorem cleanS_yes {s : Stm} {xs : List (List Int)} {t : List Int} {b : List Nat} (h : cleanR s xs = some b) (h2 : (uncleanL s t).length < b.length ∨ ((uncleanL s t).length = b.length ∧ cmpL (uncleanL s t) b < 0)) : cleanR s (xs ++ [t]) = some (uncleanL s t) := by rw [cleanR_snoc, h]; exact if_pos h2
theorem cleanS_no {s : Stm} {xs : List (List Int)} {t : List Int} {b : List Nat} (h : cleanR s xs = some b) (h2 : ¬ ((uncleanL s t).length < b.length ∨ ((uncleanL s t).length = b.length ∧ cmpL (uncleanL s t) b < 0))) : cleanR s (xs ++ [t]) = some b := by rw [cleanR_snoc, h]; exact if_neg h2
theorem bit_met {s : Stm} {p j : Nat} (hv : ValidT s) (hp : p < s.places.length) : (setTo s p s.editions.length / 2 ^ (j + 1) &&& 1 : Nat) = if metB s p (j + 1) = true then 1 else 0 := by
 have h := setTo_bit (v := j + 1) (fun i hi => (hv.rd i p hi hp).1) (Nat.le_refl s.editions.length)
 rw [Nat.testBit_eq_decide_div_mod_eq] at h
 rw [Nat.and_one_is_mod]
 unfold metB
 rw [← h]
 by_cases h2 : setTo s p s.editions.length / 2 ^ (j + 1) % 2 = 1
 · rw [if_pos (decide_eq_true h2)]; exact h2
 · rw [if_neg (by simpa using h2)]; omega
theorem opt_or {α : Type} (o : Option α) : o = none ∨ ∃ b, o = some b := by cases o with | none => exact .inl rfl | some b => exact .inr ⟨b, rfl⟩
theorem pow_le8T {n : Nat} (h : n ≤ 3) : 2 ^ n ≤ 8 := by
 have : n = 0 ∨ n = 1 ∨ n = 2 ∨ n = 3 := by omega
 rcases this with rfl | rfl | rfl | rfl <;> decide
set_option maxRecDepth 100000 in
theorem clean_top_ok {F : Heap} {vp ve : Value} {ps : List (Value × Edn)} {s : Stm} (hr : StmR F vp ve ps s) : Ok Try.prog 33 [.agg #[vp, ve]].toArray F fun u F' => NatsR F' u (cleanE s) := by
 have hle0 : F.le F := Heap.le_refl _
 refine Ok.intro Try.func33 rfl Try.ntmps33 rfl fun w0 => ?_
 have hL1 := hr.eds.plain.lt
 have hL2 := hr.places.plain.lt
 have hlen := hr.len
 by_cases h0 : (checkT s).2.2 = 0
 ·
  have hv := Cw h0
  have hne := hv.ne
  have hnp := hv.np
  refine Af <| Ai fun ds => Bg rfl (B4 (Ak rfl) rfl fun b1 hb1 nb1 => ?_)
  refine Bg rfl (B6 zr_26 rfl fun b2 hb2 nb2 => ?_)
  refine Aa rfl (Ae Ad) ?_
  refine Ah <| Ac <| Af <| Ai fun ds => Aa rfl (A8 B2 (Aq rfl <| Ab) rfl rfl (A7 1 rfl)) ?_
  refine Bg rfl (Dt bd_65 Az (.cons (Ab) .nil) (open_ok hr h0) fun v3 F4 R7 hr5 hF6 => ?_)
  replace hr := hr.mono hF6
  obtain ⟨ba, kb, rfl, hX, rfl⟩ := hr5
  refine Aa rfl (Ag (Ab)) ?_
  refine Aa rfl (Ay (Ab) rfl) ?_
  refine Aa rfl (Ay (Am rfl <| Ab) rfl) ?_
  refine Aa rfl (Ae (Am rfl <| Ab)) ?_
  refine Aa rfl (Ae (Am rfl <| Ab)) ?_
  refine Ah <| Ac <| Af <| Af <| Ai fun ds => Aa rfl (Ag (Ab)) ?_
  refine Aa rfl (B3 (Ab) Ad) ?_
  refine Ah <| Ac <| Ao (Ab) (by decide) ?_
  refine Ax <| Ac <| Af <| Ai fun ds => Bg rfl (B6 zr_26 rfl fun b8 hb8 nb8 => ?_)
  refine Ah <| Ac <| Af <| Af <| Ai fun ds => Aa rfl (Al Cn (A5 rfl <| A1 rfl <| Ab)) ?_
  refine Aa rfl (Ap Cz (Ab) (Cell.own 2 rfl rfl)) ?_
  refine Aa rfl (Bk C1 (Ab) hr.places.plain) ?_
  refine Aa rfl (Ag Ad) ?_
  refine Ah <| Ac <| A0 <| Bu [6, 7, 9, 10, 11, 29, 30, 31, 32, 33, 34, 35, 36, 37, 38, 39, 40, 41, 42, 43, 44, 45, 46, 47, 48, 49, 50, 51, 52, 53, 54, 55, 56, 57, 58, 59, 60, 61, 62, 63, 64] (fun m e σ => ∃ p : Nat, m + p = s.places.length ∧ e 29 = .int .i64 (p : Int) ∧ ∃ v5 R5, Own 3 1 v5 (iL (needN s) p).length ((iL (needN s) p).flatMap intE) R5 ∧ σ = ⟨F4, (b8, bx 26 [v5]) :: (b2, bx 26 [.slice none 0 0]) :: (b1, bx 25 [vp, ve]) :: (kb, mapO []) :: R5⟩) (s.places.length) ?_ ?_
  · exact ⟨0, by omega, (Ab), _, [], Ef, rfl⟩
  ·
   rintro m e _ ⟨p, hm, hs29, v5, R5, ho, rfl⟩; have hil9 := C6 (f := needN s) (n := p)
   by_cases hp : p < s.places.length
   ·
    refine Af <| Ai fun ds => Aa rfl (Bv (At rfl hs29) (Aj rfl <| Am rfl <| Ab)) ?_
    refine Ah <| Ac <| Af <| Ar (Ab) (by first | rfl | exact decide_eq_true (by omega)) ?_
    refine Ax <| Ac <| Af <| A0 <| Af <| Ai fun ds => Aa rfl (Ag (Am rfl <| At rfl hs29)) ?_
    refine Aa rfl (Ae (Ab)) ?_
    refine Ah <| Ac <| Af <| Ai fun ds => Aa rfl (Ae Ad) ?_
    refine Ah <| Ac <| Af <| Af <| Ai fun ds => Aa rfl (Al Bo (A1 rfl <| Aj rfl <| A2 rfl <| Ab)) ?_
    refine Aa rfl (Ap By (Ab) (Cell.own 2 rfl rfl)) ?_
    refine Aa rfl (Bk B1 (Ab) hr.eds.plain) ?_
    refine Aa rfl (Ag Ad) ?_
    refine Ah <| Ac <| A0 <| Bu [7, 9, 35, 36, 37, 38, 39, 40, 41, 42, 43, 44, 45, 46, 47] (fun m e σ => ∃ i : Nat, m + i = ps.length ∧ e 35 = .int .i64 (i : Int) ∧ e 7 = .int .i64 ((setTo s p i : Nat) : Int) ∧ σ = ⟨F4, (b8, bx 26 [v5]) :: (b2, bx 26 [.slice none 0 0]) :: (b1, bx 25 [vp, ve]) :: (kb, mapO []) :: R5⟩) (ps.length) ?_ ?_
    · exact ⟨0, by omega, (Ab), (A1 rfl <| Ab), rfl⟩
    ·
     rintro m1 e1 _ ⟨i, hm1, ht35, ht7, rfl⟩
     by_cases hli : i < ps.length
     ·
      have hil : i < s.editions.length := by omega
      have hri := hr.rd hli
      have hpi : p < (s.ed i).rd.length := by rw [hv.rdl i hil]; exact hp
      have er := rdT_at hpi
      have hrb := hv.rd i p hil hp
      have hst := setTo_lt (s := s) (p := p) (fun i hi => hv.rd i p hi hp) (k := i) (by omega)
      have hp8 := pow_le8T (n := (s.r i p).toNat) (by omega)
      refine Af <| Ai fun ds => Aa rfl (Bv (At rfl ht35) (Aj rfl <| Am rfl <| Ab)) ?_
      refine Ah <| Ac <| Af <| Ar (Ab) (by first | rfl | exact decide_eq_true (by omega)) ?_
      refine Ax <| Ac <| Af <| A0 <| Af <| Ai fun ds => Aa rfl (Be (k := i) B1 (Am rfl <| Aj rfl <| Aq rfl <| Ab) hr.eds.plain (Am rfl <| At rfl ht35) rfl hli) ?_
      refine Aa rfl (A8 D7 (Ab) rfl rfl (hr.eds.whole hli)) ?_
      refine Bg rfl (B6 zr_64 rfl fun b11 hb11 nb11 => ?_)
      refine Cc (Ca sz_64 (Ab) (Am rfl <| Ab) (i := 0) rfl rfl rfl rfl (edE_one (hr.one _ (List.getElem_mem hli))) (.here) ?_)
      refine Ah <| Ac <| Ai fun ds => Aa rfl (Ag (A1 rfl <| At rfl ht7)) ?_
      refine Aa rfl (Al Cb (Am rfl <| Ab)) ?_
      refine Aa rfl (Ap Ch (Ab) (Cell.own 0 rfl rfl)) ?_
      refine Aa rfl (Ag (A1 rfl <| Aq rfl <| Am rfl <| Aj rfl <| A1 rfl <| Am rfl <| Ab)) ?_
      refine Aa rfl (Be (k := p) Bj (Am rfl <| Ab) hri.plain (Ab) rfl hpi) ?_
      refine Aa rfl (Ap Bn (Ab) (hri.cell1 hpi rfl)) ?_
      refine Aa rfl (q_shl Ad (Ab) (k := (s.r i p).toNat) (by rw [er]; omega) (by omega) (show (1 : Int) * 2 ^ (s.r i p).toNat = ((2 ^ (s.r i p).toNat : Nat) : Int) by simp) (Int.le_trans (by decide) (Int.natCast_nonneg _)) (by omega)) ?_
      refine Aa rfl (q_or (A1 rfl <| Aq rfl <| Ab) (Ab) (m := setTo s p i) (k := 2 ^ (s.r i p).toNat) rfl rfl (by omega) (by omega) rfl) ?_
      refine Aa rfl (Ae (Ab)) ?_
      refine Ah <| Bb <| Ac <| Df (fun _ _ h => h.drop (.cons _ <| .cons_cons _ <| .cons_cons _ <| .cons_cons _ <| .cons_cons _ <| .refl _)) ?_
      refine Ai fun ds => Aa rfl (Bt (A5 rfl <| A1 rfl <| Am rfl <| At rfl ht35) Ad rfl (by omega) (by omega)) ?_
      refine Aa rfl (Ag (Ab)) ?_
      refine Ah <| Ac ⟨_, m1 - 1, Off.eq (D1 rfl <| Es rfl <| ou2 rfl <| Dy rfl <| Bf), by omega, ?_⟩
      exact ⟨i + 1, by omega, (Ab), ((Aq rfl <| Ab)).trans (by rw [setTo_succ]), rfl⟩
     ·
      refine Af <| Ai fun ds => Aa rfl (Bv (At rfl ht35) (Aj rfl <| Am rfl <| Ab)) ?_
      refine Ah <| Ac <| Af <| Ao (Ab) (by first | rfl | exact decide_eq_false (by omega)) ?_
      obtain rfl : i = ps.length := by omega
      have hst := setTo_lt (s := s) (p := p) (fun i hi => hv.rd i p hi hp) (k := ps.length) (by omega)
      refine Br ?_
      refine Bd <| Bd <| Bh <| Ac <| Af <| Ai fun ds => Aa rfl (Ae Ad) ?_
      refine Ah <| Ac <| Af <| Af <| Ai fun ds => Aa rfl (Ag Ad) ?_
      refine Ah <| Ac <| A0 <| Bu [10, 11, 48, 49, 50, 51, 52, 53, 54, 55, 56, 57, 58] (fun m e σ => ∃ j : Nat, m + j = 3 ∧ e 48 = .int .i64 (j : Int) ∧ e 10 = .int .i64 (-1 + kindTo s p j) ∧ σ = ⟨F4, (b8, bx 26 [v5]) :: (b2, bx 26 [.slice none 0 0]) :: (b1, bx 25 [vp, ve]) :: (kb, mapO []) :: R5⟩) (3) ?_ ?_
      · exact ⟨0, rfl, (Ab), (Am rfl <| Ab), rfl⟩
      ·
       rintro m2 e2 _ ⟨j, hm2, hu48, hu10, rfl⟩
       by_cases hl3 : j < 3
       ·
        have hkb := kindTo_bound (s := s) (p := p) j
        have hbt : (setTo s p ps.length / 2 ^ (j + 1) &&& 1 : Nat) = (if metB s p (j + 1) = true then 1 else 0 : Nat) := by have h9 := bit_met (j := j) hv hp; rw [← hlen] at h9; exact h9
        refine Af <| Ai fun ds => Aa rfl (Bv (At rfl hu48) Ad) ?_
        refine Ah <| Ac <| Af <| Ar (Ab) (by first | rfl | exact decide_eq_true (by omega)) ?_
        refine Ax <| Ac <| Af <| A0 <| Af <| Ai fun ds => Aa rfl (Ag (Am rfl <| At rfl hu48)) ?_
        refine Aa rfl (Ae (Ab)) ?_
        refine Ah <| Ac <| Ai fun ds => Aa rfl (Ag (Aq rfl <| Am rfl <| At rfl hu10)) ?_
        refine Aa rfl (Ag (A1 rfl <| Aj rfl <| Aq rfl <| Am rfl <| At rfl ht7)) ?_
        refine Aa rfl (Ag (Aq rfl <| Ab)) ?_
        refine Aa rfl (Bt (Ab) Ad rfl (by omega) (by omega)) ?_
        refine Aa rfl (q_shr (Aq rfl <| Ab) (Ab) (k := j + 1) (by omega) (by show j + 1 < 64; omega) (shr_nat (m := setTo s p ps.length))) ?_
        refine Aa rfl (q_and (Ab) Ad (m := setTo s p ps.length / 2 ^ (j + 1)) (k := 1) rfl rfl (by have := Nat.div_le_self (setTo s p ps.length) (2 ^ (j + 1)); omega) (by omega) rfl) ?_
        refine Aa rfl (Bt (A1 rfl <| Am rfl <| Ab) (Ab) rfl (by rw [hbt]; split <;> omega) (by rw [hbt]; split <;> omega)) ?_
        refine Aa rfl (Ae (Ab)) ?_
        refine Ah <| Bb <| Ac <| Ai fun ds => Aa rfl (Bt (A5 rfl <| Aq rfl <| Am rfl <| At rfl hu48) Ad rfl (by omega) (by omega)) ?_
        refine Aa rfl (Ag (Ab)) ?_
        refine Ah <| Ac ⟨_, m2 - 1, Off.eq (D1 rfl <| Es rfl <| Dy rfl <| Bf), by omega, ?_⟩
        refine ⟨j + 1, by omega, (Ab), ((Aq rfl <| Ab)).trans ?_, rfl⟩
        rw [kindTo_succ, hbt]; congr 1; split <;> omega
       ·
        refine Af <| Ai fun ds => Aa rfl (Bv (At rfl hu48) Ad) ?_
        refine Ah <| Ac <| Af <| Ao (Ab) (by first | rfl | exact decide_eq_false (by omega)) ?_
        obtain rfl : j = 3 := by omega
        have hkb := kindTo_bound (s := s) (p := p) 3
        refine Br ?_
        refine Bd <| Bd <| Bh <| Ac <| Ai fun ds => Aa rfl (Ap Ch (Am rfl <| Aj rfl <| Aq rfl <| Am rfl <| Aj rfl <| A5 rfl <| Aj rfl <| A1 rfl <| Ab) (Cell.own 0 rfl rfl)) ?_
        refine Aa rfl (Ag (Aq rfl <| At rfl hu10)) ?_
        refine Aa rfl (q_max2 Ad (Ab)) ?_
        refine Bg rfl (B7 Bj C9 rfl (.cons (Ab) .nil) rfl rfl (by decide) (by simp [Value.oneCell']) fun b13 hb13 nb13 => ?_)
        refine Bg rfl (Cg Bj el_3 (Aq rfl <| Am rfl <| Ab) ho (Ab) (Dg (s := 1) 0 rfl rfl (by simp [Value.oneCell'])) (by omega) (by omega) (.s <| .s <| .s <| .s <| .s <| .z) .last fun v14 R15 ho16 => ?_)
        have ho2 : Own 3 1 v14 (iL (needN s) (p + 1)).length ((iL (needN s) (p + 1)).flatMap intE) R15 := by have h9 := ho16; rw [iL_succ]; exact h9.snoc (x := needN s p) rfl (by unfold needN kindsN intE; congr 2; omega)
        refine Cc (Cd sz_26 (A1 rfl <| Aq rfl <| Aj rfl <| Aq rfl <| Am rfl <| Aj rfl <| A5 rfl <| Aj rfl <| A1 rfl <| Ab) (Ab) (i := 1) rfl (.here) (Own.one ho2) (.next <| .here) ?_)
        refine Ah <| Bb <| Ac <| Df (fun _ _ h => h.drop (.cons _ <| .cons_cons _ <| .cons_cons _ <| .cons_cons _ <| .cons_cons _ <| .refl _)) ?_
        refine Ai fun ds => Aa rfl (Bt (A1 rfl <| Aq rfl <| Aj rfl <| Aq rfl <| Am rfl <| Aj rfl <| A5 rfl <| At rfl hs29) Ad rfl (by omega) (by omega)) ?_
        refine Aa rfl (Ag (Ab)) ?_
        refine Ah <| Ac ⟨_, m - 1, Off.eq (D1 rfl <| off_in rfl <| ou2 rfl <| Dy rfl <| off_in rfl <| D1 rfl <| Bf), by omega, ?_⟩
        refine ⟨p + 1, by omega, (Ab), _, _, ho2, rfl⟩
   ·
    refine Af <| Ai fun ds => Aa rfl (Bv (At rfl hs29) (Aj rfl <| Am rfl <| Ab)) ?_
    refine Ah <| Ac <| Af <| Ao (Ab) (by first | rfl | exact decide_eq_false (by omega)) ?_
    obtain rfl : p = s.places.length := by omega
    refine Cj (σ := ⟨_, _⟩) (by rfl) ho (.s <| .s <| .s <| .s <| .z) .last fun F17 hF18 hz19 => ?_
    replace hX := hX.mono hF18
    have hnd := ho.sl (fun _ => rfl) hz19 (by rw [C6]; omega)
    refine B9 (i := 0) rfl hb8 (.here) fun F20 hF21 hz5 => ?_
    replace hX := hX.mono hF21
    replace hnd := hnd.mono hF21
    refine Br ?_
    refine Bd <| Bd <| Bh <| Ac <| Af <| Ai fun ds => Bg rfl (B6 zr_4 rfl fun b22 hb22 nb22 => ?_)
    refine Cc (Cd sz_4 (Ab) Ad (i := 0) rfl (.here) rfl (.here) ?_)
    refine Ah <| Ac <| Af <| Ai fun ds => Aa rfl (Ag (Aq rfl <| Aj rfl <| A5 rfl <| Ab)) ?_
    refine Aa rfl (q_makeFunc2 (.cons (Ab) .nil) .nil) ?_
    refine Bg rfl (B6 zr_119 rfl fun b23 hb23 nb23 => ?_)
    refine Cc (Cd sz_119 (Ab) (Am rfl <| Ab) (i := 0) rfl (.here) rfl (.here) ?_)
    refine Ah <| Ac <| Af <| Af <| B9 (i := 0) rfl hb23 (.here) fun F24 hF25 hz13 => ?_
    replace hX := hX.mono hF25
    replace hnd := hnd.mono hF25
    replace hz5 := hF25 _ _ hz5
    refine Ai fun ds => Aa rfl (Ag (A1 rfl <| Am rfl <| Aj rfl <| A5 rfl <| Ab)) ?_
    refine Bg rfl (Cp bd_83 Az (.cons (Ab) .nil) (trees_ok hX) fun v26 F27 hr28 hF29 => ?_)
    replace hX := hX.mono hF29
    replace hnd := hnd.mono hF29
    replace hz5 := hF29 _ _ hz5
    replace hz13 := hF29 _ _ hz13
    obtain ⟨dz, rfl, hzd⟩ := hr28
    refine Ah <| Ac <| A0 <| WC_rangeG rfl (Ab) (bd_116) (trees1_iter hX hv hzd) (Heap.le_refl _) (fun pre G H => ∃ v2, Nats G v2 ((cleanR s pre).getD []) ∧ H = [(b22, bx 4 [.bool (cleanR s pre).isSome]), (b2, bx 26 [v2]), (b1, bx 25 [vp, ve]), (kb, mapO [])]) (fun _ _ _ => False) (fun _ _ _ _ hF h => by obtain ⟨v, h1, h2⟩ := h; exact ⟨v, h1.mono hF, h2⟩) (fun _ _ _ _ _ h => h) ⟨_, Sl.nil, rfl⟩ (fun L D fn tm pre x rest G H1 vs hxs hle hJ hA => ?_) (fun _ _ _ _ h => h.elim) (fun F2 H1 hF2 hJ => ?_)
    ·
     replace hX := hX.mono hle
     replace hnd := hnd.mono hle
     replace hz5 := hle _ _ hz5
     replace hz13 := hle _ _ hz13
     obtain ⟨v2, hv2, rfl⟩ := hJ
     obtain rfl : vs = [treeV x] := hA
     have hxm : x ∈ allTrees s := by rw [hxs]; simp
     obtain ⟨hll, ht, -⟩ := allTrees_mem.1 hxm
     refine ⟨rfl, rfl, fun w1 => ?_⟩
     refine WC_eq (e' := (upd _ 69 (treeV x))) rfl rfl ?_
     refine Cf (.inr (by kernel_rfl)) (fun _ _ h => h) fun ds => ?_
     refine Bg rfl (B6 D6 rfl fun b30 hb30 nb30 => ?_)
     refine WL_order (.cons (.next <| .here) <| .cons (.next <| .here) <| .cons (.here) <| .cons (.here) <| .cons (.here) <| .cons (.here) <| .cons (.here) <| .nil) ?_
     refine Cc (Ca Ej (Ab) (Am rfl <| Ab) (i := 2) rfl rfl rfl rfl Da (.next <| .next <| .here) ?_)
     refine Ah <| Ac ⟨_, rfl, ?_⟩
     refine A0 <| Af <| WC_name (i := 0) rfl (fun _ => .here) fun oL hoL => ?_
     refine Cf (.inr (by kernel_rfl)) (fun _ _ h => h) fun ds => ?_
     refine Aa rfl (Ae Ad) ?_
     refine Ah <| Ac <| Af <| Af <| Cf (.inr (by kernel_rfl)) (fun _ _ h => h) fun ds => ?_
     refine Aa rfl (Ap Ch (A5 rfl <| Aq rfl <| Aj rfl <| A1 rfl <| Ab) (CellF.own hz5 rfl).cell) ?_
     refine Aa rfl (Bk Bj (Ab) hnd.plain) ?_
     refine Aa rfl (Ag Ad) ?_
     refine Ah <| Ac <| A0 <| Bu [15, 16, 17, 72, 73, 74, 75, 76, 77, 78, 79, 80, 81, 82, 83, 84, 85, 86, 87] (fun m e σ => ∃ q : Nat, m + q = s.places.length ∧ e 72 = .int .i64 (q : Int) ∧ ∃ v15 R15, e 15 = v15 ∧ Own 3 1 v15 (selN (uncleanB s x) q).length ((selN (uncleanB s x) q).flatMap natE) R15 ∧ σ = ⟨G, (L, oL) :: (D, openO) :: (b30, bx 100 (treeC x)) :: (b22, bx 4 [.bool (cleanR s pre).isSome]) :: (b2, bx 26 [v2]) :: (b1, bx 25 [vp, ve]) :: (kb, mapO []) :: R15⟩) (s.places.length) ?_ ?_
     · exact ⟨0, by omega, (Ab), _, _, (Aq rfl <| Am rfl <| Ab), Own.nil, rfl⟩
     ·
      rintro m e _ ⟨q, hm, hs72, v15, R15, hs15, ho, rfl⟩; have hsl := Dl (p := (uncleanB s x)) (k := q)
      by_cases hlq : q < s.places.length
      ·
       refine Af <| Cf (.inr (by kernel_rfl)) (fun _ _ h => h) fun ds => ?_
       refine Aa rfl (Bv (At rfl hs72) (Aj rfl <| Am rfl <| Ab)) ?_
       refine Ah <| Ac <| Af <| Ar (Ab) (by first | rfl | exact decide_eq_true (by omega)) ?_
       have hnq : (iL (needN s) s.places.length)[q]'(by rw [C6]; exact hlq) = needN s q := iL_at _
       have hup := unclean_place ht hv hll (p := q)
       by_cases hub : uncleanB s x q = true
       ·
        refine Ax <| Ac <| Af <| A0 <| Af <| Cf (.inr (by kernel_rfl)) (fun _ _ h => h) fun ds => ?_
        refine Aa rfl (Ag (Am rfl <| At rfl hs72)) ?_
        refine Aa rfl (Be (k := q) Bj (Aq rfl <| Aj rfl <| Aq rfl <| Ab) hnd.plain (Aq rfl <| At rfl hs72) rfl (by rw [C6]; exact hlq)) ?_
        refine Aa rfl (Ap Bn (Ab) (hnd.cell1 (by rw [C6]; exact hlq) rfl)) ?_
        refine Aa rfl (Ae (Aq rfl <| Ab)) ?_
        refine Aa rfl (Ae (Am rfl <| Ab)) ?_
        refine Ah <| Ac <| Af <| Cf (.inr (by kernel_rfl)) (fun _ _ h => h) fun ds => ?_
        refine Aa rfl (Ap one_119 (A1 rfl <| Aq rfl <| Aj rfl <| A5 rfl <| Ab) (CellF.own hz13 rfl).cell) ?_
        refine Aa rfl (A8 B0 (A1 rfl <| Aq rfl <| Am rfl <| Aj rfl <| A1 rfl <| Ab) rfl rfl (A7 2 rfl)) ?_
        refine Aa rfl (Ag (Aq rfl <| Am rfl <| Ab)) ?_
        refine Bx rfl (q_callF bd_82 (Aq rfl <| Ab) (.cons (Am rfl <| Ab) (.cons (Ab) .nil)) (D2 hX ht hll hv hlq) (fun _ _ h => h)) ?_
        refine Aa rfl (Ag (A1 rfl <| Ab)) ?_
        refine Aa rfl (B3 (Am rfl <| Ab) (Ab)) ?_
        refine Ah <| Ac <| Ar (Ab) (decide_eq_true (by rw [hnq]; exact hup.2 hub)) ?_
        refine Cf (.inr (by kernel_rfl)) (fun _ _ h => h) fun ds => ?_
        refine Aa rfl (Ag (A5 rfl <| A1 rfl <| At rfl hs15)) ?_
        refine Aa rfl (Ag (A5 rfl <| Ab)) ?_
        refine Bg rfl (B7 Bj C9 rfl (.cons (Ab) .nil) rfl rfl (by decide) (by simp [Value.oneCell']) fun b32 hb32 nb32 => ?_)
        refine Bg rfl (Cg Bj el_3 (Aq rfl <| Ab) ho (Ab) (Dg (s := 1) 0 rfl rfl (by simp [Value.oneCell'])) (by omega) (by omega) (.s <| .s <| .s <| .s <| .s <| .s <| .s <| .s <| .z) .last fun v33 R34 ho35 => ?_)
        have ho2 := ho35.snoc (x := q) rfl rfl
        refine Aa rfl (Ae (Ab)) ?_
        refine Ah <| Bb <| Ac <| Df (fun _ _ h => h.drop (.cons _ <| .cons_cons _ <| .cons_cons _ <| .cons_cons _ <| .cons_cons _ <| .cons_cons _ <| .cons_cons _ <| .cons_cons _ <| .refl _)) ?_
        refine Cf (.inr (by kernel_rfl)) (fun _ _ h => h) fun ds => ?_
        refine Aa rfl (Bt (A2 rfl <| Am rfl <| At rfl hs72) Ad rfl (by omega) (by omega)) ?_
        refine Aa rfl (Ag (Ab)) ?_
        refine Ah <| Ac ⟨_, m - 1, Off.eq (C8 rfl <| ou2 rfl <| Dy rfl <| Bf), by omega, ?_⟩
        exact ⟨q + 1, by omega, (Ab), _, _, (Aq rfl <| Ab), by rw [Db, if_pos hub]; exact ho2, rfl⟩
       ·
        replace hub : uncleanB s x q = false := by simpa using hub
        refine Ax <| Ac <| Af <| A0 <| Af <| Cf (.inr (by kernel_rfl)) (fun _ _ h => h) fun ds => ?_
        refine Aa rfl (Ag (Am rfl <| At rfl hs72)) ?_
        refine Aa rfl (Be (k := q) Bj (Aq rfl <| Aj rfl <| Aq rfl <| Ab) hnd.plain (Aq rfl <| At rfl hs72) rfl (by rw [C6]; exact hlq)) ?_
        refine Aa rfl (Ap Bn (Ab) (hnd.cell1 (by rw [C6]; exact hlq) rfl)) ?_
        refine Aa rfl (Ae (Aq rfl <| Ab)) ?_
        refine Aa rfl (Ae (Am rfl <| Ab)) ?_
        refine Ah <| Ac <| Af <| Cf (.inr (by kernel_rfl)) (fun _ _ h => h) fun ds => ?_
        refine Aa rfl (Ap one_119 (A1 rfl <| Aq rfl <| Aj rfl <| A5 rfl <| Ab) (CellF.own hz13 rfl).cell) ?_
        refine Aa rfl (A8 B0 (A1 rfl <| Aq rfl <| Am rfl <| Aj rfl <| A1 rfl <| Ab) rfl rfl (A7 2 rfl)) ?_
        refine Aa rfl (Ag (Aq rfl <| Am rfl <| Ab)) ?_
        refine Bx rfl (q_callF bd_82 (Aq rfl <| Ab) (.cons (Am rfl <| Ab) (.cons (Ab) .nil)) (D2 hX ht hll hv hlq) (fun _ _ h => h)) ?_
        refine Aa rfl (Ag (A1 rfl <| Ab)) ?_
        refine Aa rfl (B3 (Am rfl <| Ab) (Ab)) ?_
        refine Ah <| Ac <| Ao (Ab) (decide_eq_false (by rw [hnq]; exact fun h => by rw [hup.1 h] at hub; cases hub)) ?_
        refine Ax <| Bb <| Ac <| Cf (.inr (by kernel_rfl)) (fun _ _ h => h) fun ds => ?_
        refine Aa rfl (Bt (A5 rfl <| A1 rfl <| At rfl hs72) Ad rfl (by omega) (by omega)) ?_
        refine Aa rfl (Ag (Ab)) ?_
        refine Ah <| Ac ⟨_, m - 1, Off.eq (D1 rfl <| Es rfl <| ou2 rfl <| Bf), by omega, ?_⟩
        exact ⟨q + 1, by omega, (Ab), _, _, (A5 rfl <| A1 rfl <| Aq rfl <| At rfl hs15), by rw [Db, if_neg (by rw [hub]; simp)]; exact ho, rfl⟩
      ·
       refine Af <| Cf (.inr (by kernel_rfl)) (fun _ _ h => h) fun ds => ?_
       refine Aa rfl (Bv (At rfl hs72) (Aj rfl <| Am rfl <| Ab)) ?_
       refine Ah <| Ac <| Af <| Ao (Ab) (by first | rfl | exact decide_eq_false (by omega)) ?_
       obtain rfl : q = s.places.length := by omega
       refine WC_freezeRM (σ := ⟨_, _⟩) (by intro m hm; simp [keys] at hm ⊢; rcases hm with h | h | h | h | h | h <;> simp [h]) ho (.s <| .s <| .s <| .s <| .s <| .s <| .s <| .z) .last fun F36 hF37 hz38 => ?_
       replace hle := hle.mono hF37
       replace hv2 := hv2.mono hF37
       have hl15 := ho.sl (fun _ => rfl) hz38 (by omega)
       change Nats _ _ (uncleanL s x) at hl15
       rcases opt_or (cleanR s pre) with hcs | ⟨bb, hcs⟩
       ·
        refine Br ?_
        refine Bd <| Bd <| Bh <| Ac <| Af <| Cf (.inr (by kernel_rfl)) (fun _ _ h => h) fun ds => ?_
        refine Aa rfl (Ap one_4 (Am rfl <| Aj rfl <| A5 rfl <| Aq rfl <| Am rfl <| Ab) (Cell.own 3 rfl rfl)) ?_
        refine Aa rfl (Cr (Ab)) ?_
        refine Aa rfl (Ag (Ab)) ?_
        refine Au rfl rfl (Ab) (.inl (congrArg Value.bool (by rw [hcs]; rfl))) rfl ?_
        refine Au rfl rfl (Am rfl <| Ab) (.inl (congrArg Value.bool (by rw [hcs]; rfl))) rfl ?_
        refine Au rfl rfl (Aq rfl <| Ab) (.inl (congrArg Value.bool (by rw [hcs]; rfl))) rfl ?_
        refine Au rfl rfl (Aq rfl <| Am rfl <| Ab) (.inl (congrArg Value.bool (by rw [hcs]; rfl))) rfl ?_
        refine Au rfl rfl (A1 rfl <| Ab) (.inl (congrArg Value.bool (by rw [hcs]; rfl))) rfl ?_
        refine Aa rfl (A6 (A1 rfl <| Am rfl <| Ab) (by rw [hcs]; rfl) Ad) ?_
        refine Aa rfl (Ag (Ab)) ?_
        refine Au rfl rfl (Ab) (.inl (congrArg Value.bool rfl)) rfl ?_
        refine Au rfl rfl (Am rfl <| Ab) (.inl (congrArg Value.bool rfl)) rfl ?_
        refine Au rfl rfl (Aq rfl <| Ab) (.inl (congrArg Value.bool rfl)) rfl ?_
        refine Au rfl rfl (Aq rfl <| Am rfl <| Ab) (.inl (congrArg Value.bool rfl)) rfl ?_
        refine Au rfl rfl (A1 rfl <| Ab) (.inl (congrArg Value.bool rfl)) rfl ?_
        refine Au rfl rfl (A1 rfl <| Am rfl <| Ab) (.inl (congrArg Value.bool rfl)) rfl ?_
        refine Au rfl rfl (Ab) (.inr rfl) rfl ?_
        refine Au rfl rfl (Am rfl <| Ab) (.inr rfl) rfl ?_
        refine Au rfl rfl (Aq rfl <| Ab) (.inr rfl) rfl ?_
        refine Au rfl rfl (Aq rfl <| Am rfl <| Ab) (.inr rfl) rfl ?_
        refine Au rfl rfl (A5 rfl <| Aq rfl <| Ab) (.inl (congrArg Value.bool rfl)) rfl ?_
        refine Aa rfl (A6 (A5 rfl <| Aq rfl <| Am rfl <| Ab) rfl Ad) ?_
        refine Ah <| Ac <| Ar (Ab) rfl ?_
        subst hoL
        refine Cf (.inr (by kernel_rfl)) (fun _ _ h => h) fun ds => ?_
        refine Aa rfl (Ag (A2 rfl <| A1 rfl <| Aq rfl <| Am rfl <| At rfl hs15)) ?_
        refine Cc (Cd sz_26 (A2 rfl <| A5 rfl <| Aj rfl <| A5 rfl <| A1 rfl <| Am rfl <| Aj rfl <| A5 rfl <| A1 rfl <| Aq rfl <| Am rfl <| Ab) (Ab) (i := 4) rfl (.here) (by first | rfl | exact hl15.plain.one) (.next <| .next <| .next <| .next <| .here) ?_)
        refine Cc (Cd sz_4 (A2 rfl <| A5 rfl <| Aj rfl <| A5 rfl <| Aq rfl <| Am rfl <| Ab) Ad (i := 3) rfl (.here) (by first | rfl | exact hl15.plain.one) (.next <| .next <| .next <| .here) ?_)
        refine Ah <| Bb ?_
        refine Eu (.one (.here) <| .one (.here) <| .one (.next <| .here) <| .one (.next <| .here) <| .one (.next <| .here) <| .one (.next <| .here) <| .nil) ?_
        refine .inl ⟨rfl, _, rfl, hle, ?_⟩
        exact ⟨_, by rw [cleanS_none hcs]; exact hl15, by rw [cleanS_none hcs]; first | done | rfl⟩
       ·
        have hv2b := hv2
        rw [hcs] at hv2b
        replace hv2b : Nats _ v2 bb := hv2b
        have hbl := hv2b.plain.lt
        refine Br ?_
        refine Bd <| Bd <| Bh <| Ac <| Af <| Cf (.inr (by kernel_rfl)) (fun _ _ h => h) fun ds => ?_
        refine Aa rfl (Ap one_4 (Am rfl <| Aj rfl <| A5 rfl <| Aq rfl <| Am rfl <| Ab) (Cell.own 3 rfl rfl)) ?_
        refine Aa rfl (Cr (Ab)) ?_
        refine Aa rfl (Ag (Ab)) ?_
        refine As rfl rfl (Ab) (by rw [hcs]; rfl) ?_
        refine Aa rfl (Ag (A1 rfl <| At rfl hs15)) ?_
        refine As rfl rfl (Am rfl <| Ab) (by rw [hcs]; rfl) ?_
        refine Aa rfl (Bk Bj (Ab) hl15.plain) ?_
        refine As rfl rfl (Aq rfl <| Ab) (by rw [hcs]; rfl) ?_
        refine Aa rfl (Ap Ch (A1 rfl <| Aq rfl <| Aj rfl <| A5 rfl <| A1 rfl <| Am rfl <| Aj rfl <| A5 rfl <| A1 rfl <| Aq rfl <| Am rfl <| Ab) (Cell.own 4 rfl rfl)) ?_
        refine As rfl rfl (Aq rfl <| Am rfl <| Ab) (by rw [hcs]; rfl) ?_
        refine Aa rfl (Bk Bj (Ab) hv2.plain) ?_
        refine As rfl rfl (A1 rfl <| Ab) (by rw [hcs]; rfl) ?_
        refine Aa rfl (Bv (Aq rfl <| Ab) (Ab)) ?_
        refine Aa rfl (Bc (A1 rfl <| Am rfl <| Ab) (by rw [hcs]; rfl) (Ab)) ?_
        refine Aa rfl (Ag (Ab)) ?_
        by_cases h1 : (uncleanL s x).length < bb.length
        ·
         refine Au rfl rfl (Ab) (.inl (congrArg Value.bool (decide_eq_true (by rw [hcs]; show (_ : Int) < (bb.length : Int); omega)))) rfl ?_
         refine Au rfl rfl (Am rfl <| Ab) (.inl (congrArg Value.bool (decide_eq_true (by rw [hcs]; show (_ : Int) < (bb.length : Int); omega)))) rfl ?_
         refine Au rfl rfl (Aq rfl <| Ab) (.inl (congrArg Value.bool (decide_eq_true (by rw [hcs]; show (_ : Int) < (bb.length : Int); omega)))) rfl ?_
         refine Au rfl rfl (Aq rfl <| Am rfl <| Ab) (.inl (congrArg Value.bool (decide_eq_true (by rw [hcs]; show (_ : Int) < (bb.length : Int); omega)))) rfl ?_
         refine Au rfl rfl (A1 rfl <| Ab) (.inl (congrArg Value.bool (decide_eq_true (by rw [hcs]; show (_ : Int) < (bb.length : Int); omega)))) rfl ?_
         refine Au rfl rfl (A1 rfl <| Am rfl <| Ab) (.inl (congrArg Value.bool (decide_eq_true (by rw [hcs]; show (_ : Int) < (bb.length : Int); omega)))) rfl ?_
         refine Au rfl rfl (Ab) (.inr rfl) rfl ?_
         refine Au rfl rfl (Am rfl <| Ab) (.inr rfl) rfl ?_
         refine Au rfl rfl (Aq rfl <| Ab) (.inr rfl) rfl ?_
         refine Au rfl rfl (Aq rfl <| Am rfl <| Ab) (.inr rfl) rfl ?_
         refine Au rfl rfl (A5 rfl <| Aq rfl <| Ab) (.inl (congrArg Value.bool (decide_eq_true (by rw [hcs]; show (_ : Int) < (bb.length : Int); omega)))) rfl ?_
         refine Aa rfl (A6 (A5 rfl <| Aq rfl <| Am rfl <| Ab) (decide_eq_true (by rw [hcs]; show (_ : Int) < (bb.length : Int); omega)) Ad) ?_
         refine Ah <| Ac <| Ar (Ab) rfl ?_
         subst hoL
         refine Cf (.inr (by kernel_rfl)) (fun _ _ h => h) fun ds => ?_
         refine Aa rfl (Ag (A2 rfl <| A1 rfl <| Aq rfl <| Am rfl <| At rfl hs15)) ?_
         refine Cc (Cd sz_26 (A2 rfl <| A5 rfl <| Aj rfl <| A5 rfl <| A1 rfl <| Am rfl <| Aj rfl <| A5 rfl <| A1 rfl <| Aq rfl <| Am rfl <| Ab) (Ab) (i := 4) rfl (.here) (by first | rfl | exact hl15.plain.one) (.next <| .next <| .next <| .next <| .here) ?_)
         refine Cc (Cd sz_4 (A2 rfl <| A5 rfl <| Aj rfl <| A5 rfl <| Aq rfl <| Am rfl <| Ab) Ad (i := 3) rfl (.here) (by first | rfl | exact hl15.plain.one) (.next <| .next <| .next <| .here) ?_)
         refine Ah <| Bb ?_
         refine Eu (.one (.here) <| .one (.here) <| .one (.next <| .here) <| .one (.next <| .here) <| .one (.next <| .here) <| .one (.next <| .here) <| .nil) ?_
         refine .inl ⟨rfl, _, rfl, hle, ?_⟩
         exact ⟨_, by rw [cleanS_yes hcs (.inl h1)]; exact hl15, by rw [cleanS_yes hcs (.inl h1)]; first | done | rfl⟩
        ·
         refine As rfl rfl (Ab) (decide_eq_false (by rw [hcs]; show ¬ (_ : Int) < (bb.length : Int); omega)) ?_
         refine Aa rfl (Ag (A5 rfl <| Aq rfl <| Am rfl <| At rfl hs15)) ?_
         refine As rfl rfl (Am rfl <| Ab) (decide_eq_false (by rw [hcs]; show ¬ (_ : Int) < (bb.length : Int); omega)) ?_
         refine Aa rfl (Bk Bj (Ab) hl15.plain) ?_
         refine As rfl rfl (Aq rfl <| Ab) (decide_eq_false (by rw [hcs]; show ¬ (_ : Int) < (bb.length : Int); omega)) ?_
         refine Aa rfl (Ap Ch (A5 rfl <| A1 rfl <| Am rfl <| Aj rfl <| A5 rfl <| A1 rfl <| Am rfl <| Aj rfl <| A5 rfl <| A1 rfl <| Aq rfl <| Am rfl <| Ab) (Cell.own 4 rfl rfl)) ?_
         refine As rfl rfl (Aq rfl <| Am rfl <| Ab) (decide_eq_false (by rw [hcs]; show ¬ (_ : Int) < (bb.length : Int); omega)) ?_
         refine Aa rfl (Bk Bj (Ab) hv2.plain) ?_
         refine As rfl rfl (A1 rfl <| Ab) (decide_eq_false (by rw [hcs]; show ¬ (_ : Int) < (bb.length : Int); omega)) ?_
         refine Aa rfl (Bw (Aq rfl <| Ab) (Ab)) ?_
         refine As rfl rfl (A1 rfl <| Am rfl <| Ab) (decide_eq_false (by rw [hcs]; show ¬ (_ : Int) < (bb.length : Int); omega)) ?_
         refine Aa rfl (Ag (Ab)) ?_
         by_cases h2 : (uncleanL s x).length = bb.length
         ·
          refine As rfl rfl (Ab) (decide_eq_true (by rw [hcs]; show (_ : Int) = (bb.length : Int); omega)) ?_
          refine Aa rfl (Ag (A2 rfl <| Am rfl <| At rfl hs15)) ?_
          refine As rfl rfl (Am rfl <| Ab) (decide_eq_true (by rw [hcs]; show (_ : Int) = (bb.length : Int); omega)) ?_
          refine Aa rfl (Ap Ch (A2 rfl <| Aq rfl <| Aj rfl <| A5 rfl <| A1 rfl <| Am rfl <| Aj rfl <| A5 rfl <| A1 rfl <| Aq rfl <| Am rfl <| Ab) (Cell.own 4 rfl rfl)) ?_
          refine As rfl rfl (Aq rfl <| Ab) (decide_eq_true (by rw [hcs]; show (_ : Int) = (bb.length : Int); omega)) ?_
          refine Bx rfl (Ba bd_84 Az (.cons (Am rfl <| Ab) (.cons (Ab) .nil)) (compare_ok hl15 hv2) (fun _ _ h => h)) ?_
          refine As rfl rfl (Aq rfl <| Am rfl <| Ab) (decide_eq_true (by rw [hcs]; show (_ : Int) = (bb.length : Int); omega)) ?_
          refine Aa rfl (Bv (Ab) Ad) ?_
          refine As rfl rfl (A5 rfl <| Aq rfl <| Ab) (decide_eq_false (by rw [hcs]; show ¬ (_ : Int) < (bb.length : Int); omega)) ?_
          refine Aa rfl (A6 (A1 rfl <| Ab) (decide_eq_true (by rw [hcs]; show (_ : Int) = (bb.length : Int); omega)) (Ab)) ?_
          refine Aa rfl (Bc (A5 rfl <| Aq rfl <| Am rfl <| Ab) (decide_eq_false (by rw [hcs]; show ¬ (_ : Int) < (bb.length : Int); omega)) (Ab)) ?_
          refine Ah <| Ac ?_
          by_cases h3 : cmpL (uncleanL s x) bb < 0
          ·
           refine Ar (Ab) (by rw [hcs]; exact decide_eq_true h3) ?_
           subst hoL
           refine Cf (.inr (by kernel_rfl)) (fun _ _ h => h) fun ds => ?_
           refine Aa rfl (Ag (A2 rfl <| A1 rfl <| Aq rfl <| Am rfl <| At rfl hs15)) ?_
           refine Cc (Cd sz_26 (A2 rfl <| A5 rfl <| Aj rfl <| A5 rfl <| A1 rfl <| Am rfl <| Aj rfl <| A5 rfl <| A1 rfl <| Aq rfl <| Am rfl <| Ab) (Ab) (i := 4) rfl (.here) (by first | rfl | exact hl15.plain.one) (.next <| .next <| .next <| .next <| .here) ?_)
           refine Cc (Cd sz_4 (A2 rfl <| A5 rfl <| Aj rfl <| A5 rfl <| Aq rfl <| Am rfl <| Ab) Ad (i := 3) rfl (.here) (by first | rfl | exact hl15.plain.one) (.next <| .next <| .next <| .here) ?_)
           refine Ah <| Bb ?_
           refine Eu (.one (.here) <| .one (.here) <| .one (.next <| .here) <| .one (.next <| .here) <| .one (.next <| .here) <| .one (.next <| .here) <| .nil) ?_
           refine .inl ⟨rfl, _, rfl, hle, ?_⟩
           exact ⟨_, by rw [cleanS_yes hcs (.inr ⟨h2, h3⟩)]; exact hl15, by rw [cleanS_yes hcs (.inr ⟨h2, h3⟩)]; first | done | rfl⟩
          ·
           refine Ao (Ab) (by rw [hcs]; exact decide_eq_false h3) ?_
           subst hoL
           refine Ax <| Bb ?_
           refine Eu (.one (.here) <| .one (.here) <| .one (.next <| .here) <| .one (.next <| .here) <| .one (.next <| .here) <| .one (.next <| .here) <| .nil) ?_
           refine .inl ⟨rfl, _, rfl, hle, ?_⟩
           exact ⟨_, by rw [cleanS_no hcs (fun h => h.elim h1 (fun h => h3 h.2))]; exact hv2b, by rw [cleanS_no hcs (fun h => h.elim h1 (fun h => h3 h.2)), hcs]; first | done | rfl⟩
         ·
          refine Au rfl rfl (Ab) (.inl (congrArg Value.bool (decide_eq_false (by rw [hcs]; show ¬ (_ : Int) = (bb.length : Int); omega)))) rfl ?_
          refine Au rfl rfl (Am rfl <| Ab) (.inl (congrArg Value.bool (decide_eq_false (by rw [hcs]; show ¬ (_ : Int) = (bb.length : Int); omega)))) rfl ?_
          refine Au rfl rfl (Aq rfl <| Ab) (.inl (congrArg Value.bool (decide_eq_false (by rw [hcs]; show ¬ (_ : Int) = (bb.length : Int); omega)))) rfl ?_
          refine Au rfl rfl (Aq rfl <| Am rfl <| Ab) (.inl (congrArg Value.bool (decide_eq_false (by rw [hcs]; show ¬ (_ : Int) = (bb.length : Int); omega)))) rfl ?_
          refine As rfl rfl (A5 rfl <| Aq rfl <| Ab) (decide_eq_false (by rw [hcs]; show ¬ (_ : Int) < (bb.length : Int); omega)) ?_
          refine Aa rfl (Bc (A1 rfl <| Ab) (decide_eq_false (by rw [hcs]; show ¬ (_ : Int) = (bb.length : Int); omega)) Ad) ?_
          refine Aa rfl (Bc (A5 rfl <| Aq rfl <| Am rfl <| Ab) (decide_eq_false (by rw [hcs]; show ¬ (_ : Int) < (bb.length : Int); omega)) (Ab)) ?_
          refine Ah <| Ac <| Ao (Ab) rfl ?_
          subst hoL
          refine Ax <| Bb ?_
          refine Eu (.one (.here) <| .one (.here) <| .one (.next <| .here) <| .one (.next <| .here) <| .one (.next <| .here) <| .one (.next <| .here) <| .nil) ?_
          refine .inl ⟨rfl, _, rfl, hle, ?_⟩
          exact ⟨_, by rw [cleanS_no hcs (fun h => h.elim h1 (fun h => h2 h.1))]; exact hv2b, by rw [cleanS_no hcs (fun h => h.elim h1 (fun h => h2 h.1)), hcs]; first | done | rfl⟩
    obtain ⟨v2, hv2, rfl⟩ := hJ
    refine Bb <| Ac ?_
    rcases opt_or (cleanR s (allTrees s)) with hcs | ⟨bb, hcs⟩
    ·
     refine Af <| Af <| Ai fun ds => Aa rfl (Ap one_4 (A1 rfl <| Am rfl <| Ab) (Cell.own 0 rfl rfl)) ?_
     refine Aa rfl (Cr (Ab)) ?_
     refine Ah <| Ac <| Ar (Ab) (by rw [hcs]; rfl) ?_
     refine Af <| Ai fun ds => Cc (Cd sz_26 (A5 rfl <| Am rfl <| Aj rfl <| A5 rfl <| A1 rfl <| Aq rfl <| Am rfl <| Ab) Ad (i := 1) rfl (.here) rfl (.next <| .here) ?_)
     refine Aa rfl (Ae Ad) ?_
     refine Ah <| Ac <| A3 <| A9 ?_
     refine Aw rfl (.one Ch (A5 rfl <| Aq rfl <| Aj rfl <| A5 rfl <| A1 rfl <| Aq rfl <| Am rfl <| Ab) (Cell.own 1 rfl rfl) (.tmp (Ab) .nil)) ?_
     rw [cleanE_none h0 hcs]
     exact ⟨_, rfl, Sl.nil⟩
    ·
     refine Af <| Af <| Ai fun ds => Aa rfl (Ap one_4 (A1 rfl <| Am rfl <| Ab) (Cell.own 0 rfl rfl)) ?_
     refine Aa rfl (Cr (Ab)) ?_
     refine Ah <| Ac <| Ao (Ab) (by rw [hcs]; rfl) ?_
     refine Ax <| Ac <| Af <| Ai fun ds => Aa rfl (Ap Ch (A5 rfl <| Am rfl <| Aj rfl <| A5 rfl <| A1 rfl <| Aq rfl <| Am rfl <| Ab) (Cell.own 1 rfl rfl)) ?_
     refine Cc (Cd sz_26 (A5 rfl <| Aq rfl <| Aj rfl <| A5 rfl <| A1 rfl <| Aq rfl <| Am rfl <| Ab) (Ab) (i := 1) rfl (.here) hv2.plain.one (.next <| .here) ?_)
     refine Aa rfl (Ae Ad) ?_
     refine Ah <| Ac <| A3 <| Aw rfl (.one Ch (A5 rfl <| Aq rfl <| Am rfl <| Aj rfl <| A5 rfl <| A1 rfl <| Aq rfl <| Am rfl <| Ab) (Cell.own 1 rfl rfl) (.tmp (Ab) .nil)) ?_
     rw [cleanE_some h0 hcs]
     rw [hcs] at hv2
     exact ⟨_, rfl, hv2⟩
 ·
  refine Af <| Ai fun ds => Bg rfl (B4 (Ak rfl) rfl fun b39 hb39 nb39 => ?_)
  refine Bg rfl (B6 zr_26 rfl fun b40 hb40 nb40 => ?_)
  refine Aa rfl (Ae Ad) ?_
  refine Ah <| Ac <| Af <| Ai fun ds => Aa rfl (A8 B2 (Aq rfl <| Ab) rfl rfl (A7 1 rfl)) ?_
  refine Bx rfl (Ba bd_65 Az (.cons (Ab) .nil) (open_bad hr h0) (fun _ _ h => h)) ?_
  refine Aa rfl (Ag (Ab)) ?_
  refine Aa rfl (Ay (Ab) rfl) ?_
  refine Aa rfl (Ay (Am rfl <| Ab) rfl) ?_
  refine Aa rfl (Ae (Am rfl <| Ab)) ?_
  refine Aa rfl (Ae (Am rfl <| Ab)) ?_
  refine Ah <| Ac <| Af <| Af <| Ai fun ds => Aa rfl (Ag (Ab)) ?_
  refine Aa rfl (B3 (Ab) Ad) ?_
  refine Ah <| Ac <| Ar (Ab) (decide_eq_true h0) ?_
  refine Af <| Ai fun ds => Aa rfl (Ag (Aq rfl <| Ab)) ?_
  refine Cc (Cd sz_26 (A5 rfl <| Aq rfl <| Am rfl <| Ab) Ad (i := 0) rfl (.here) rfl (.here) ?_)
  refine Aa rfl (Ae (Ab)) ?_
  refine Ah <| Ac <| A3 <| A9 ?_
  refine Aw rfl (.one Ch (A5 rfl <| A1 rfl <| Ab) (Cell.own 0 rfl rfl) (.tmp (Ab) .nil)) ?_
  rw [cleanE_bad h0]
  exact ⟨_, rfl, Sl.nil⟩
end Go.Proofs.Ytccogmkhijgelaa
namespace Go.Proofs.Ytccogmkhijgelaa
open Go.RowKit
def plA : Plc := ⟨⟨#[97]⟩, 0⟩
def plB : Plc := ⟨⟨#[98]⟩, 1⟩
def plC : Plc := ⟨⟨#[99]⟩, 0⟩
def edQ1 : Edn := ⟨⟨#[113, 49]⟩, 1600, 1600, [1, 1, 1]⟩
def edQ2 : Edn := ⟨⟨#[113, 50]⟩, 1605, 1610, [2, 1, 1]⟩
def edF1 : Edn := ⟨⟨#[102, 49]⟩, 1623, 1623, [2, 2, 1]⟩
def edQ3 : Edn := ⟨⟨#[113, 51]⟩, 1608, 1630, [0, 1, 2]⟩
def stemX : Stm := ⟨[plA, plB, plC], [edQ1, edQ2, edF1, edQ3]⟩
def bestX : List Int := [-1, 0, 1, 0]
def starX : List Int := [-1, 0, 0, 0]
def lineX : List Int := [-1, 0, 1, 2]
def twoX : List Int := [-1, 0, 1, 1]
theorem ev_p1 : apartE stemX 0 2 = ([0, 1], 0) := by kernel_rfl
theorem ev_c1 : changesE stemX starX = (4, 0) := by kernel_rfl
theorem ev_c2 : changesE stemX lineX = (0, 9) := by kernel_rfl
theorem ev_y1 : yearsE stemX twoX = ([(1600, 1600), (1605, 1610), (1623, 1623), (1608, 1630)], 0) := by kernel_rfl
theorem ev_b1 : bestTE stemX = (bestX, 3, 2, 0) := by kernel_rfl
theorem ev_f1 : firstTE stemX = ([0], 0) := by kernel_rfl
theorem ev_m1 : fromE stemX 1 2 = (1, 0) := by kernel_rfl
theorem ev_r1 : readE stemX bestX 3 0 = ([1], 0) := by kernel_rfl
theorem ev_l1 : cleanE stemX = ([], 0) := by kernel_rfl
theorem ev_s1 : secE stemX starX 2 = (1, 1, 0) := by kernel_rfl
theorem ev_s2 : secE stemX bestX 2 = (0, 0, 8) := by kernel_rfl
end Go.Proofs.Ytccogmkhijgelaa
namespace Go.Proofs.Ytccogmkhijgelaa
open Go.RowKit
theorem zr_25 : ZeroT Try.prog 25 (.agg #[.slice none 0 0, .slice none 0 0]) := C5 (by kernel_rfl)
theorem bd_20 : Body Try.prog 20 := Bp (by kernel_rfl)
theorem bd_21 : Body Try.prog 21 := Bp (by kernel_rfl)
theorem bd_23 : Body Try.prog 23 := Bp (by kernel_rfl)
theorem bd_25 : Body Try.prog 25 := Bp (by kernel_rfl)
theorem bd_26 : Body Try.prog 26 := Bp (by kernel_rfl)
theorem bd_27 : Body Try.prog 27 := Bp (by kernel_rfl)
theorem bd_29 : Body Try.prog 29 := Bp (by kernel_rfl)
theorem bd_31 : Body Try.prog 31 := Bp (by kernel_rfl)
theorem bd_33 : Body Try.prog 33 := Bp (by kernel_rfl)
theorem bd_35 : Body Try.prog 35 := Bp (by kernel_rfl)
theorem bd_37 : Body Try.prog 37 := Bp (by kernel_rfl)
theorem bd_39 : Body Try.prog 39 := Bp (by kernel_rfl)
theorem bd_95 : Body Try.prog 95 := Bp (by kernel_rfl)
theorem bt_25 : BuildT Try.prog 25 [.slice none 0 0, .slice none 0 0] [(0, 1), (1, 1)] := buildT_of zr_25 (by kernel_rfl) (by decide)
theorem bt_60 : BuildT Try.prog 60 [.int .i64 0, .int .i64 0] [(0, 1), (1, 1)] := buildT_of zr_60 (by kernel_rfl) (by decide)
theorem bt_64 : BuildT Try.prog 64 [.string ⟨#[]⟩, .int .i64 0, .int .i64 0, .slice none 0 0] [(0, 1), (1, 2), (3, 1)] := buildT_of zr_64 (by kernel_rfl) (by decide)
theorem bt_70 : BuildT Try.prog 70 [.string ⟨#[]⟩, .int .i64 0] [(0, 1), (1, 1)] := buildT_of zr_70 (by kernel_rfl) (by decide)
theorem sz_25 : SizeT Try.prog 25 2 := Cx (by kernel_rfl)
theorem ints_box3 {F : Heap} {b T : Nat} {x y z : Int} (h : F b = some (bx T [.int .i64 x, .int .i64 y, .int .i64 z])) : Ints F (.slice (some ⟨b, 0, none⟩) 3 3) [x, y, z] :=
 sl_box (xs := [x, y, z]) h rfl rfl (fun _ => rfl) (by decide)
theorem ints_box4 {F : Heap} {b T : Nat} {x y z w : Int} (h : F b = some (bx T [.int .i64 x, .int .i64 y, .int .i64 z, .int .i64 w])) : Ints F (.slice (some ⟨b, 0, none⟩) 4 4) [x, y, z, w] :=
 sl_box (xs := [x, y, z, w]) h rfl rfl (fun _ => rfl) (by decide)
theorem plcX_box3 {F : Heap} {b T : Nat} (h : F b = some (bx T [.string ⟨#[97]⟩, .int .i64 0, .string ⟨#[98]⟩, .int .i64 1, .string ⟨#[99]⟩, .int .i64 0])) : Sl F (.slice (some ⟨b, 0, none⟩) 3 3) 2 Plc.enc [plA, plB, plC] :=
 sl_box (xs := [plA, plB, plC]) h rfl rfl (fun _ => rfl) (by decide)
theorem ednX_box4 {F : Heap} {b T : Nat} {v1 v2 v3 v4 : Value} (h : F b = some (bx T [.string ⟨#[113, 49]⟩, .int .i64 1600, .int .i64 1600, v1, .string ⟨#[113, 50]⟩, .int .i64 1605, .int .i64 1610, v2, .string ⟨#[102, 49]⟩, .int .i64 1623, .int .i64 1623, v3, .string ⟨#[113, 51]⟩, .int .i64 1608, .int .i64 1630, v4])) : Sl F (.slice (some ⟨b, 0, none⟩) 4 4) 4 edE [(v1, edQ1), (v2, edQ2), (v3, edF1), (v4, edQ3)] :=
 sl_box (xs := [(v1, edQ1), (v2, edQ2), (v3, edF1), (v4, edQ3)]) h rfl rfl (fun _ => rfl) (by decide)
theorem spansX_box4 {F : Heap} {b T : Nat} (h : F b = some (bx T [.int .i64 1600, .int .i64 1600, .int .i64 1605, .int .i64 1610, .int .i64 1623, .int .i64 1623, .int .i64 1608, .int .i64 1630])) : Sl F (.slice (some ⟨b, 0, none⟩) 4 4) 2 spanE [(1600, 1600), (1605, 1610), (1623, 1623), (1608, 1630)] :=
 sl_box (xs := ([(1600, 1600), (1605, 1610), (1623, 1623), (1608, 1630)] : List (Int × Int))) h rfl rfl (fun _ => rfl) (by decide)
set_option maxRecDepth 100000 in
theorem printed_ok {F : Heap} (nm : ByteArray) (lo hi a b c : Int) : Ok Try.prog 95 [.string nm, .int .i64 lo, .int .i64 hi, .int .i64 a, .int .i64 b, .int .i64 c].toArray F fun u F' => ∃ v, u = .agg #[.string nm, .int .i64 lo, .int .i64 hi, v] ∧ Ints F' v [a, b, c] := by
 refine Ok.intro Try.func95 rfl Try.ntmps95 rfl fun w0 => ?_
 refine Af <| Ai fun ds => Bg rfl (B6 zr_64 rfl fun b1 hb1 nb1 => ?_)
 refine Ah <| Ac <| Af <| Ai fun ds => Aa rfl (Ag (Am rfl <| Ak rfl)) ?_
 refine Aa rfl (Ag (Aq rfl <| Ak rfl)) ?_
 refine Aa rfl (Ag (Aq rfl <| Am rfl <| Ak rfl)) ?_
 refine Aa rfl (Ev bt_60 (.cons (Am rfl <| Ab) rfl (.cons (Ab) rfl .nil)) (.cons rfl rfl (Nat.le_of_ble_eq_true rfl) (.cons (.here) .nil) (.cons rfl rfl (Nat.le_of_ble_eq_true rfl) (.cons (.next <| .here) .nil) .nil))) ?_
 refine Aa rfl (Ag (A1 rfl <| Am rfl <| Ak rfl)) ?_
 refine Aa rfl (Ag (A1 rfl <| Aq rfl <| Ak rfl)) ?_
 refine Aa rfl (Ag (A1 rfl <| Aq rfl <| Am rfl <| Ak rfl)) ?_
 refine Bg rfl (B7 Bj C9 rfl (.cons (Aq rfl <| Ab) (.cons (Am rfl <| Ab) (.cons (Ab) .nil))) rfl rfl (by decide) (by simp [Value.oneCell']) fun b2 hb2 nb2 => ?_)
 refine B8 (i := 0) rfl hb2 .here fun F3 hF4 hz5 => ?_
 have hsl6 := ints_box3 hz5
 refine Aa rfl (Ev bt_64 (.cons (A1 rfl <| Aq rfl <| Am rfl <| Ab) rfl (.cons (A1 rfl <| Ab) rfl (.cons (Ab) rfl .nil))) (.cons rfl rfl (Nat.le_of_ble_eq_true rfl) (.cons (.here) .nil) (.cons rfl rfl (Nat.le_of_ble_eq_true rfl) (.cons (.next <| .here) (.cons (.next <| .next <| .here) .nil)) (.cons rfl rfl (Nat.le_of_ble_eq_true rfl) (.cons (.next <| .next <| .next <| .here) .nil) .nil)))) ?_
 refine Cc (Ca sz_64 (A5 rfl <| Am rfl <| Ab) (Ab) (i := 0) rfl rfl rfl rfl (by simp [Value.oneCell']) (.here) ?_)
 refine Ah <| Ac <| A3 <| Aw rfl (.agg D7 (A5 rfl <| Am rfl <| Ab) rfl rfl (A7 0 rfl) .nil) ?_
 exact ⟨_, rfl, hsl6⟩
set_option maxRecDepth 100000 in
theorem stemX_ok {F : Heap} : Ok Try.prog 39 [].toArray F fun u F' => ∃ vp ve ps, u = .agg #[vp, ve] ∧ StmR F' vp ve ps stemX := by
 refine Ok.intro Try.func39 rfl Try.ntmps39 rfl fun w0 => ?_
 refine Af <| Ai fun ds => Bg rfl (B6 zr_25 rfl fun b1 hb1 nb1 => ?_)
 refine Ah <| Ac <| Af <| Ai fun ds => Aa rfl (Ev bt_70 (.cons Ad rfl .nil) (.cons rfl rfl (Nat.le_of_ble_eq_true rfl) (.cons (.here) .nil) .nil)) ?_
 refine Aa rfl (Ev bt_70 (.cons Ad rfl (.cons Ad rfl .nil)) (.cons rfl rfl (Nat.le_of_ble_eq_true rfl) (.cons (.here) .nil) (.cons rfl rfl (Nat.le_of_ble_eq_true rfl) (.cons (.next <| .here) .nil) .nil))) ?_
 refine Aa rfl (Ev bt_70 (.cons Ad rfl .nil) (.cons rfl rfl (Nat.le_of_ble_eq_true rfl) (.cons (.here) .nil) .nil)) ?_
 refine Bg rfl (x_buildN (offs := [(0, 2), (2, 2), (4, 2)]) (zl := [.string ⟨#[]⟩, .int .i64 0, .string ⟨#[]⟩, .int .i64 0, .string ⟨#[]⟩, .int .i64 0]) C1 zr_70 rfl (.cons (Aq rfl <| Ab) rfl (.cons (Am rfl <| Ab) rfl (.cons (Ab) rfl .nil))) (by intro i p h; rcases i with _ | _ | _ | i <;> simp at h <;> subst h <;> rfl) (.cons rfl rfl (Nat.le_of_ble_eq_true rfl) (.cons (.here) (.cons (.next <| .here) .nil)) (.cons rfl rfl (Nat.le_of_ble_eq_true rfl) (.cons (.next <| .next <| .here) (.cons (.next <| .next <| .next <| .here) .nil)) (.cons rfl rfl (Nat.le_of_ble_eq_true rfl) (.cons (.next <| .next <| .next <| .next <| .here) (.cons (.next <| .next <| .next <| .next <| .next <| .here) .nil)) .nil))) (by decide) (by decide) fun b2 hb2 nb2 => ?_)
 refine B8 (i := 0) rfl hb2 .here fun F3 hF4 hz5 => ?_
 have hsl6 := plcX_box3 hz5
 refine Bg rfl (Cp bd_95 Az (.cons Ad (.cons Ad (.cons Ad (.cons Ad (.cons Ad (.cons Ad .nil)))))) (printed_ok _ _ _ _ _ _) fun v7 F8 hr9 hF10 => ?_)
 replace hsl6 := hsl6.mono hF10
 obtain ⟨vq1, rfl, hq1⟩ := hr9
 refine Bg rfl (Cp bd_95 Az (.cons Ad (.cons Ad (.cons Ad (.cons Ad (.cons Ad (.cons Ad .nil)))))) (printed_ok _ _ _ _ _ _) fun v11 F12 hr13 hF14 => ?_)
 replace hsl6 := hsl6.mono hF14
 replace hq1 := hq1.mono hF14
 obtain ⟨vq2, rfl, hq2⟩ := hr13
 refine Bg rfl (Cp bd_95 Az (.cons Ad (.cons Ad (.cons Ad (.cons Ad (.cons Ad (.cons Ad .nil)))))) (printed_ok _ _ _ _ _ _) fun v15 F16 hr17 hF18 => ?_)
 replace hsl6 := hsl6.mono hF18
 replace hq1 := hq1.mono hF18
 replace hq2 := hq2.mono hF18
 obtain ⟨vf1, rfl, hf1⟩ := hr17
 refine Bg rfl (Cp bd_95 Az (.cons Ad (.cons Ad (.cons Ad (.cons Ad (.cons Ad (.cons Ad .nil)))))) (printed_ok _ _ _ _ _ _) fun v19 F20 hr21 hF22 => ?_)
 replace hsl6 := hsl6.mono hF22
 replace hq1 := hq1.mono hF22
 replace hq2 := hq2.mono hF22
 replace hf1 := hf1.mono hF22
 obtain ⟨vq3, rfl, hq3⟩ := hr21
 refine Bg rfl (x_buildN (offs := [(0, 4), (4, 4), (8, 4), (12, 4)]) (zl := [.string ⟨#[]⟩, .int .i64 0, .int .i64 0, .slice none 0 0, .string ⟨#[]⟩, .int .i64 0, .int .i64 0, .slice none 0 0, .string ⟨#[]⟩, .int .i64 0, .int .i64 0, .slice none 0 0, .string ⟨#[]⟩, .int .i64 0, .int .i64 0, .slice none 0 0]) B1 zr_64 rfl (.cons (Aq rfl <| Am rfl <| Ab) rfl (.cons (Aq rfl <| Ab) rfl (.cons (Am rfl <| Ab) rfl (.cons (Ab) rfl .nil)))) (by intro i p h; rcases i with _ | _ | _ | _ | i <;> simp at h <;> subst h <;> rfl) (.cons rfl rfl (Nat.le_of_ble_eq_true rfl) (.cons (.here) (.cons (.next <| .here) (.cons (.next <| .next <| .here) (.cons (.next <| .next <| .next <| .here) .nil)))) (.cons rfl rfl (Nat.le_of_ble_eq_true rfl) (.cons (.next <| .next <| .next <| .next <| .here) (.cons (.next <| .next <| .next <| .next <| .next <| .here) (.cons (.next <| .next <| .next <| .next <| .next <| .next <| .here) (.cons (.next <| .next <| .next <| .next <| .next <| .next <| .next <| .here) .nil)))) (.cons rfl rfl (Nat.le_of_ble_eq_true rfl) (.cons (.next <| .next <| .next <| .next <| .next <| .next <| .next <| .next <| .here) (.cons (.next <| .next <| .next <| .next <| .next <| .next <| .next <| .next <| .next <| .here) (.cons (.next <| .next <| .next <| .next <| .next <| .next <| .next <| .next <| .next <| .next <| .here) (.cons (.next <| .next <| .next <| .next <| .next <| .next <| .next <| .next <| .next <| .next <| .next <| .here) .nil)))) (.cons rfl rfl (Nat.le_of_ble_eq_true rfl) (.cons (.next <| .next <| .next <| .next <| .next <| .next <| .next <| .next <| .next <| .next <| .next <| .next <| .here) (.cons (.next <| .next <| .next <| .next <| .next <| .next <| .next <| .next <| .next <| .next <| .next <| .next <| .next <| .here) (.cons (.next <| .next <| .next <| .next <| .next <| .next <| .next <| .next <| .next <| .next <| .next <| .next <| .next <| .next <| .here) (.cons (.next <| .next <| .next <| .next <| .next <| .next <| .next <| .next <| .next <| .next <| .next <| .next <| .next <| .next <| .next <| .here) .nil)))) .nil)))) (by decide) (by decide) fun b23 hb23 nb23 => ?_)
 refine B8 (i := 0) rfl hb23 .here fun F24 hF25 hz26 => ?_
 replace hsl6 := hsl6.mono hF25
 replace hq1 := hq1.mono hF25
 replace hq2 := hq2.mono hF25
 replace hf1 := hf1.mono hF25
 replace hq3 := hq3.mono hF25
 have hsl27 := ednX_box4 hz26
 refine Aa rfl (Ev bt_25 (.cons (A1 rfl <| Am rfl <| Ab) rfl (.cons (Ab) rfl .nil)) (.cons rfl rfl (Nat.le_of_ble_eq_true rfl) (.cons (.here) .nil) (.cons rfl rfl (Nat.le_of_ble_eq_true rfl) (.cons (.next <| .here) .nil) .nil))) ?_
 refine Cc (Ca sz_25 (A5 rfl <| Aq rfl <| Ab) (Ab) (i := 0) rfl rfl rfl rfl (by simp [Value.oneCell']) (.here) ?_)
 refine Ah <| Ac <| A3 <| Aw rfl (.agg B2 (A5 rfl <| Aq rfl <| Ab) rfl rfl (A7 0 rfl) .nil) ?_
 refine ⟨_, _, [(vq1, edQ1), (vq2, edQ2), (vf1, edF1), (vq3, edQ3)], rfl, ⟨hsl6, hsl27, ?_, rfl⟩⟩
 intro p hp
 simp only [List.mem_cons, List.not_mem_nil, or_false] at hp
 rcases hp with rfl | rfl | rfl | rfl
 · exact hq1
 · exact hq2
 · exact hf1
 · exact hq3
set_option maxRecDepth 100000 in
theorem awake_ok {F : Heap} : Ok Try.prog 26 [].toArray F fun u _ => u = .bool true := by
 refine Ok.intro Try.func26 rfl Try.ntmps26 rfl fun w0 => ?_
 refine Af <| Ai fun ds => Aa rfl (Ae Ad) ?_
 refine Ah <| Ac <| Af <| Ai fun ds => Bg rfl (Cp bd_39 Az .nil stemX_ok fun v1 F2 hr3 hF4 => ?_)
 obtain ⟨vp, ve, ps, rfl, hr⟩ := hr3
 refine Bg rfl (B6 zr_25 rfl fun b5 hb5 nb5 => ?_)
 refine Cc (Ca sz_25 (Ab) (Am rfl <| Ab) (i := 0) rfl rfl rfl rfl hr.ones (.here) ?_)
 refine Ah <| Ac <| Af <| Ai fun ds => Bg rfl (B7 Bj C9 rfl (.cons Ad (.cons Ad (.cons Ad (.cons Ad .nil)))) rfl rfl (by decide) (by simp [Value.oneCell']) fun b6 hb6 nb6 => ?_)
 refine B8 (i := 0) rfl hb6 .here fun F7 hF8 hz9 => ?_
 replace hr := hr.mono hF8
 have hsl10 := ints_box4 hz9
 refine Aa rfl (Ae (Ab)) ?_
 refine Ah <| Ac <| Af <| Ai fun ds => Aa rfl (A8 B2 (Aq rfl <| Ab) rfl rfl (A7 0 rfl)) ?_
 refine Bg rfl (Cp bd_18 Az (.cons (Ab) (.cons Ad (.cons Ad .nil))) ((apart_top_ok hr 0 2).mono fun u F2 _ h => (by rw [ev_p1] at h; exact h : ∃ ws, u = .tuple #[ws, .int .i64 0] ∧ Nats F2 ws [0, 1])) fun v11 F12 hr13 hF14 => ?_)
 replace hr := hr.mono hF14
 replace hsl10 := hsl10.mono hF14
 obtain ⟨hq1_, rfl, hq1⟩ := hr13
 refine Aa rfl (Ag (Ab)) ?_
 refine Aa rfl (Ay (Ab) rfl) ?_
 refine Aa rfl (Ay (Am rfl <| Ab) rfl) ?_
 refine Aa rfl (Ae (Am rfl <| Ab)) ?_
 refine Aa rfl (Ae (Am rfl <| Ab)) ?_
 refine Ah <| Ac <| Af <| Ai fun ds => Aa rfl (A8 B2 (A5 rfl <| Am rfl <| Ab) rfl rfl (A7 0 rfl)) ?_
 refine Bg rfl (B7 Bj C9 rfl (.cons Ad (.cons Ad (.cons Ad (.cons Ad .nil)))) rfl rfl (by decide) (by simp [Value.oneCell']) fun b15 hb15 nb15 => ?_)
 refine B8 (i := 0) rfl hb15 .here fun F16 hF17 hz18 => ?_
 replace hr := hr.mono hF17
 replace hsl10 := hsl10.mono hF17
 replace hq1 := hq1.mono hF17
 have hsl19 := ints_box4 hz18
 refine Bx rfl (Ba bd_21 Az (.cons (Am rfl <| Ab) (.cons (Ab) .nil)) (Cv hr (l := starX) hsl19) (fun _ _ h => h.trans (show _ = Value.tuple #[.int .i64 4, .int .i64 0] by unfold changesEV; rw [ev_c1]))) ?_
 refine Aa rfl (Ag (Ab)) ?_
 refine Aa rfl (Ay (Ab) rfl) ?_
 refine Aa rfl (Ay (Am rfl <| Ab) rfl) ?_
 refine Aa rfl (Ae (Am rfl <| Ab)) ?_
 refine Aa rfl (Ae (Am rfl <| Ab)) ?_
 refine Ah <| Ac <| Af <| Ai fun ds => Aa rfl (A8 B2 (A2 rfl <| Am rfl <| Ab) rfl rfl (A7 0 rfl)) ?_
 refine Bg rfl (B7 Bj C9 rfl (.cons Ad (.cons Ad (.cons Ad (.cons Ad .nil)))) rfl rfl (by decide) (by simp [Value.oneCell']) fun b20 hb20 nb20 => ?_)
 refine B8 (i := 0) rfl hb20 .here fun F21 hF22 hz23 => ?_
 replace hr := hr.mono hF22
 replace hsl10 := hsl10.mono hF22
 replace hq1 := hq1.mono hF22
 have hsl24 := ints_box4 hz23
 refine Bx rfl (Ba bd_21 Az (.cons (Am rfl <| Ab) (.cons (Ab) .nil)) (Cv hr (l := lineX) hsl24) (fun _ _ h => h.trans (show _ = Value.tuple #[.int .i64 0, .int .i64 9] by unfold changesEV; rw [ev_c2]))) ?_
 refine Aa rfl (Ag (Ab)) ?_
 refine Aa rfl (Ay (Ab) rfl) ?_
 refine Aa rfl (Ay (Am rfl <| Ab) rfl) ?_
 refine Aa rfl (Ae (Am rfl <| Ab)) ?_
 refine Aa rfl (Ae (Am rfl <| Ab)) ?_
 refine Ah <| Ac <| Af <| Ai fun ds => Aa rfl (A8 B2 (A2 rfl <| A5 rfl <| Am rfl <| Ab) rfl rfl (A7 0 rfl)) ?_
 refine Bg rfl (B7 Bj C9 rfl (.cons Ad (.cons Ad (.cons Ad (.cons Ad .nil)))) rfl rfl (by decide) (by simp [Value.oneCell']) fun b25 hb25 nb25 => ?_)
 refine B8 (i := 0) rfl hb25 .here fun F26 hF27 hz28 => ?_
 replace hr := hr.mono hF27
 replace hsl10 := hsl10.mono hF27
 replace hq1 := hq1.mono hF27
 have hsl29 := ints_box4 hz28
 refine Bg rfl (Cp bd_23 Az (.cons (Am rfl <| Ab) (.cons (Ab) .nil)) ((years_top_ok hr (l := twoX) hsl29).mono fun u F2 _ h => (by rw [ev_y1] at h; exact h : ∃ ws, u = .tuple #[ws, .int .i64 0] ∧ (fun F v l => Sl F v 2 spanE l) F2 ws [(1600, 1600), (1605, 1610), (1623, 1623), (1608, 1630)])) fun v30 F31 hr32 hF33 => ?_)
 replace hr := hr.mono hF33
 replace hsl10 := hsl10.mono hF33
 replace hq1 := hq1.mono hF33
 obtain ⟨hq2_, rfl, hq2⟩ := hr32
 refine Aa rfl (Ag (Ab)) ?_
 refine Aa rfl (Ay (Ab) rfl) ?_
 refine Aa rfl (Ay (Am rfl <| Ab) rfl) ?_
 refine Aa rfl (Ae (Am rfl <| Ab)) ?_
 refine Aa rfl (Ae (Am rfl <| Ab)) ?_
 refine Ah <| Ac <| Af <| Ai fun ds => Aa rfl (A8 B2 (Bl rfl <| Am rfl <| Ab) rfl rfl (A7 0 rfl)) ?_
 refine Bg rfl (Cp bd_27 Az (.cons (Ab) .nil) ((best_top_ok hr).mono fun u F2 _ h => (by rw [ev_b1] at h; exact h : ∃ ws, u = .tuple #[ws, .int .i64 3, .int .i64 2, .int .i64 0] ∧ Ints F2 ws bestX)) fun v34 F35 hr36 hF37 => ?_)
 replace hr := hr.mono hF37
 replace hsl10 := hsl10.mono hF37
 replace hq1 := hq1.mono hF37
 replace hq2 := hq2.mono hF37
 obtain ⟨hq3_, rfl, hq3⟩ := hr36
 refine Aa rfl (Ag (Ab)) ?_
 refine Aa rfl (Ay (Ab) rfl) ?_
 refine Aa rfl (Ay (Am rfl <| Ab) rfl) ?_
 refine Aa rfl (Ay (Aq rfl <| Ab) rfl) ?_
 refine Aa rfl (Ay (Aq rfl <| Am rfl <| Ab) rfl) ?_
 refine Aa rfl (Ae (Aq rfl <| Am rfl <| Ab)) ?_
 refine Aa rfl (Ae (Aq rfl <| Am rfl <| Ab)) ?_
 refine Aa rfl (Ae (Aq rfl <| Am rfl <| Ab)) ?_
 refine Aa rfl (Ae (Aq rfl <| Am rfl <| Ab)) ?_
 refine Ah <| Ac <| Af <| Ai fun ds => Aa rfl (A8 B2 (Bl rfl <| A5 rfl <| A1 rfl <| Ab) rfl rfl (A7 0 rfl)) ?_
 refine Bg rfl (Cp bd_29 Az (.cons (Ab) .nil) ((first_top_ok hr).mono fun u F2 _ h => (by rw [ev_f1] at h; exact h : ∃ ws, u = .tuple #[ws, .int .i64 0] ∧ Nats F2 ws [0])) fun v38 F39 hr40 hF41 => ?_)
 replace hr := hr.mono hF41
 replace hsl10 := hsl10.mono hF41
 replace hq1 := hq1.mono hF41
 replace hq2 := hq2.mono hF41
 replace hq3 := hq3.mono hF41
 obtain ⟨hq4_, rfl, hq4⟩ := hr40
 refine Aa rfl (Ag (Ab)) ?_
 refine Aa rfl (Ay (Ab) rfl) ?_
 refine Aa rfl (Ay (Am rfl <| Ab) rfl) ?_
 refine Aa rfl (Ae (Am rfl <| Ab)) ?_
 refine Aa rfl (Ae (Am rfl <| Ab)) ?_
 refine Ah <| Ac <| Af <| Ai fun ds => Aa rfl (A8 B2 (Bl rfl <| A2 rfl <| Aq rfl <| Am rfl <| Ab) rfl rfl (A7 0 rfl)) ?_
 refine Bx rfl (Ba bd_31 Az (.cons (Ab) (.cons Ad (.cons Ad .nil))) (from_top_ok hr 1 2) (fun _ _ h => h.trans (show _ = Value.tuple #[.int .i64 1, .int .i64 0] by unfold fromV; rw [ev_m1]))) ?_
 refine Aa rfl (Ag (Ab)) ?_
 refine Aa rfl (Ay (Ab) rfl) ?_
 refine Aa rfl (Ay (Am rfl <| Ab) rfl) ?_
 refine Aa rfl (Ae (Am rfl <| Ab)) ?_
 refine Aa rfl (Ae (Am rfl <| Ab)) ?_
 refine Ah <| Ac <| Af <| Ai fun ds => Aa rfl (A8 B2 (Bl rfl <| A2 rfl <| A5 rfl <| Aq rfl <| Ab) rfl rfl (A7 0 rfl)) ?_
 refine Aa rfl (Ag (Bl rfl <| A2 rfl <| A5 rfl <| Am rfl <| Ab)) ?_
 refine Bg rfl (Cp bd_35 Az (.cons (Am rfl <| Ab) (.cons (Ab) (.cons Ad (.cons Ad .nil)))) ((reading_top_ok hr (l := bestX) hsl10 3 0).mono fun u F2 _ h => (by rw [ev_r1] at h; exact h : ∃ ws, u = .tuple #[ws, .int .i64 0] ∧ Ints F2 ws [1])) fun v42 F43 hr44 hF45 => ?_)
 replace hr := hr.mono hF45
 replace hsl10 := hsl10.mono hF45
 replace hq1 := hq1.mono hF45
 replace hq2 := hq2.mono hF45
 replace hq3 := hq3.mono hF45
 replace hq4 := hq4.mono hF45
 obtain ⟨hq5_, rfl, hq5⟩ := hr44
 refine Aa rfl (Ag (Ab)) ?_
 refine Aa rfl (Ay (Ab) rfl) ?_
 refine Aa rfl (Ay (Am rfl <| Ab) rfl) ?_
 refine Aa rfl (Ae (Am rfl <| Ab)) ?_
 refine Aa rfl (Ae (Am rfl <| Ab)) ?_
 refine Ah <| Ac <| Af <| Ai fun ds => Aa rfl (A8 B2 (Bl rfl <| Bl rfl <| Aq rfl <| Ab) rfl rfl (A7 0 rfl)) ?_
 refine Bg rfl (Cp bd_33 Az (.cons (Ab) .nil) ((clean_top_ok hr).mono fun u F2 _ h => (by rw [ev_l1] at h; exact h : ∃ ws, u = .tuple #[ws, .int .i64 0] ∧ Nats F2 ws [])) fun v46 F47 hr48 hF49 => ?_)
 replace hr := hr.mono hF49
 replace hsl10 := hsl10.mono hF49
 replace hq1 := hq1.mono hF49
 replace hq2 := hq2.mono hF49
 replace hq3 := hq3.mono hF49
 replace hq4 := hq4.mono hF49
 replace hq5 := hq5.mono hF49
 obtain ⟨hq6_, rfl, hq6⟩ := hr48
 refine Aa rfl (Ag (Ab)) ?_
 refine Aa rfl (Ay (Ab) rfl) ?_
 refine Aa rfl (Ay (Am rfl <| Ab) rfl) ?_
 refine Aa rfl (Ae (Am rfl <| Ab)) ?_
 refine Aa rfl (Ae (Am rfl <| Ab)) ?_
 refine Ah <| Ac <| Af <| Ai fun ds => Aa rfl (A8 B2 (Bl rfl <| Bl rfl <| A5 rfl <| Am rfl <| Ab) rfl rfl (A7 0 rfl)) ?_
 refine Bg rfl (B7 Bj C9 rfl (.cons Ad (.cons Ad (.cons Ad (.cons Ad .nil)))) rfl rfl (by decide) (by simp [Value.oneCell']) fun b50 hb50 nb50 => ?_)
 refine B8 (i := 0) rfl hb50 .here fun F51 hF52 hz53 => ?_
 replace hr := hr.mono hF52
 replace hsl10 := hsl10.mono hF52
 replace hq1 := hq1.mono hF52
 replace hq2 := hq2.mono hF52
 replace hq3 := hq3.mono hF52
 replace hq4 := hq4.mono hF52
 replace hq5 := hq5.mono hF52
 replace hq6 := hq6.mono hF52
 have hsl54 := ints_box4 hz53
 refine Bx rfl (Ba bd_37 Az (.cons (Am rfl <| Ab) (.cons (Ab) (.cons Ad .nil))) (second_top_ok hr (l := starX) hsl54 2) (fun _ _ h => h.trans (show _ = Value.tuple #[.int .i64 1, .int .i64 1, .int .i64 0] by unfold secV; rw [ev_s1]))) ?_
 refine Aa rfl (Ag (Ab)) ?_
 refine Aa rfl (Ay (Ab) rfl) ?_
 refine Aa rfl (Ay (Am rfl <| Ab) rfl) ?_
 refine Aa rfl (Ay (Aq rfl <| Ab) rfl) ?_
 refine Aa rfl (Ae (Aq rfl <| Ab)) ?_
 refine Aa rfl (Ae (Aq rfl <| Ab)) ?_
 refine Aa rfl (Ae (Aq rfl <| Ab)) ?_
 refine Ah <| Ac <| Af <| Ai fun ds => Aa rfl (A8 B2 (Bl rfl <| Bl rfl <| A2 rfl <| Aq rfl <| Am rfl <| Ab) rfl rfl (A7 0 rfl)) ?_
 refine Aa rfl (Ag (Bl rfl <| Bl rfl <| A2 rfl <| Aq rfl <| Ab)) ?_
 refine Bx rfl (Ba bd_37 Az (.cons (Am rfl <| Ab) (.cons (Ab) (.cons Ad .nil))) (second_top_ok hr (l := bestX) hsl10 2) (fun _ _ h => h.trans (show _ = Value.tuple #[.int .i64 0, .int .i64 0, .int .i64 8] by unfold secV; rw [ev_s2]))) ?_
 refine Aa rfl (Ag (Ab)) ?_
 refine Aa rfl (Ay (Ab) rfl) ?_
 refine Aa rfl (Ay (Am rfl <| Ab) rfl) ?_
 refine Aa rfl (Ay (Aq rfl <| Ab) rfl) ?_
 refine Aa rfl (Ae (Aq rfl <| Ab)) ?_
 refine Aa rfl (Ae (Aq rfl <| Ab)) ?_
 refine Aa rfl (Ae (Aq rfl <| Ab)) ?_
 refine Ah <| Ac <| Af <| Ai fun ds => Aa rfl (Ag (Bl rfl <| Bl rfl <| A2 rfl <| A1 rfl <| Ab)) ?_
 refine Aa rfl (Bw (Ab) Ad) ?_
 refine Aa rfl (Ag (Ab)) ?_
 refine As rfl rfl (Ab) (by first | rfl | decide) ?_
 refine Aa rfl (Ag (Bl rfl <| Bl rfl <| A5 rfl <| A1 rfl <| Aq rfl <| Am rfl <| Ab)) ?_
 refine As rfl rfl (Am rfl <| Ab) (by first | rfl | decide) ?_
 refine Aa rfl (Bw (Ab) Ad) ?_
 refine Aa rfl (A6 (Aq rfl <| Ab) (by first | rfl | decide) (Ab)) ?_
 refine Aa rfl (Ag (Ab)) ?_
 refine As rfl rfl (Ab) (by first | rfl | decide) ?_
 refine Aa rfl (Ag (Bl rfl <| Bl rfl <| Aq rfl <| Am rfl <| Ab)) ?_
 refine As rfl rfl (Am rfl <| Ab) (by first | rfl | decide) ?_
 refine Aa rfl (Bw (Ab) Ad) ?_
 refine Aa rfl (A6 (Aq rfl <| Ab) (by first | rfl | decide) (Ab)) ?_
 refine Aa rfl (Ag (Ab)) ?_
 refine As rfl rfl (Ab) (by first | rfl | decide) ?_
 refine Aa rfl (Ag (Bl rfl <| A2 rfl <| A5 rfl <| A1 rfl <| Ab)) ?_
 refine As rfl rfl (Am rfl <| Ab) (by first | rfl | decide) ?_
 refine Aa rfl (Bw (Ab) Ad) ?_
 refine Aa rfl (A6 (Aq rfl <| Ab) (by first | rfl | decide) (Ab)) ?_
 refine Aa rfl (Ag (Ab)) ?_
 refine As rfl rfl (Ab) (by first | rfl | decide) ?_
 refine Aa rfl (Ag (Bl rfl <| A2 rfl <| A5 rfl <| Am rfl <| Ab)) ?_
 refine As rfl rfl (Am rfl <| Ab) (by first | rfl | decide) ?_
 refine Aa rfl (Bw (Ab) Ad) ?_
 refine Aa rfl (A6 (Aq rfl <| Ab) (by first | rfl | decide) (Ab)) ?_
 refine Aa rfl (Ag (Ab)) ?_
 refine As rfl rfl (Ab) (by first | rfl | decide) ?_
 refine Aa rfl (Ag (Bl rfl <| A2 rfl <| A1 rfl <| Aq rfl <| Ab)) ?_
 refine As rfl rfl (Am rfl <| Ab) (by first | rfl | decide) ?_
 refine Aa rfl (Bw (Ab) Ad) ?_
 refine Aa rfl (A6 (Aq rfl <| Ab) (by first | rfl | decide) (Ab)) ?_
 refine Aa rfl (Ag (Ab)) ?_
 refine As rfl rfl (Ab) (by first | rfl | decide) ?_
 refine Aa rfl (Ag (Bl rfl <| A2 rfl <| Aq rfl <| Ab)) ?_
 refine As rfl rfl (Am rfl <| Ab) (by first | rfl | decide) ?_
 refine Aa rfl (Bw (Ab) Ad) ?_
 refine Aa rfl (A6 (Aq rfl <| Ab) (by first | rfl | decide) (Ab)) ?_
 refine Aa rfl (Ag (Ab)) ?_
 refine As rfl rfl (Ab) (by first | rfl | decide) ?_
 refine Aa rfl (Ag (Bl rfl <| A5 rfl <| A1 rfl <| Aq rfl <| Am rfl <| Ab)) ?_
 refine As rfl rfl (Am rfl <| Ab) (by first | rfl | decide) ?_
 refine Aa rfl (Bw (Ab) Ad) ?_
 refine Aa rfl (A6 (Aq rfl <| Ab) (by first | rfl | decide) (Ab)) ?_
 refine Aa rfl (Ag (Ab)) ?_
 refine As rfl rfl (Ab) (by first | rfl | decide) ?_
 refine Aa rfl (Ag (Bl rfl <| A5 rfl <| Am rfl <| Ab)) ?_
 refine As rfl rfl (Am rfl <| Ab) (by first | rfl | decide) ?_
 refine Aa rfl (Bw (Ab) Ad) ?_
 refine Aa rfl (A6 (Aq rfl <| Ab) (by first | rfl | decide) (Ab)) ?_
 refine Aa rfl (Ag (Ab)) ?_
 refine As rfl rfl (Ab) (by first | rfl | decide) ?_
 refine Aa rfl (Ag (Bl rfl <| Bl rfl <| Bl rfl <| A1 rfl <| Aq rfl <| Am rfl <| Ab)) ?_
 refine As rfl rfl (Am rfl <| Ab) (by first | rfl | decide) ?_
 refine Aa rfl (Bw (Ab) Ad) ?_
 refine Aa rfl (A6 (Aq rfl <| Ab) (by first | rfl | decide) (Ab)) ?_
 refine Aa rfl (Ag (Ab)) ?_
 refine As rfl rfl (Ab) (by first | rfl | decide) ?_
 refine Aa rfl (Ag (Bl rfl <| A1 rfl <| Aq rfl <| Am rfl <| Ab)) ?_
 refine As rfl rfl (Am rfl <| Ab) (by first | rfl | decide) ?_
 refine Aa rfl (Bw (Ab) Ad) ?_
 refine Aa rfl (A6 (Aq rfl <| Ab) (by first | rfl | decide) (Ab)) ?_
 refine Aa rfl (Ag (Ab)) ?_
 refine As rfl rfl (Ab) (by first | rfl | decide) ?_
 refine Aa rfl (Ag (Bl rfl <| Bl rfl <| Bl rfl <| Bl rfl <| Ab)) ?_
 refine As rfl rfl (Am rfl <| Ab) (by first | rfl | decide) ?_
 refine Bg rfl (B7 Bj C9 rfl (.cons Ad (.cons Ad .nil)) rfl rfl (by decide) (by simp [Value.oneCell']) fun b55 hb55 nb55 => ?_)
 refine B8 (i := 0) rfl hb55 .here fun F56 hF57 hz58 => ?_
 replace hsl10 := hsl10.mono hF57
 replace hq1 := hq1.mono hF57
 replace hq2 := hq2.mono hF57
 replace hq3 := hq3.mono hF57
 replace hq4 := hq4.mono hF57
 replace hq5 := hq5.mono hF57
 replace hq6 := hq6.mono hF57
 have hsl59 := ints_box2 hz58
 refine As rfl rfl (Aq rfl <| Ab) (by first | rfl | decide) ?_
 refine Bx rfl (Ba bd_20 Az (.cons (Am rfl <| Ab) (.cons (Ab) .nil)) (refInts_ok (Nats.ints hq1) hsl59) (fun _ _ h => h)) ?_
 refine Aa rfl (A6 (Aq rfl <| Am rfl <| Ab) (by first | rfl | decide) (Ab)) ?_
 refine Aa rfl (Ag (Ab)) ?_
 refine As rfl rfl (Ab) (by first | rfl | decide) ?_
 refine Aa rfl (Ag (Bl rfl <| Bl rfl <| Bl rfl <| A2 rfl <| A5 rfl <| A1 rfl <| Am rfl <| Ab)) ?_
 refine As rfl rfl (Am rfl <| Ab) (by first | rfl | decide) ?_
 refine Aa rfl (Bw (Ab) Ad) ?_
 refine Aa rfl (A6 (Aq rfl <| Ab) (by first | rfl | decide) (Ab)) ?_
 refine Aa rfl (Ag (Ab)) ?_
 refine As rfl rfl (Ab) (by first | rfl | decide) ?_
 refine Aa rfl (Ag (Bl rfl <| Bl rfl <| Bl rfl <| A2 rfl <| Am rfl <| Ab)) ?_
 refine As rfl rfl (Am rfl <| Ab) (by first | rfl | decide) ?_
 refine Aa rfl (Ev bt_60 (.cons Ad rfl (.cons Ad rfl .nil)) (.cons rfl rfl (Nat.le_of_ble_eq_true rfl) (.cons (.here) .nil) (.cons rfl rfl (Nat.le_of_ble_eq_true rfl) (.cons (.next <| .here) .nil) .nil))) ?_
 refine As rfl rfl (Aq rfl <| Ab) (by first | rfl | decide) ?_
 refine Aa rfl (Ev bt_60 (.cons Ad rfl (.cons Ad rfl .nil)) (.cons rfl rfl (Nat.le_of_ble_eq_true rfl) (.cons (.here) .nil) (.cons rfl rfl (Nat.le_of_ble_eq_true rfl) (.cons (.next <| .here) .nil) .nil))) ?_
 refine As rfl rfl (Aq rfl <| Am rfl <| Ab) (by first | rfl | decide) ?_
 refine Aa rfl (Ev bt_60 (.cons Ad rfl (.cons Ad rfl .nil)) (.cons rfl rfl (Nat.le_of_ble_eq_true rfl) (.cons (.here) .nil) (.cons rfl rfl (Nat.le_of_ble_eq_true rfl) (.cons (.next <| .here) .nil) .nil))) ?_
 refine As rfl rfl (A1 rfl <| Ab) (by first | rfl | decide) ?_
 refine Aa rfl (Ev bt_60 (.cons Ad rfl (.cons Ad rfl .nil)) (.cons rfl rfl (Nat.le_of_ble_eq_true rfl) (.cons (.here) .nil) (.cons rfl rfl (Nat.le_of_ble_eq_true rfl) (.cons (.next <| .here) .nil) .nil))) ?_
 refine As rfl rfl (A1 rfl <| Am rfl <| Ab) (by first | rfl | decide) ?_
 refine Bg rfl (x_buildN (offs := [(0, 2), (2, 2), (4, 2), (6, 2)]) (zl := [.int .i64 0, .int .i64 0, .int .i64 0, .int .i64 0, .int .i64 0, .int .i64 0, .int .i64 0, .int .i64 0]) Et zr_60 rfl (.cons (Aq rfl <| Am rfl <| Ab) rfl (.cons (Aq rfl <| Ab) rfl (.cons (Am rfl <| Ab) rfl (.cons (Ab) rfl .nil)))) (by intro i p h; rcases i with _ | _ | _ | _ | i <;> simp at h <;> subst h <;> rfl) (.cons rfl rfl (Nat.le_of_ble_eq_true rfl) (.cons (.here) (.cons (.next <| .here) .nil)) (.cons rfl rfl (Nat.le_of_ble_eq_true rfl) (.cons (.next <| .next <| .here) (.cons (.next <| .next <| .next <| .here) .nil)) (.cons rfl rfl (Nat.le_of_ble_eq_true rfl) (.cons (.next <| .next <| .next <| .next <| .here) (.cons (.next <| .next <| .next <| .next <| .next <| .here) .nil)) (.cons rfl rfl (Nat.le_of_ble_eq_true rfl) (.cons (.next <| .next <| .next <| .next <| .next <| .next <| .here) (.cons (.next <| .next <| .next <| .next <| .next <| .next <| .next <| .here) .nil)) .nil)))) (by decide) (by decide) fun b60 hb60 nb60 => ?_)
 refine B8 (i := 0) rfl hb60 .here fun F61 hF62 hz63 => ?_
 replace hsl10 := hsl10.mono hF62
 replace hq2 := hq2.mono hF62
 replace hq3 := hq3.mono hF62
 replace hq4 := hq4.mono hF62
 replace hq5 := hq5.mono hF62
 replace hq6 := hq6.mono hF62
 have hsl64 := spansX_box4 hz63
 refine As rfl rfl (A1 rfl <| Aq rfl <| Ab) (by first | rfl | decide) ?_
 refine Bx rfl (Ba bd_25 Az (.cons (A1 rfl <| Am rfl <| Ab) (.cons (Ab) .nil)) (refSpans_ok hq2 hsl64) (fun _ _ h => h)) ?_
 refine Aa rfl (A6 (A1 rfl <| Aq rfl <| Am rfl <| Ab) (by first | rfl | decide) (Ab)) ?_
 refine Aa rfl (Ag (Ab)) ?_
 refine As rfl rfl (Ab) (by first | rfl | decide) ?_
 refine Aa rfl (Ag (Bl rfl <| Bl rfl <| Bl rfl <| A2 rfl <| Am rfl <| Ab)) ?_
 refine As rfl rfl (Am rfl <| Ab) (by first | rfl | decide) ?_
 refine Aa rfl (Ag (Bl rfl <| Bl rfl <| Bl rfl <| Bl rfl <| A2 rfl <| A5 rfl <| Am rfl <| Ab)) ?_
 refine As rfl rfl (Aq rfl <| Ab) (by first | rfl | decide) ?_
 refine Bx rfl (Ba bd_20 Az (.cons (Am rfl <| Ab) (.cons (Ab) .nil)) (refInts_ok hq3 hsl10) (fun _ _ h => h)) ?_
 refine Aa rfl (A6 (Aq rfl <| Am rfl <| Ab) (by first | rfl | decide) (Ab)) ?_
 refine Aa rfl (Ag (Ab)) ?_
 refine As rfl rfl (Ab) (by first | rfl | decide) ?_
 refine Aa rfl (Ag (Bl rfl <| Bl rfl <| Bl rfl <| A2 rfl <| A1 rfl <| Am rfl <| Ab)) ?_
 refine As rfl rfl (Am rfl <| Ab) (by first | rfl | decide) ?_
 refine Aa rfl (Bw (Ab) Ad) ?_
 refine Aa rfl (A6 (Aq rfl <| Ab) (by first | rfl | decide) (Ab)) ?_
 refine Aa rfl (Ag (Ab)) ?_
 refine As rfl rfl (Ab) (by first | rfl | decide) ?_
 refine Aa rfl (Ag (Bl rfl <| Bl rfl <| Bl rfl <| A2 rfl <| A5 rfl <| Ab)) ?_
 refine As rfl rfl (Am rfl <| Ab) (by first | rfl | decide) ?_
 refine Aa rfl (Bw (Ab) Ad) ?_
 refine Aa rfl (A6 (Aq rfl <| Ab) (by first | rfl | decide) (Ab)) ?_
 refine Aa rfl (Ag (Ab)) ?_
 refine As rfl rfl (Ab) (by first | rfl | decide) ?_
 refine Aa rfl (Ag (Bl rfl <| Bl rfl <| Bl rfl <| A2 rfl <| A1 rfl <| Am rfl <| Ab)) ?_
 refine As rfl rfl (Am rfl <| Ab) (by first | rfl | decide) ?_
 refine Bg rfl (B7 Bj C9 rfl (.cons Ad .nil) rfl rfl (by decide) (by simp [Value.oneCell']) fun b65 hb65 nb65 => ?_)
 refine B8 (i := 0) rfl hb65 .here fun F66 hF67 hz68 => ?_
 replace hq4 := hq4.mono hF67
 replace hq5 := hq5.mono hF67
 replace hq6 := hq6.mono hF67
 have hsl69 := C0 hz68
 refine As rfl rfl (Aq rfl <| Ab) (by first | rfl | decide) ?_
 refine Bx rfl (Ba bd_20 Az (.cons (Am rfl <| Ab) (.cons (Ab) .nil)) (refInts_ok (Nats.ints hq4) hsl69) (fun _ _ h => h)) ?_
 refine Aa rfl (A6 (Aq rfl <| Am rfl <| Ab) (by first | rfl | decide) (Ab)) ?_
 refine Aa rfl (Ag (Ab)) ?_
 refine As rfl rfl (Ab) (by first | rfl | decide) ?_
 refine Aa rfl (Ag (Bl rfl <| Bl rfl <| Bl rfl <| A2 rfl <| Aq rfl <| Am rfl <| Ab)) ?_
 refine As rfl rfl (Am rfl <| Ab) (by first | rfl | decide) ?_
 refine Aa rfl (Bw (Ab) Ad) ?_
 refine Aa rfl (A6 (Aq rfl <| Ab) (by first | rfl | decide) (Ab)) ?_
 refine Aa rfl (Ag (Ab)) ?_
 refine As rfl rfl (Ab) (by first | rfl | decide) ?_
 refine Aa rfl (Ag (Bl rfl <| Bl rfl <| Bl rfl <| A5 rfl <| A1 rfl <| Aq rfl <| Am rfl <| Ab)) ?_
 refine As rfl rfl (Am rfl <| Ab) (by first | rfl | decide) ?_
 refine Bg rfl (B7 Bj C9 rfl (.cons Ad .nil) rfl rfl (by decide) (by simp [Value.oneCell']) fun b70 hb70 nb70 => ?_)
 refine B8 (i := 0) rfl hb70 .here fun F71 hF72 hz73 => ?_
 replace hq5 := hq5.mono hF72
 replace hq6 := hq6.mono hF72
 have hsl74 := C0 hz73
 refine As rfl rfl (Aq rfl <| Ab) (by first | rfl | decide) ?_
 refine Bx rfl (Ba bd_20 Az (.cons (Am rfl <| Ab) (.cons (Ab) .nil)) (refInts_ok hq5 hsl74) (fun _ _ h => h)) ?_
 refine Aa rfl (A6 (Aq rfl <| Am rfl <| Ab) (by first | rfl | decide) (Ab)) ?_
 refine Aa rfl (Ag (Ab)) ?_
 refine As rfl rfl (Ab) (by first | rfl | decide) ?_
 refine Aa rfl (Ag (Bl rfl <| Bl rfl <| Bl rfl <| A5 rfl <| A1 rfl <| Am rfl <| Ab)) ?_
 refine As rfl rfl (Am rfl <| Ab) (by first | rfl | decide) ?_
 refine Aa rfl (Bk Bj (Ab) hq6.plain) ?_
 refine As rfl rfl (Aq rfl <| Ab) (by first | rfl | decide) ?_
 refine Aa rfl (Bw (Ab) Ad) ?_
 refine Aa rfl (A6 (Aq rfl <| Am rfl <| Ab) (by first | rfl | decide) (Ab)) ?_
 refine Aa rfl (Ag (Ab)) ?_
 refine As rfl rfl (Ab) (by first | rfl | decide) ?_
 refine Aa rfl (Ag (Bl rfl <| Bl rfl <| Bl rfl <| A5 rfl <| Am rfl <| Ab)) ?_
 refine As rfl rfl (Am rfl <| Ab) (by first | rfl | decide) ?_
 refine Aa rfl (Bw (Ab) Ad) ?_
 refine Aa rfl (A6 (Aq rfl <| Ab) (by first | rfl | decide) (Ab)) ?_
 refine Aa rfl (Ag (Ab)) ?_
 refine As rfl rfl (Ab) (by first | rfl | decide) ?_
 refine Aa rfl (Ag (Bl rfl <| Bl rfl <| Bl rfl <| A5 rfl <| A1 rfl <| Ab)) ?_
 refine As rfl rfl (Am rfl <| Ab) (by first | rfl | decide) ?_
 refine Aa rfl (Bw (Ab) Ad) ?_
 refine Aa rfl (A6 (Aq rfl <| Ab) (by first | rfl | decide) (Ab)) ?_
 refine Aa rfl (Ae (Ab)) ?_
 refine Ah <| Ac <| A3 <| Aw rfl (.tmp (Ab) .nil) ?_
 show _ = _
 first | rfl | decide
end Go.Proofs.Ytccogmkhijgelaa
namespace Go.Proofs.Ytccogmkhijgelaa
def turnN (xs : List Nat) (n : Nat) : Nat := xs[n % xs.length]?.getD 0
theorem turnN_lt {xs : List Nat} (h : ∀ x ∈ xs, x < 256) {n : Nat} : turnN xs n < 256 := by
 unfold turnN
 cases hx : xs[n % xs.length]? with
 | none => decide
 | some x => exact h x (List.mem_of_getElem? hx)
theorem turnN_nil {n : Nat} : turnN [] n = 0 := by simp [turnN]
theorem turnN_at {xs : List Nat} {n : Nat} (h : n % xs.length < xs.length) : turnN xs n = xs[n % xs.length] := by simp [turnN, h]
/-- What was taken so far, and what is left. -/
structure TreeI (n : Nat) (g : Nat → Int) (taken left : List Nat) : Prop where
 nodup : (taken ++ left).Nodup
 len : taken.length + left.length = n
 all : ∀ i, i < n ↔ i ∈ taken ++ left
 root : ∀ (h : 0 < taken.length), g taken[0] = -1
 up : ∀ j (h : j < taken.length), 0 < j → ∃ k, ∃ hk : k < j, g taken[j] = (taken[k] : Int)
theorem TreeI.start {n : Nat} {g : Nat → Int} : TreeI n g [] (List.range n) := ⟨by simpa using List.nodup_range, by simp, fun i => by simp, fun h => absurd h (by simp), fun j h => absurd h (by simp)⟩
theorem erase_perm {α : Type} {l : List α} {k : Nat} (hk : k < l.length) : l.Perm (l[k] :: l.eraseIdx k) := by
 rw [List.eraseIdx_eq_take_drop_succ]
 have h : l = l.take k ++ l[k] :: l.drop (k + 1) := by rw [← List.drop_eq_getElem_cons hk, List.take_append_drop]
 conv => lhs; rw [h]
 exact List.perm_middle
section
variable {n : Nat} {g : Nat → Int} {taken left : List Nat} {k : Nat}
theorem TreeI.perm (hk : k < left.length) : (taken ++ left).Perm ((taken ++ [left[k]]) ++ left.eraseIdx k) := by
 rw [List.append_assoc]
 exact (erase_perm hk).append_left taken
theorem TreeI.fresh (h : TreeI n g taken left) (hk : k < left.length) {j : Nat} (hj : j < taken.length) : taken[j] ≠ left[k] := fun he => by
 have := (List.nodup_append.1 h.nodup).2.2 _ (List.getElem_mem hj) _ (List.getElem_mem hk)
 exact this he
theorem TreeI.lt (h : TreeI n g taken left) (hk : k < left.length) : left[k] < n := (h.all _).2 (List.mem_append_right _ (List.getElem_mem hk))
theorem TreeI.step (h : TreeI n g taken left) (hk : k < left.length) {g' : Nat → Int} (hg : ∀ i, i ≠ left[k] → g' i = g i) (h0 : taken.length = 0 → g' left[k] = -1) (h1 : 0 < taken.length → ∃ q, ∃ hq : q < taken.length, g' left[k] = (taken[q] : Int)) :
   TreeI n g' (taken ++ [left[k]]) (left.eraseIdx k) := by
 have hp := TreeI.perm (taken := taken) hk
 refine ⟨hp.nodup_iff.1 h.nodup, by have := h.len; rw [List.length_append, List.length_eraseIdx_of_lt hk, List.length_singleton]; omega, fun i => (h.all i).trans hp.mem_iff, fun hl => ?_, fun j hj hj0 => ?_⟩
 · by_cases ht : 0 < taken.length
   · rw [List.getElem_append_left ht, hg _ (h.fresh hk ht)]; exact h.root ht
   · rw [List.getElem_append_right (by omega)]
     simp only [List.getElem_singleton]
     exact h0 (by omega)
 · by_cases ht : j < taken.length
   · obtain ⟨q, hq, he⟩ := h.up j ht hj0
     refine ⟨q, hq, ?_⟩
     rw [List.getElem_append_left ht, List.getElem_append_left (by omega), hg _ (h.fresh hk ht)]; exact he
   · have hj2 : j = taken.length := by simp at hj; omega
     subst hj2
     obtain ⟨q, hq, he⟩ := h1 hj0
     refine ⟨q, hq, ?_⟩
     rw [List.getElem_append_right (Nat.le_refl _), List.getElem_append_left hq]
     simp only [List.getElem_singleton]
     exact he
end
theorem reach_le {l : List Int} {i f : Nat} (h : reach l f i = true) : ∀ d, reach l (f + d) i = true
 | 0 => h
 | d + 1 => reach_succ (reach_le h d)
theorem firsts_uniq {l : List Int} {r : Nat} (hr : upN l r = -1) : ∀ {k : Nat}, (∀ i, i < k → upN l i = -1 → i = r) → firstsN l k = if r < k then 1 else 0
 | 0, _ => by simp [firstsN]
 | k + 1, h => by
   unfold firstsN
   rw [firsts_uniq hr (fun i hi => h i (by omega))]
   by_cases hk : upN l k = -1
   · have := h k (by omega) hk
     subst this
     rw [if_pos hk, if_neg (by omega), if_pos (by omega)]; rfl
   · rw [if_neg hk]
     have : r ≠ k := fun e => hk (by rw [← e]; exact hr)
     by_cases hrk : r < k
     · rw [if_pos hrk, if_pos (by omega)]
     · rw [if_neg hrk, if_neg (by omega)]
def listG (g : Nat → Int) (n : Nat) : List Int := (List.range n).map g
theorem TreeI.tree {n : Nat} {g : Nat → Int} {taken : List Nat} (h : TreeI n g taken []) (hn : 0 < n) : IsTree (listG g n) := by
 have hlen : (listG g n).length = n := by simp [listG]
 have hup : ∀ i, i < n → upN (listG g n) i = g i := fun i hi => upN_map hi
 have hall : ∀ i, i < n ↔ i ∈ taken := fun i => by rw [h.all i, List.append_nil]
 have htl : taken.length = n := by have := h.len; simpa using this
 have hlt : ∀ j (hj : j < taken.length), taken[j] < n := fun j hj => (hall _).2 (List.getElem_mem hj)
 refine ⟨fun i hi => ?_, fun i hi => ?_, ?_⟩
 · rw [hlen] at hi ⊢
   rw [hup i hi]
   obtain ⟨j, hj, rfl⟩ := List.getElem_of_mem ((hall i).1 hi)
   by_cases hj0 : j = 0
   · subst hj0; rw [h.root hj]; omega
   · obtain ⟨k, hk, he⟩ := h.up j hj (by omega)
     rw [he]
     have := hlt k (by omega)
     omega
 · rw [hlen] at hi ⊢
   obtain ⟨j, hj, rfl⟩ := List.getElem_of_mem ((hall i).1 hi)
   have key : ∀ j (hj : j < taken.length), reach (listG g n) j taken[j] = true := by
     intro j
     induction j using Nat.strongRecOn with
     | _ j ih =>
       intro hj
       by_cases hj0 : j = 0
       · subst hj0; exact reach_end (by rw [hup _ (hlt 0 hj)]; exact h.root hj)
       · obtain ⟨k, hk, he⟩ := h.up j hj (by omega)
         obtain ⟨j', rfl⟩ : ∃ j', j = j' + 1 := ⟨j - 1, by omega⟩
         rw [Ek (j := taken[k]) (by rw [hup _ (hlt _ hj)]; exact he)]
         have := reach_le (ih k hk (by omega)) (j' - k)
         rw [show k + (j' - k) = j' by omega] at this
         exact this
   have := reach_le (key j hj) (n - j)
   rw [show j + (n - j) = n by omega] at this
   exact this
 · rw [hlen]
   have h0 : 0 < taken.length := by omega
   rw [firsts_uniq (r := taken[0]) (by rw [hup _ (hlt 0 h0)]; exact h.root h0) fun i hi hu => ?_, if_pos (hlt 0 h0)]
   rw [hup i hi] at hu
   obtain ⟨j, hj, rfl⟩ := List.getElem_of_mem ((hall i).1 hi)
   by_cases hj0 : j = 0
   · subst hj0; rfl
   · obtain ⟨k, hk, he⟩ := h.up j hj (by omega)
     omega
end Go.Proofs.Ytccogmkhijgelaa
namespace Go.Proofs.Ytccogmkhijgelaa
open Go.RowKit
theorem bd_96 : Body Try.prog 96 := Bp (by kernel_rfl)
theorem one_5 : OneT Try.prog 5 := Du (by kernel_rfl)
theorem sl_50 : SliceT Try.prog 50 5 1 := sliceT_of (by kernel_rfl)
set_option maxRecDepth 100000 in
theorem valid_ok {F : Heap} {vp ve : Value} {ps : List (Value × Edn)} {s : Stm} (hr : StmR F vp ve ps s) : Ok Try.prog 40 [.agg #[vp, ve]].toArray F fun u _ => u = .bool (decide ((checkT s).2.2 = 0)) := by
 refine Ok.intro Try.func40 rfl Try.ntmps40 rfl fun w0 => ?_
 refine Af <| Ai fun ds => Bg rfl (B4 (Ak rfl) rfl fun b1 hb1 nb1 => ?_)
 refine Aa rfl (Ae Ad) ?_
 refine Ah <| Ac <| Af <| Ai fun ds => Aa rfl (A8 B2 (Am rfl <| Ab) rfl rfl (A7 0 rfl)) ?_
 refine Bx rfl (Ba bd_17 Az (.cons (Ab) .nil) (refCheckT_ok hr) (fun _ _ h => h.trans (show checkTV s = .tuple #[.int .i64 (checkT s).1, .int .i64 (checkT s).2.1, .int .i64 (checkT s).2.2] from rfl))) ?_
 refine Aa rfl (Ag (Ab)) ?_
 refine Aa rfl (Ay (Ab) rfl) ?_
 refine Aa rfl (Ay (Am rfl <| Ab) rfl) ?_
 refine Aa rfl (Ay (Aq rfl <| Ab) rfl) ?_
 refine Aa rfl (Ae (Aq rfl <| Ab)) ?_
 refine Aa rfl (Ae (Aq rfl <| Ab)) ?_
 refine Aa rfl (Ae (Aq rfl <| Ab)) ?_
 refine Ah <| Ac <| Af <| Ai fun ds => Aa rfl (Ag (Ab)) ?_
 refine Aa rfl (Bw (Ab) Ad) ?_
 refine Aa rfl (Ae (Ab)) ?_
 refine Ah <| Ac <| A3 <| Aw rfl (.tmp (Ab) .nil) ?_
 rfl
set_option maxRecDepth 100000 in
theorem turn_ok {F : Heap} {vx : Value} {xs : List Nat} (hxs : Sl F vx 1 u8E xs) (hxb : ∀ x ∈ xs, x < 256) {n : Nat} {z : Int} (hz : z = (n : Int)) : Ok Try.prog 96 [vx, .int .i64 z].toArray F fun u _ => u = .int .i64 (turnN xs n : Int) := by
 subst hz
 refine Ok.intro Try.func96 rfl Try.ntmps96 rfl fun w0 => ?_
 have hL := hxs.plain.lt
 by_cases h0 : xs.length = 0
 ·
  refine Af <| Ai fun ds => Aa rfl (Ae Ad) ?_
  refine Ah <| Ac <| Af <| Af <| Ai fun ds => Aa rfl (Ag (Am rfl <| Ak rfl)) ?_
  refine Aa rfl (Bk sl_50 (Ab) hxs.plain) ?_
  refine Aa rfl (Bw (Ab) Ad) ?_
  refine Ah <| Ac <| Ar (Ab) (by first | rfl | exact decide_eq_true (by omega)) ?_
  refine Af <| Ai fun ds => Aa rfl (Ae Ad) ?_
  refine Ah <| Ac <| A3 <| A9 ?_
  refine Aw rfl (.tmp (Ab) .nil) ?_
  show _ = _
  have : xs = [] := List.eq_nil_of_length_eq_zero h0
  subst this
  rw [turnN_nil]; rfl
 ·
  refine Af <| Ai fun ds => Aa rfl (Ae Ad) ?_
  refine Ah <| Ac <| Af <| Af <| Ai fun ds => Aa rfl (Ag (Am rfl <| Ak rfl)) ?_
  refine Aa rfl (Bk sl_50 (Ab) hxs.plain) ?_
  refine Aa rfl (Bw (Ab) Ad) ?_
  refine Ah <| Ac <| Ao (Ab) (by first | rfl | exact decide_eq_false (by omega)) ?_
  have hlt : n % xs.length < xs.length := Nat.mod_lt _ (by omega)
  have hb := hxb _ (List.getElem_mem hlt)
  refine Ax <| Ac <| Af <| Ai fun ds => Aa rfl (Ag (A1 rfl <| Ak rfl)) ?_
  refine Aa rfl (Ag (A1 rfl <| Am rfl <| Ak rfl)) ?_
  refine Aa rfl (Ag (A1 rfl <| Aq rfl <| Ak rfl)) ?_
  refine Aa rfl (Bk sl_50 (Ab) hxs.plain) ?_
  refine Aa rfl (q_rem (Aq rfl <| Ab) (Ab) (Int.natCast_nonneg _) (by omega)) ?_
  refine Aa rfl (Be (k := n % xs.length) sl_50 (A1 rfl <| Ab) hxs.plain (Ab) (by omega) hlt) ?_
  refine Aa rfl (Ap one_5 (Ab) (hxs.cell1 hlt rfl)) ?_
  refine Aa rfl (q_convert ⟨_, Try.underlying5⟩ Try.underlying3 (Ab) (IntWalk.i64_in _ ⟨by omega, by omega⟩)) ?_
  refine Aa rfl (Ae (Ab)) ?_
  refine Ah <| Ac <| A3 <| Aw rfl (.tmp (Ab) .nil) ?_
  show _ = _
  rw [turnN_at hlt]; rfl
theorem iL_zero {n : Nat} : List.replicate n (Value.int .i64 0) = (iL (fun _ => 0) n).flatMap intE := by
 induction n with
 | zero => rfl
 | succ n ih => rw [List.replicate_succ', iL_succ, List.flatMap_append, ih]; rfl
theorem nat_get {xs : List Nat} {i : Nat} (h : i < xs.length) : (xs.flatMap natE)[i * 1]? = some (.int .i64 (xs[i] : Int)) := flat_at (enc := natE) (s := 1) (fun _ => rfl) (j := 0) xs i h rfl
theorem set_one {g : Nat → Int} {i : Nat} {v w : Int} : updI (updI g i v) i w = updI g i w := by funext j; unfold updI; split <;> rfl
theorem row_addr {b n c : Nat} : addc (base (.slice (some ⟨b, 0, none⟩) n n)) (c * 1) = ⟨b, c * 1, none⟩ := by simp [base, addc]
theorem updI_ne {g : Nat → Int} {i : Nat} {v : Int} : ∀ j, j ≠ i → updI g i v j = g j := fun j h => by unfold updI; rw [if_neg h]
theorem updI_eq {g : Nat → Int} {i : Nat} {v : Int} : updI g i v i = v := by unfold updI; rw [if_pos rfl]
set_option maxRecDepth 100000 in
theorem tree_ok7 {F : Heap} {vx : Value} {xs : List Nat} (hxs : Sl F vx 1 u8E xs) (hxb : ∀ x ∈ xs, x < 256) {many : Nat} (hm0 : 0 < many) (hm5 : many ≤ 5) : Ok Try.prog 41 [.int .i64 (many : Int), vx].toArray F fun u F' => ∃ l, Ints F' u l ∧ l.length = many ∧ IsTree l := by
 have hle0 : F.le F := Heap.le_refl _
 refine Ok.intro Try.func41 rfl Try.ntmps41 rfl fun w0 => ?_
 have hxl := hxs.plain.lt
 refine Af <| Ai fun ds => Aa rfl (Ae Ad) ?_
 refine Ah <| Ac <| Af <| Ai fun ds => Aa rfl (Ag (Am rfl <| Ak rfl)) ?_
 refine Bg rfl (x_make (k := many) Bj el_3 rfl rfl (Ab) (Ab) rfl (by omega) (by omega) fun b1 hb1 nb1 => ?_)
 refine Aa rfl (Ae (Ab)) ?_
 refine Ah <| Ac <| Af <| Ai fun ds => Aa rfl (Ae Ad) ?_
 refine Aa rfl (Ae Ad) ?_
 refine Ah <| Ac <| Af <| Af <| Ai fun ds => Aa rfl (Ae Ad) ?_
 refine Ah <| Ac <| A0 <| Bu [6, 8, 13, 14, 15, 16, 17, 18, 19, 20, 21] (fun m e σ => ∃ k : Nat, m + k = many ∧ e 8 = .int .i64 (k : Int) ∧ ∃ v6 R6, e 6 = v6 ∧ Own 3 1 v6 (List.range k).length ((List.range k).flatMap natE) R6 ∧ σ = ⟨F, (b1, bx 3 ((iL (fun _ => 0) many).flatMap intE)) :: R6⟩) (many) ?_ ?_
 · exact ⟨0, by omega, (Ab), _, _, (Aq rfl <| Ab), Own.nil, by rw [iL_zero]⟩
 ·
  rintro m e _ ⟨k, hm9, hs8, v6, R6, hs6, ho, rfl⟩; have hrl : (List.range k).length = k := List.length_range
  by_cases hlt : k < many
  ·
   refine Af <| Af <| Ai fun ds => Aa rfl (Ag (At rfl hs8)) ?_
   refine Aa rfl (Ag (Am rfl <| Aj rfl <| A1 rfl <| Aq rfl <| Am rfl <| Ak rfl)) ?_
   refine Aa rfl (Bv (Am rfl <| Ab) (Ab)) ?_
   refine Ah <| Ac <| Ar (Ab) (by first | rfl | exact decide_eq_true (by omega)) ?_
   refine Ax <| Ac <| Af <| A0 <| Ai fun ds => Aa rfl (Ag (Aq rfl <| Am rfl <| At rfl hs6)) ?_
   refine Aa rfl (Ag (A1 rfl <| At rfl hs8)) ?_
   refine Bg rfl (B7 Bj C9 rfl (.cons (Ab) .nil) rfl rfl (by decide) (by simp [Value.oneCell']) fun b3 hb3 nb3 => ?_)
   refine Bg rfl (Cg Bj el_3 (Aq rfl <| Ab) ho (Ab) (Dg (s := 1) 0 rfl rfl (by simp [Value.oneCell'])) (by omega) (by omega) (.s <| .s <| .z) .last fun v4 R5 ho6 => ?_)
   have ho2 := ho6.snoc (x := k) rfl rfl
   refine Aa rfl (Ae (Ab)) ?_
   refine Ah <| Bb <| Ac <| Df (fun _ _ h => h.drop (.cons _ <| .cons_cons _ <| .refl _)) ?_
   refine Ai fun ds => Aa rfl (Ag (A5 rfl <| At rfl hs8)) ?_
   refine Aa rfl (Bt (Ab) Ad rfl (by omega) (by omega)) ?_
   refine Aa rfl (Ae (Ab)) ?_
   refine Ah <| Ac ⟨_, m - 1, Off.eq (D1 rfl <| ou2 rfl <| Dy rfl <| Bf), by omega, ?_⟩
   exact ⟨k + 1, by omega, (Ab), _, _, (Aq rfl <| Am rfl <| Ab), by rw [List.range_succ]; exact ho2, rfl⟩
  ·
   refine Af <| Af <| Ai fun ds => Aa rfl (Ag (At rfl hs8)) ?_
   refine Aa rfl (Ag (Am rfl <| Aj rfl <| A1 rfl <| Aq rfl <| Am rfl <| Ak rfl)) ?_
   refine Aa rfl (Bv (Am rfl <| Ab) (Ab)) ?_
   refine Ah <| Ac <| Ao (Ab) (by first | rfl | exact decide_eq_false (by omega)) ?_
   obtain rfl : many = k := by omega
   refine Cj (σ := ⟨_, _⟩) (by rfl) ho (.s <| .z) .last fun F7 hF8 hz9 => ?_
   replace hxs := hxs.mono hF8
   replace hle0 := Heap.le_trans hle0 hF8
   have hlf := ho.sl (fun _ => rfl) hz9 (by omega)
   refine Br ?_
   refine Bd <| Bd <| Bh <| Ac <| Af <| A0 <| Bu [6, 7, 9, 10, 22, 23, 24, 25, 26, 27, 28, 29, 30, 31, 32, 33, 34, 35, 36, 37, 38, 39, 40, 41, 42, 43, 44, 45, 46, 47, 48, 49, 50, 51, 52, 53, 54, 55, 56, 57, 58, 59, 60, 61, 62, 63, 64, 65, 66, 67, 68, 69, 70, 71] (fun m e σ => ∃ G, F7.le G ∧ ∃ (g : Nat → Int) (taken left : List Nat) (v6 v7 : Value) (R7 : List (Nat × Obj)), m = left.length ∧ e 6 = v6 ∧ e 7 = v7 ∧ Nats G v6 left ∧ Own 3 1 v7 taken.length (taken.flatMap natE) R7 ∧ TreeI many g taken left ∧ σ = ⟨G, (b1, bx 3 ((iL g many).flatMap intE)) :: R7⟩) (many) ?_ ?_
   · exact ⟨_, Heap.le_refl _, fun _ => 0, [], _, _, _, _, List.length_range.symm, (Aq rfl <| Am rfl <| At rfl hs6), (Aq rfl <| Am rfl <| Aj rfl <| Am rfl <| Ab), hlf, Ef, TreeI.start, rfl⟩
   ·
    rintro m2 e2 _ ⟨G, hFG, g, taken, left, v6, v7, R7, rfl, ht6, ht7, hlf, ho, hI, rfl⟩; replace hxs := hxs.mono hFG; replace hle0 := Heap.le_trans hle0 hFG; have hlf9 := hlf.plain.lt; have hlen0 := hI.len
    by_cases hl0 : left.length = 0
    ·
     refine Af <| Af <| Ai fun ds => Aa rfl (Ag (At rfl ht6)) ?_
     refine Aa rfl (Bk Bj (Ab) hlf.plain) ?_
     refine Aa rfl (C7 (Ab) Ad) ?_
     refine Ah <| Ac <| Ao (Ab) (decide_eq_false (by omega)) ?_
     have hle := List.eq_nil_of_length_eq_zero hl0
     subst hle
     refine Br ?_
     refine Bd <| Bd <| Bh <| Ac <| Af <| B9 (i := 0) rfl hb1 (.here) fun F11 hF12 hz5 => ?_
     refine Ai fun ds => Aa rfl (Ag (Aq rfl <| Am rfl <| Aj rfl <| Aq rfl <| Am rfl <| Aj rfl <| Aq rfl <| Am rfl <| Ab)) ?_
     refine Aa rfl (Ae (Ab)) ?_
     refine Ah <| Ac <| A3 <| Aw rfl (.tmp (Ab) .nil) ?_
     refine ⟨iL g many, sl_box hz5 rfl C6 (fun _ => rfl) (by omega), C6, ?_⟩
     exact hI.tree hm0
    ·
     refine Af <| Af <| Ai fun ds => Aa rfl (Ag (At rfl ht6)) ?_
     refine Aa rfl (Bk Bj (Ab) hlf.plain) ?_
     refine Aa rfl (C7 (Ab) Ad) ?_
     refine Ah <| Ac <| Ar (Ab) (decide_eq_true (by omega)) ?_
     have hkk : (turnN xs taken.length % left.length) < left.length := Nat.mod_lt _ (by omega)
     have hil := hI.lt hkk
     have hlen := hI.len
     have ht1 : turnN xs taken.length < 256 := turnN_lt hxb
     have ht2 : turnN xs (many + taken.length) < 256 := turnN_lt hxb
     refine Ax <| Ac <| A0 <| Af <| Ai fun ds => Aa rfl (Ag (Aq rfl <| Am rfl <| Aj rfl <| Aq rfl <| Am rfl <| Aj rfl <| A1 rfl <| Aq rfl <| Am rfl <| Ak rfl)) ?_
     refine Aa rfl (Ag (A1 rfl <| At rfl ht7)) ?_
     refine Aa rfl (Bk Bj (Ab) (ho.plain (by omega))) ?_
     refine Bx rfl (Ba bd_96 Az (.cons (Aq rfl <| Ab) (.cons (Ab) .nil)) (turn_ok hxs hxb rfl) (fun _ _ h => h)) ?_
     refine Aa rfl (Ag (A1 rfl <| Aq rfl <| Am rfl <| At rfl ht6)) ?_
     refine Aa rfl (Bk Bj (Ab) hlf.plain) ?_
     refine Aa rfl (q_rem (Aq rfl <| Ab) (Ab) (Int.natCast_nonneg _) (by omega)) ?_
     refine Aa rfl (Ae (Ab)) ?_
     refine Ah <| Ac <| Af <| Ai fun ds => Aa rfl (Ag (A5 rfl <| Aq rfl <| Am rfl <| At rfl ht6)) ?_
     refine Aa rfl (Ag (Am rfl <| Ab)) ?_
     refine Aa rfl (Be (k := (turnN xs taken.length % left.length)) Bj (Am rfl <| Ab) hlf.plain (Ab) (by omega) hkk) ?_
     refine Aa rfl (Ap Bn (Ab) (hlf.cell1 hkk rfl)) ?_
     refine Aa rfl (Ae (Ab)) ?_
     refine Ah <| Ac <| Af ?_
     have hleS := hle0
     refine Cy (.inl rfl) (fun _ _ h => h) (.cons_cons _ <| .refl _) [] (by kernel_rfl) fun ds => ?_
     refine A4 1 rfl (by kernel_rfl) (by kernel_rfl) (by kernel_rfl) (by kernel_rfl) rfl rfl (fun _ h => h.drop (.cons_cons _ <| .refl _)) (fun _ _ _ h => h) (Ag (A2 rfl <| At rfl ht6)) ?_
     refine A4 2 rfl (by kernel_rfl) (by kernel_rfl) (by kernel_rfl) (by kernel_rfl) rfl rfl (fun _ h => h.drop (.cons_cons _ <| .refl _)) (fun _ _ _ h => h) (Ag (A1 rfl <| Aq rfl <| Ab)) ?_
     refine A4 3 rfl (by kernel_rfl) (by kernel_rfl) (by kernel_rfl) (by kernel_rfl) rfl rfl (fun _ h => h.drop (.cons_cons _ <| .refl _)) (fun _ _ _ h => h) (Em Bj (Am rfl <| Ab) hlf.plain (Ab) (k := (turnN xs taken.length % left.length)) (by omega) (by omega)) ?_
     refine A4 5 rfl (by kernel_rfl) (by kernel_rfl) (by kernel_rfl) (by kernel_rfl) rfl rfl (fun _ h => h.drop (.cons_cons _ <| .refl _)) (fun _ _ _ h => h) (Ag (A2 rfl <| Aq rfl <| Am rfl <| At rfl ht6)) ?_
     refine A4 6 rfl (by kernel_rfl) (by kernel_rfl) (by kernel_rfl) (by kernel_rfl) rfl rfl (fun _ h => h.drop (.cons_cons _ <| .refl _)) (fun _ _ _ h => h) (Ag (A5 rfl <| Am rfl <| Ab)) ?_
     refine A4 7 rfl (by kernel_rfl) (by kernel_rfl) (by kernel_rfl) (by kernel_rfl) rfl rfl (fun _ h => h.drop (.cons_cons _ <| .refl _)) (fun _ _ _ h => h) (Bt (Ab) Ad rfl (by omega) (by omega)) ?_
     refine A4 8 rfl (by kernel_rfl) (by kernel_rfl) (by kernel_rfl) (by kernel_rfl) rfl rfl (fun _ h => h.drop (.cons_cons _ <| .refl _)) (fun _ _ _ h => h) (q_sliceFrom Bj (Aq rfl <| Ab) hlf.plain (Ab) (k := (turnN xs taken.length % left.length) + 1) (by omega) (by omega)) ?_
     refine WX_x 0 rfl (by kernel_rfl) rfl (x_build0 Bj fun b13 hb13 nb13 => ⟨fun _ _ => (fun _ h => h.drop (.cons _ <| .cons_cons _ <| .refl _)), ?_⟩)
     refine WX_x 4 rfl (by kernel_rfl) rfl (Cg Bj el_3 (Ab) (Eg rfl) (A1 rfl <| Am rfl <| Ab) ((hlf.to (k := (turnN xs taken.length % left.length)) (by omega)).src (fun _ => rfl) natE_one) (by rw [List.length_take]; omega) (by rw [List.length_take]; omega) (.z) .box fun v14 R15 ho16 => ⟨fun _ _ => (fun _ h => h.drop (List.sublist_append_of_sublist_right <| .cons_cons _ <| .refl _)), ?_⟩)
     refine WX_x 9 rfl (by kernel_rfl) rfl (Cg Bj el_3 (Ab) ho16 (Aq rfl <| Ab) ((hlf.from (k := (turnN xs taken.length % left.length) + 1) (by omega)).src (fun _ => rfl) natE_one) (by rw [List.length_take, List.length_drop]; omega) (by rw [List.length_take, List.length_drop]; omega) (.z) .more fun v17 R18 ho19 => ⟨fun _ _ => (fun _ h => h.drop (List.sublist_append_of_sublist_right <| .cons_cons _ <| .refl _)), ?_⟩)
     have ho45 : Own 3 1 v17 (left.eraseIdx (turnN xs taken.length % left.length)).length ((left.eraseIdx (turnN xs taken.length % left.length)).flatMap natE) R18 := by rw [List.eraseIdx_eq_take_drop_succ]; simpa using ho19
     refine A4 10 rfl (by kernel_rfl) (by kernel_rfl) (by kernel_rfl) (by kernel_rfl) rfl rfl (fun _ h => h.drop (List.sublist_append_of_sublist_right <| .cons_cons _ <| .refl _)) (fun _ _ _ h => h) (Ae (Ab)) ?_
     refine C2 (by kernel_rfl) ?_ _
     refine Ac <| Af <| Cj (σ := ⟨_, _⟩) (by rfl) ho45 (.z) .more fun F20 hF21 hz22 => ?_
     replace hxs := hxs.mono hF21
     replace hFG := Heap.le_trans hFG hF21
     refine WC_pickB (.one (.skip <| .here) <| .lastb (.lastS)) ?_
     have hlf2 := ho45.sl (fun _ => rfl) hz22 (by rw [List.length_eraseIdx_of_lt hkk]; omega)
     refine Ai fun ds => Aa rfl (Ag (A2 rfl <| A5 rfl <| Aq rfl <| Am rfl <| Aj rfl <| Aq rfl <| Am rfl <| Aj rfl <| Aq rfl <| Am rfl <| Ab)) ?_
     refine Aa rfl (Ag (A5 rfl <| A1 rfl <| Ab)) ?_
     refine Aa rfl (Be (k := left[(turnN xs taken.length % left.length)]) Bj (Am rfl <| Ab) (plain_row (Nat.le_refl _) (by omega)) (Ab) rfl hil) ?_
     refine Cc (x_storeK sz_3 (Ab) row_addr Ad (i := 0) rfl (by rw [iL_len1]; omega) rfl (.here) ?_)
     refine Ah <| Ac <| Af <| Af ?_
     rw [iL_set hil]
     by_cases ht0 : taken.length = 0
     ·
      refine Ai fun ds => Aa rfl (Ag (A2 rfl <| A5 rfl <| A1 rfl <| Aq rfl <| At rfl ht7)) ?_
      refine Aa rfl (Bk Bj (Ab) (ho.plain (by omega))) ?_
      refine Aa rfl (C7 (Ab) Ad) ?_
      refine Ah <| Ac <| Ao (Ab) (decide_eq_false (by omega)) ?_
      refine Ax <| Ac <| Ai fun ds => Aa rfl (Ag (Bl rfl <| Am rfl <| At rfl ht7)) ?_
      refine Aa rfl (Ag (A2 rfl <| Aq rfl <| Ab)) ?_
      refine Bg rfl (B7 Bj C9 rfl (.cons (Ab) .nil) rfl rfl (by decide) (by simp [Value.oneCell']) fun b23 hb23 nb23 => ?_)
      refine Bg rfl (Cg Bj el_3 (Aq rfl <| Ab) ho (Ab) (Dg (s := 1) 0 rfl rfl (by simp [Value.oneCell'])) (by omega) (by omega) (.s <| .s <| .z) .last fun v24 R25 ho26 => ?_)
      have ho9 := ho26.snoc (x := left[(turnN xs taken.length % left.length)]) rfl rfl
      refine Ds (.one (.next <| .here) <| .lastb (.next <| .last)) ?_
      refine Aa rfl (Ae (Ab)) ?_
      refine Ah <| Bb ?_
      refine Ac ⟨_, (left.eraseIdx (turnN xs taken.length % left.length)).length, Off.eq (ou32 rfl <| Es rfl <| ou2 rfl <| Bf), (by rw [List.length_eraseIdx_of_lt hkk]; omega), ?_⟩
      refine ⟨_, hFG, updI g left[(turnN xs taken.length % left.length)] (-1), _, _, _, _, _, rfl, (A5 rfl <| Aq rfl <| Am rfl <| Ab), (Ab), hlf2, ho9, hI.step hkk updI_ne (fun h => updI_eq) (fun h => absurd h (by omega)), rfl⟩
     ·
      have hqq : (turnN xs (many + taken.length) / 2 % taken.length) < taken.length := Nat.mod_lt _ (by omega)
      refine Ai fun ds => Aa rfl (Ag (A2 rfl <| A5 rfl <| A1 rfl <| Aq rfl <| At rfl ht7)) ?_
      refine Aa rfl (Bk Bj (Ab) (ho.plain (by omega))) ?_
      refine Aa rfl (C7 (Ab) Ad) ?_
      refine Ah <| Ac <| Ar (Ab) (decide_eq_true (by omega)) ?_
      refine Ai fun ds => Aa rfl (Ag (Bl rfl <| Am rfl <| Aj rfl <| Aq rfl <| Am rfl <| Aj rfl <| Aq rfl <| Am rfl <| Ab)) ?_
      refine Aa rfl (Ag (A2 rfl <| Aq rfl <| Ab)) ?_
      refine Aa rfl (Ag (Bl rfl <| Aq rfl <| Am rfl <| At rfl ht7)) ?_
      refine Aa rfl (Ag (Bl rfl <| A1 rfl <| Aj rfl <| Aq rfl <| Am rfl <| Aj rfl <| A1 rfl <| Aq rfl <| Am rfl <| Ak rfl)) ?_
      refine Aa rfl (Ag (Bl rfl <| A1 rfl <| Am rfl <| Aj rfl <| Aq rfl <| Am rfl <| Aj rfl <| A1 rfl <| Aq rfl <| Am rfl <| Ak rfl)) ?_
      refine Aa rfl (Ag (Bl rfl <| A1 rfl <| Aq rfl <| At rfl ht7)) ?_
      refine Aa rfl (Bk Bj (Ab) (ho.plain (by omega))) ?_
      refine Aa rfl (Bt (Aq rfl <| Ab) (Ab) rfl (by omega) (by omega)) ?_
      refine Bx rfl (Ba bd_96 Az (.cons (A1 rfl <| Ab) (.cons (Ab) .nil)) (turn_ok hxs hxb (n := many + taken.length) (by push_cast; rfl)) (fun _ _ h => h)) ?_
      refine Aa rfl (q_quo (Ab) Ad (Int.natCast_nonneg _) (by omega) (by decide)) ?_
      refine Aa rfl (Ag (Bl rfl <| A5 rfl <| Aq rfl <| Am rfl <| At rfl ht7)) ?_
      refine Aa rfl (Bk Bj (Ab) (ho.plain (by omega))) ?_
      refine Aa rfl (q_rem (Aq rfl <| Ab) (Ab) (by omega) (by omega)) ?_
      refine Aa rfl (Be (k := (turnN xs (many + taken.length) / 2 % taken.length)) Bj (A5 rfl <| Aq rfl <| Ab) (ho.plain (by omega)) (Ab) (by push_cast; rfl) hqq) ?_
      refine Aa rfl (Ap Bn (Ab) (own_cell ho (fun p hp => .tail _ (hp)) (nat_get hqq))) ?_
      refine Aa rfl (Be (k := left[(turnN xs taken.length % left.length)]) Bj (A5 rfl <| A1 rfl <| Aq rfl <| Ab) (plain_row (Nat.le_refl _) (by omega)) (A5 rfl <| A1 rfl <| Am rfl <| Ab) rfl hil) ?_
      refine Cc (x_storeK sz_3 (Ab) row_addr (Am rfl <| Ab) (i := 0) rfl (by rw [iL_len1]; omega) rfl (.here) ?_)
      refine Ah <| Ac ?_
      rw [iL_set hil, set_one]
      refine Ai fun ds => Aa rfl (Ag (Bl rfl <| A2 rfl <| Am rfl <| At rfl ht7)) ?_
      refine Aa rfl (Ag (Bl rfl <| Aq rfl <| Ab)) ?_
      refine Bg rfl (B7 Bj C9 rfl (.cons (Ab) .nil) rfl rfl (by decide) (by simp [Value.oneCell']) fun b27 hb27 nb27 => ?_)
      refine Bg rfl (Cg Bj el_3 (Aq rfl <| Ab) ho (Ab) (Dg (s := 1) 0 rfl rfl (by simp [Value.oneCell'])) (by omega) (by omega) (.s <| .s <| .z) .last fun v28 R29 ho30 => ?_)
      have ho9 := ho30.snoc (x := left[(turnN xs taken.length % left.length)]) rfl rfl
      refine Ds (.one (.next <| .here) <| .lastb (.next <| .last)) ?_
      refine Aa rfl (Ae (Ab)) ?_
      refine Ah <| Bb ?_
      refine Ac ⟨_, (left.eraseIdx (turnN xs taken.length % left.length)).length, Off.eq (ou32 rfl <| C8 rfl <| Es rfl <| ou2 rfl <| Bf), (by rw [List.length_eraseIdx_of_lt hkk]; omega), ?_⟩
      refine ⟨_, hFG, updI g left[(turnN xs taken.length % left.length)] (taken[(turnN xs (many + taken.length) / 2 % taken.length)] : Int), _, _, _, _, _, rfl, (A2 rfl <| A5 rfl <| Aq rfl <| Am rfl <| Ab), (Ab), hlf2, ho9, hI.step hkk updI_ne (fun h => absurd h ht0) (fun h => ⟨_, hqq, updI_eq⟩), rfl⟩
end Go.Proofs.Ytccogmkhijgelaa
namespace Go.Proofs.Ytccogmkhijgelaa
theorem tree_err0 {s : Stm} {l : List Int} (h0 : (checkT s).2.2 = 0) (hl : l.length = s.editions.length) (ht : IsTree l) : treeErr s l = 0 := by
 have h1 : trTo s l l.length = 0 := by
   unfold trTo
   rw [gTo_ok (treeZ_ok h0 hl), List.take_length, if_neg]
   intro h
   rw [List.any_eq_true] at h
   obtain ⟨x, hx, hb⟩ := h
   obtain ⟨i, hi, rfl⟩ := List.getElem_of_mem hx
   have := ht.in_ i hi
   rw [up_at hi] at hb
   simp [inT, inB] at hb
   omega
 rw [treeErr_in h1, ht.isT]; rfl
theorem cost_nofit {s : Stm} {l : List Int} (h : fitsT s l = false) : costL s l = 1000 := by unfold costL; unfold fitsT at h; rw [h]; rfl
theorem fit_of_cost {s : Stm} {l : List Int} (h : costL s l < 1000) : fitsT s l = true := by
 cases hf : fitsT s l with
 | true => rfl
 | false => rw [cost_nofit hf] at h; omega
section
variable {s : Stm} {l : List Int}
theorem years_edge (ht : IsTree l) (hl : l.length = s.editions.length) {i k : Nat} (hi : i < l.length) (h : upN l i = (k : Int)) : firstY s (treeE l) k + 1 ≤ firstY s (treeE l) i ∧ lastY s (treeE l) k + 1 ≤ lastY s (treeE l) i := by
 have he := treeE_at hi h
 have hd : Dag s.editions.length (treeE l) := by rw [← hl]; exact ht.dag
 refine ⟨hd.fits (base := fun i => (s.ed i).lo) he, ?_⟩
 have h1 := hd.swap.fits (base := fun i => -(s.ed i).hi) (e := (i, k)) (Dq.2 he)
 simp only at h1
 unfold lastY
 omega
end
theorem cost_sum {s : Stm} {l : List Int} (h : costL s l < 1000) : costL s l = sumN s.places.length (leastL s l) ∧ ∀ p, p < s.places.length → leastL s l p < 1000 := by
 have hf := fit_of_cost h
 unfold fitsT at hf
 unfold costL at h ⊢
 rw [if_pos hf] at h ⊢
 refine ⟨by omega, fun p hp => ?_⟩
 have := sumN_mem (n := s.places.length) (i := p) (f := leastL s l) (fun i _ => Dm.1) hp
 omega
theorem least_some {s : Stm} {l : List Int} {p : Nat} (hl : l.length = s.editions.length) (h : leastL s l p < 1000) : ∃ g, Filling s l p g ∧ Possible s l p g ∧ changesOf l g = leastL s l p := by
 rcases foldmin_or (f := countL s l p) (l := allFill s p) (m := 1000) with h1 | ⟨x, hx, h1⟩
 · have : leastL s l p = 1000 := h1
   omega
 · have h2 : leastL s l p = countL s l p x := h1
   have h3 := ((allFill_mem hl).1 hx).2
   rw [h2] at h
   unfold countL at h h2
   split at h
   · rename_i h4
     rw [if_pos h4] at h2
     exact ⟨_, h3, possB_iff.1 h4, h2.symm⟩
   · omega
end Go.Proofs.Ytccogmkhijgelaa
namespace Go.Proofs.Ytccogmkhijgelaa
open Go.RowKit
theorem bd_40 : Body Try.prog 40 := Bp (by kernel_rfl)
theorem bd_41 : Body Try.prog 41 := Bp (by kernel_rfl)
end Go.Proofs.Ytccogmkhijgelaa
namespace Go.Proofs.Ytccogmkhijgelaa
def EarR (F : Heap) (u : Go.Value) (s : Stm) (E : Edges) : Prop := fitsE s E = true ∧ Ints F u (iL (firstY s E) s.editions.length) ∨ fitsE s E = false ∧ u = .slice none 0 0
theorem EarR.mono {F F' : Heap} {u : Go.Value} {s : Stm} {E : Edges} (h : EarR F u s E) (hF : F.le F') : EarR F' u s E := h.elim (fun h => .inl ⟨h.1, h.2.mono hF⟩) .inr
theorem EarR.nil {F : Heap} {u : Go.Value} {s : Stm} {E : Edges} (h : EarR F u s E) (hn : 0 < s.editions.length) : ∃ a k c, u = .slice a k c ∧ (decide (a = none)) = !(fitsE s E) := by
 rcases h with ⟨h1, h2⟩ | ⟨h1, rfl⟩
 · obtain ⟨a, c, rfl, -, g2, -, -⟩ := h2.plain
   refine ⟨a, _, c, rfl, ?_⟩
   rw [h1]
   refine decide_eq_false fun h => ?_
   have := (g2 h).1
   rw [C6] at this
   omega
 · exact ⟨none, 0, 0, rfl, by rw [h1]; rfl⟩
section
variable {s : Stm} {l : List Int} {M : Edges} {r i q : Nat} {cur : Nat → Int}
end
end Go.Proofs.Ytccogmkhijgelaa
namespace Go.Proofs.Ytccogmkhijgelaa
open Go.RowKit
theorem q_remN {P : Program} {B : Base} {e : Env} {σ : St} {d : Option Nat} {ty : TypeId} {pos : String} {af : Array Edge} {gd : Option (Nat × Bool)} {x y : Operand} {a b : Nat} {k : IntKind} {t u : TypeId} (hx : ev e x = .int k (a : Int)) (hy : ev e y = .int k (b : Int)) (hb : 0 < b) :
   OpR P B ⟨d, .binOp .rem t x y u, ty, pos, af, gd⟩ e σ (.int k ((a % b : Nat) : Int)) := by
 have := q_rem (P := P) (B := B) (σ := σ) (d := d) (ty := ty) (pos := pos) (af := af) (gd := gd) (t := t) (u := u) hx hy (Int.natCast_nonneg a) (by omega)
 rwa [← Int.natCast_emod] at this
end Go.Proofs.Ytccogmkhijgelaa
namespace Go.Proofs.Ytccogmkhijgelaa
def diffN (l : List ByteArray) : Prop := l.Pairwise fun a b => sameS a b = false
theorem diffN_iff {α : Type} {f : α → ByteArray} {l : List α} : diffN (l.map f) ↔ ∀ j (hj : j < l.length), (l.take j).any (fun y => sameS (f y) (f l[j])) = false := by
 unfold diffN
 rw [List.pairwise_map, List.pairwise_iff_getElem]
 constructor
 · intro h j hj
   rw [List.any_eq_false]
   intro y hy
   obtain ⟨i, hi, rfl⟩ := List.getElem_of_mem hy
   rw [List.length_take] at hi
   rw [List.getElem_take]
   rw [h i j (by omega) hj (by omega)]; simp
 · intro h i j hi hj hij
   have := List.any_eq_false.1 (h j hj) l[i] (by rw [List.mem_iff_getElem]; exact ⟨i, by rw [List.length_take]; omega, by rw [List.getElem_take]⟩)
   simpa using this
structure CheckOk (s : Stm) : Prop where
 np : inB 1 6 s.places.length = true
 pl : ∀ x ∈ s.places, nameOk x.name = true ∧ inB 0 1 x.kind = true
 pn : diffN (s.places.map (·.name))
 ne : inB 1 5 s.editions.length = true
 ed : ∀ x ∈ s.editions, nameOk x.name = true ∧ ednErr s x = 0
 en : diffN (s.editions.map (·.name))
theorem check_ok {s : Stm} : (checkT s).2.2 = 0 ↔ CheckOk s := by
 constructor
 · intro h
   obtain ⟨h1, h2, h3, h4⟩ := checkT_none h
   have hp : ∀ k (hk : k < s.places.length), nameOk s.places[k].name = true ∧ (s.places.take k).any (fun y => sameS y.name s.places[k].name) = false ∧ inB 0 1 s.places[k].kind = true := fun k hk => by
     have := h2 k hk
     rw [Eo hk] at this
     split at this
     · cases this
     · split at this
       · cases this
       · split at this
         · cases this
         · rename_i a b c; exact ⟨by simpa using a, by simpa using b, by simpa using c⟩
   have he : ∀ k (hk : k < s.editions.length), nameOk s.editions[k].name = true ∧ (s.editions.take k).any (fun y => sameS y.name s.editions[k].name) = false ∧ ednErr s s.editions[k] = 0 := fun k hk => by
     have := h4 k hk
     rw [Dz hk] at this
     rw [ed_at hk]
     split at this
     · cases this
     · split at this
       · cases this
       · rename_i a b; exact ⟨by simpa using a, by simpa using b, this⟩
   refine ⟨h1, fun x hx => ?_, diffN_iff.2 fun j hj => (hp j hj).2.1, h3, fun x hx => ?_, diffN_iff.2 fun j hj => (he j hj).2.1⟩
   · obtain ⟨k, hk, rfl⟩ := List.getElem_of_mem hx
     exact ⟨(hp k hk).1, (hp k hk).2.2⟩
   · obtain ⟨k, hk, rfl⟩ := List.getElem_of_mem hx
     exact ⟨(he k hk).1, (he k hk).2.2⟩
 · intro h
   have hp : firstQ s.places.length (plcErr s) = (0, 0) := firstQ_ok fun k hk => by
     have h1 := h.pl _ (List.getElem_mem hk)
     have h2 := diffN_iff.1 h.pn k hk
     rw [Eo hk, h1.1, h2, h1.2]; rfl
   have he : firstQ s.editions.length (edErr s) = (0, 0) := firstQ_ok fun k hk => by
     have h1 := h.ed _ (List.getElem_mem hk)
     have h2 := diffN_iff.1 h.en k hk
     rw [Dz hk, ← ed_at hk, h1.1, h2, h1.2]; rfl
   unfold checkT
   rw [if_neg (by rw [h.np]; simp), hp, if_neg (by simp), if_neg (by rw [h.ne]; simp), he, if_neg (by simp)]
/-- With another reading it is without faults, too. -/
theorem check_set {s : Stm} (h0 : (checkT s).2.2 = 0) {x p : Nat} {v : Int} (hx : x < s.editions.length) (hv : 0 ≤ v ∧ v ≤ 3) : (checkT (setS s x p v)).2.2 = 0 := by
 have h := check_ok.1 h0
 rw [check_ok]
 have hnm : (setS s x p v).editions.map (·.name) = s.editions.map (·.name) := by
   unfold setS
   rw [List.map_set]
   apply List.ext_getElem
   · simp
   · intro j h1 h2
     rw [List.getElem_set]
     split
     · rename_i hj; subst hj; simp [Edn.setR, ed_at hx]
     · rfl
 refine ⟨h.np, h.pl, h.pn, by rw [Di]; exact h.ne, fun y hy => ?_, by rw [hnm]; exact h.en⟩
 rcases List.mem_or_eq_of_mem_set hy with hy | rfl
 · exact h.ed y hy
 · have h1 := h.ed (s.ed x) (by rw [← ed_at hx]; exact List.getElem_mem hx)
   refine ⟨h1.1, ?_⟩
   have h2 := h1.2
   unfold ednErr at h2 ⊢
   split at h2
   · cases h2
   · rename_i k1
     split at h2
     · cases h2
     · rename_i k2
       split at h2
       · cases h2
       · rename_i k3
         split at h2
         · cases h2
         · rename_i k4
           rw [if_neg (show ¬ (inB 1450 1850 ((s.ed x).setR p v).lo && inB 1450 1850 ((s.ed x).setR p v).hi) = false from k1), if_neg (show ¬ ((s.ed x).setR p v).hi < ((s.ed x).setR p v).lo from k2), if_neg (show ¬ ((s.ed x).setR p v).rd.length ≠ (setS s x p v).places.length by show ¬ ((s.ed x).rd.set p v).length ≠ s.places.length; rw [List.length_set]; exact k3), if_neg]
           intro h5
           rw [List.any_eq_true] at h5
           obtain ⟨z, hz, hb⟩ := h5
           rcases List.mem_or_eq_of_mem_set (show z ∈ (s.ed x).rd.set p v from hz) with hz | rfl
           · have : ((s.ed x).rd.any fun z => !(inB 0 3 z)) = false := by simpa using k4
             exact absurd hb (List.any_eq_false.1 this z hz)
           · simp [inB] at hb; omega
section
variable {s s' : Stm} {l : List Int}
theorem least_len (hl : l.length = s.editions.length) {p : Nat} (h : leastL s l p < 1000) : leastL s l p ≤ l.length := by
 obtain ⟨g, -, -, h1⟩ := least_some hl h
 rw [← h1]; exact Eh.2
theorem sum_le_mul {n : Nat} {f : Nat → Int} {c : Int} (h : ∀ i, i < n → f i ≤ c) : sumN n f ≤ n * c := by
 induction n with
 | zero => simp [sumN]
 | succ n ih =>
   have h1 := ih fun i hi => h i (by omega)
   have h2 := h n (by omega)
   simp only [sumN]
   have h3 : ((n + 1 : Nat) : Int) * c = (n : Int) * c + c := by push_cast; rw [Int.add_mul, Int.one_mul]
   rw [h3]; omega
theorem cost_iff (hv : ValidT s) (hl : l.length = s.editions.length) : costL s l < 1000 ↔ fitsT s l = true ∧ ∀ p, p < s.places.length → leastL s l p < 1000 := by
 constructor
 · exact fun h => ⟨fit_of_cost h, (cost_sum h).2⟩
 · rintro ⟨h1, h2⟩
   unfold fitsT at h1
   unfold costL
   rw [if_pos h1]
   have h3 := sum_le_mul (n := s.places.length) (f := leastL s l) (c := 5) fun p hp => by
     have := least_len hl (h2 p hp)
     have := hv.ne
     omega
   have h4 := hv.np
   have h5 : (s.places.length : Int) * 5 ≤ 6 * 5 := Int.mul_le_mul_of_nonneg_right (by omega) (by omega)
   omega
/-- No fewer at each place: no fewer in all. -/
theorem cost_le (hv : ValidT s) (hl : l.length = s.editions.length) (hp : s'.places.length = s.places.length) (hf : fitsT s' l = true → fitsT s l = true) (h : ∀ p, p < s.places.length → leastL s l p ≤ leastL s' l p) (hc : costL s' l < 1000) : costL s l < 1000 ∧ costL s l ≤ costL s' l := by
 obtain ⟨h1, h2⟩ := cost_sum hc
 have h3 : costL s l < 1000 := (cost_iff hv hl).2 ⟨hf (fit_of_cost hc), fun p hp' => by have := h p hp'; have := h2 p (by omega); omega⟩
 refine ⟨h3, ?_⟩
 rw [h1, (cost_sum h3).1, hp]
 exact sumN_le h
theorem least_mono {p p' : Nat} (hl : l.length = s.editions.length) (hl' : l.length = s'.editions.length) (hin : TreeIn l) (h : ∀ g, Filling s' l p' g → Possible s' l p' g → Filling s l p g ∧ Possible s l p g) : leastL s l p ≤ leastL s' l p' :=
 le_least Dm.2 hl' fun g h1 h2 => leastL_le hin hl (h g h1 h2).1 (h g h1 h2).2
theorem least_same {p p' : Nat} (hl : l.length = s.editions.length) (hl' : l.length = s'.editions.length) (hin : TreeIn l) (h : ∀ g, (Filling s' l p' g ∧ Possible s' l p' g) ↔ (Filling s l p g ∧ Possible s l p g)) : leastL s l p = leastL s' l p' :=
 Int.le_antisymm (least_mono hl hl' hin fun g h1 h2 => (h g).1 ⟨h1, h2⟩) (least_mono hl' hl hin fun g h1 h2 => (h g).2 ⟨h1, h2⟩)
theorem climb_base_congr {E : Edges} {b b' : Nat → Int} {n : Nat} (hE : ∀ e ∈ E, e.1 < n ∧ e.2 < n) (h : ∀ i, i < n → b i = b' i) : ∀ f i, i < n → climb E b f i = climb E b' f i := by
 intro f
 induction f with
 | zero => exact h
 | succ f ih =>
   intro i hi
   have one : ∀ c c' : Nat → Int, (∀ i, i < n → c i = c' i) → (∀ i, i < n → climb E c f i = climb E c' f i) → climb E c (f + 1) i ≤ climb E c' (f + 1) i := fun c c' h ih => by
     refine Ea.2 ⟨by rw [h i hi]; exact C4, fun e he hei => ?_⟩
     rw [ih _ (hE e he).1]
     have := climb_edge (f := f) (base := c') he
     rw [hei] at this
     exact this
   exact Int.le_antisymm (one _ _ h ih) (one _ _ (fun i hi => (h i hi).symm) fun i hi => (ih i hi).symm)
theorem fits_years (ht : IsTree l) (hl : l.length = s.editions.length) (hl' : l.length = s'.editions.length) (h : ∀ i, i < l.length → (s'.ed i).lo = (s.ed i).lo ∧ (s'.ed i).hi = (s.ed i).hi) : fitsT s' l = fitsT s l := by
 unfold fitsT
 rw [Bool.eq_iff_iff, fitsE_iff, fitsE_iff]
 have hd := ht.dag
 have e : ∀ i, i < l.length → firstY s' (treeE l) i = firstY s (treeE l) i := fun i hi => by
   unfold firstY
   rw [← hl, ← hl']
   exact climb_base_congr hd.1 (fun i hi => (h i hi).1) _ i hi
 rw [← hl, ← hl']
 constructor
 · intro h1 i hi; rw [← e i hi, ← (h i hi).2]; exact h1 i hi
 · intro h1 i hi; rw [e i hi, (h i hi).2]; exact h1 i hi
end
section
variable {s : Stm} {l : List Int} {x p : Nat} {v : Int}
theorem filling_set (hv : ValidT s) (hx : x < s.editions.length) (hp : p < s.places.length) (hl : l.length = s.editions.length) (hv3 : 1 ≤ v) {g : Nat → Int} : Filling (setS s x p v) l p g ↔ ((∀ i, i < l.length → 1 ≤ g i ∧ g i ≤ 3) ∧ (∀ i, i < l.length → i ≠ x → fitR s p i (g i)) ∧ g x = v) := by
 have hpl : p < (s.ed x).rd.length := by rw [hv.rdl x hx]; exact hp
 have hr : ∀ i, (setS s x p v).r i p = if i = x then v else s.r i p := fun i => by rw [setS_r hx hpl]; simp
 constructor
 · intro h
   refine ⟨h.val, fun i hi hne => ?_, ?_⟩
   · have := h.fit i hi
     unfold fitR at this ⊢
     rw [hr, if_neg hne] at this
     exact this
   · have := h.fit x (by omega)
     unfold fitR at this
     rw [hr, if_pos rfl] at this
     omega
 · rintro ⟨h1, h2, h3⟩
   refine ⟨h1, fun i hi => ?_⟩
   unfold fitR
   rw [hr]
   by_cases h4 : i = x
   · rw [if_pos h4, h4]; exact .inr h3.symm
   · rw [if_neg h4]; exact h2 i hi h4
theorem least_other (hv : ValidT s) (hx : x < s.editions.length) (hp : p < s.places.length) (hl : l.length = s.editions.length) (hin : TreeIn l) {q : Nat} (hq : q ≠ p) : leastL (setS s x p v) l q = leastL s l q := by
 have hpl : p < (s.ed x).rd.length := by rw [hv.rdl x hx]; exact hp
 have hr : ∀ i, (setS s x p v).r i q = s.r i q := fun i => by rw [setS_r hx hpl, if_neg (fun h => hq h.2)]
 have hf : ∀ g, Filling (setS s x p v) l q g ↔ Filling s l q g := fun g => by
   constructor
   · exact fun h => ⟨h.val, fun i hi => by have := h.fit i hi; unfold fitR at this ⊢; rw [hr] at this; exact this⟩
   · exact fun h => ⟨h.val, fun i hi => by have := h.fit i hi; unfold fitR at this ⊢; rw [hr]; exact this⟩
 exact least_same (by rw [Di]; exact hl) hl hin fun g => by rw [hf]; exact Iff.rfl
theorem least_set_le (hv : ValidT s) (hx : x < s.editions.length) (hp : p < s.places.length) (hl : l.length = s.editions.length) (hin : TreeIn l) (hv3 : 1 ≤ v) (hfit : fitR s p x v) : leastL s l p ≤ leastL (setS s x p v) l p :=
 least_mono hl (by rw [Di]; exact hl) hin fun g h1 h2 => by
   obtain ⟨k1, k2, k3⟩ := (filling_set hv hx hp hl hv3).1 h1
   exact ⟨⟨k1, fun i hi => by by_cases h4 : i = x; · rw [h4, k3]; exact hfit
                              · exact k2 i hi h4⟩, h2⟩
theorem fits_set (ht : IsTree l) (hl : l.length = s.editions.length) (hx : x < s.editions.length) : fitsT (setS s x p v) l = fitsT s l :=
 fits_years ht hl (by rw [Di]; exact hl) fun i _ => by rw [setS_ed hx]; split <;> (try subst_vars) <;> exact ⟨rfl, rfl⟩
end
end Go.Proofs.Ytccogmkhijgelaa
namespace Go.Proofs.Ytccogmkhijgelaa
section
variable {s : Stm} {l : List Int} {x p : Nat}
theorem tree_err_set (h0 : (checkT s).2.2 = 0) (ht : IsTree l) (hl : l.length = s.editions.length) (hx : x < s.editions.length) {v : Int} (hv3 : 0 ≤ v ∧ v ≤ 3) : treeErr (setS s x p v) l = 0 :=
 tree_err0 (check_set h0 hx hv3) (by rw [Di]; exact hl) ht
end
end Go.Proofs.Ytccogmkhijgelaa
namespace Go.Proofs.Ytccogmkhijgelaa
open Go.RowKit
section
variable {P : Program} {n : Nat} {B : Base} {e : Env} {σ : St} {d : Option Nat} {ty : TypeId} {pos : String} {af : Array Edge} {gd : Option (Nat × Bool)}
theorem setAt_mid {l vs : List Value} {j : Nat} (h : j + vs.length ≤ l.length) : setAt l.toArray j vs = (l.take j ++ (vs ++ l.drop (j + vs.length))).toArray := by
 have h1 := setAt_to vs (l.take j) (l.drop j) (by rw [List.length_drop]; omega)
 rw [List.take_append_drop, List.length_take, Nat.min_eq_left (by omega), List.drop_drop] at h1
 exact h1
theorem x_storeRn {T E s k j m : Nat} {x y : Operand} {v u : Value} {vs cs : List Value} {R TT : List (Nat × Obj)} {f g : List (Nat × Obj) → List (Nat × Obj)} {K : Value → St → Prop} (hT : SizeT P T m) (hx : ev e x = .pointer (some (addc (base v) j))) (hy : ev e y = u) (hu : u.cells = vs.toArray) (hm : vs.length = m)
   (hown : Own E s v k cs R) (hj : j + m ≤ cs.length) (h0 : 0 < m) (h1 : ∀ z ∈ vs, z.oneCell' = true) (hH : Hole σ.H TT f) (hR : Tail TT R g) (hn : ∀ R', Own E s v k (cs.take j ++ (vs ++ cs.drop (j + m))) R' → K undef ⟨σ.F, f (g R')⟩) : OpX P n B ⟨d, .store T x y, ty, pos, af, gd⟩ e σ K := .run fun w hw => by
 subst hm
 obtain ⟨A, q1, q2⟩ := hH.eq
 obtain ⟨C, r1, r2⟩ := hR.eq
 match R, hown with
 | [], h => obtain ⟨-, -, rfl⟩ := h; simp only [List.length_nil] at hj; omega
 | [(bb, o)], h =>
   obtain ⟨cap, spare, rfl, rfl, h3, h4, h5⟩ := h
   have hH' : σ.H = A ++ ([(bb, bx E (cs ++ spare))] ++ C) := by rw [q1, r1]
   have hb := (hw.own (bb, bx E (cs ++ spare)) (by rw [hH']; simp)).1
   obtain ⟨w', e1, e2, e3, e4, e5, e6, e7⟩ := Dx (P := P) vs j 0 (cs ++ spare).toArray w hb (by simp; omega) h1
   rw [Nat.add_zero, setAt_mid (by rw [List.length_append]; omega)] at e6
   have hset : (cs ++ spare).take j ++ (vs ++ (cs ++ spare).drop (j + vs.length)) = (cs.take j ++ (vs ++ cs.drop (j + vs.length))) ++ spare := by
     rw [List.take_append_of_le_length (by omega), List.drop_append_of_le_length (by omega)]; simp
   rw [hset] at e6
   have had : addc (base (.slice (some ⟨bb, 0, none⟩) k cap)) j = ⟨bb, j, none⟩ := by simp [addc, base]
   rw [had] at hx
   have hrun : (execOp (ev e) ⟨d, .store T x y, ty, pos, af, gd⟩).run P w = .ok .skip w' := by
     simp [execOp, hx, hy, Instr.storeAt, Instr.sureAddr, storeVar, hu, Co hT, e1]
   have hl : (cs.take j ++ (vs ++ cs.drop (j + vs.length))).length = cs.length := by simp; omega
   have hnew := hn [(bb, bx E ((cs.take j ++ (vs ++ cs.drop (j + vs.length))) ++ spare))] ⟨cap, spare, rfl, rfl, by rw [hl]; exact h3, by rw [List.length_append, hl]; simpa using h4, h5⟩
   rw [r2, q2] at hnew
   exact ⟨_, _, _, .inr ⟨hrun, rfl⟩, hw.rewrite hH' e2 e3 e4 e5 e6 e7, hnew⟩
end
theorem flat_put {α : Type} {enc : α → List Value} {s : Nat} (hs : ∀ x, (enc x).length = s) {x : α} : ∀ (l : List α) (i : Nat), i < l.length → (l.flatMap enc).take (i * s) ++ (enc x ++ (l.flatMap enc).drop (i * s + s)) = (l.set i x).flatMap enc
 | [], i, hi => absurd hi (by simp)
 | a :: l, 0, hi => by
   simp only [List.flatMap_cons, List.set_cons_zero, Nat.zero_mul, Nat.zero_add, List.take_zero, List.nil_append]
   rw [List.drop_append_of_le_length (by rw [hs]; exact Nat.le_refl _), List.drop_of_length_le (by rw [hs]; exact Nat.le_refl _), List.nil_append]
 | a :: l, i + 1, hi => by
   simp only [List.flatMap_cons, List.set_cons_succ]
   have ih := flat_put hs (x := x) l i (by simpa using hi)
   rw [Nat.add_mul, Nat.one_mul, Nat.add_comm (i * s) s, ← hs a, List.take_append, List.take_of_length_le (by omega), Nat.add_sub_cancel_left, Nat.add_assoc, List.drop_append, List.drop_of_length_le (by omega), Nat.add_sub_cancel_left, List.nil_append, List.append_assoc, hs a, ih]
theorem own_elem {α : Type} {F : Heap} {H R : List (Nat × Obj)} {E s k : Nat} {v : Value} {enc : α → List Value} {xs : List α} (hs : ∀ x, (enc x).length = s) (h : Own E s v k (xs.flatMap enc) R) (hm : ∀ p ∈ R, p ∈ H) {i : Nat} (hi : i < xs.length) : ∀ j u, (enc xs[i])[j]? = some u → Cell ⟨F, H⟩ (addc (addc (base v) (i * s)) j) u := fun j u hu => by
 rw [addc_addc]
 have hj : j < s := by have := (List.getElem?_eq_some_iff.1 hu).1; rw [hs] at this; exact this
 exact own_cell h hm (flat_at hs xs i hi hu)
end Go.Proofs.Ytccogmkhijgelaa
namespace Go.Proofs.Ytccogmkhijgelaa
theorem ed_own_put {E : Nat} {w : Go.Value} {R : List (Nat × Go.Obj)} {ps : List (Go.Value × Edn)} {x : Nat} {u : Go.Value} {e : Edn} (h : Own E 4 w ps.length ((ps.flatMap edE).take (x * 4) ++ (edE (u, e) ++ (ps.flatMap edE).drop (x * 4 + 4))) R) (hx : x < ps.length) :
   Own E 4 w (ps.set x (u, e)).length ((ps.set x (u, e)).flatMap edE) R := by
 rw [flat_put edE_len (x := (u, e)) ps x hx] at h
 rw [List.length_set]; exact h
end Go.Proofs.Ytccogmkhijgelaa
namespace Go.Proofs.Ytccogmkhijgelaa
open Go.RowKit
set_option maxRecDepth 100000 in
theorem with_ok7 {F : Heap} {vp ve : Value} {ps : List (Value × Edn)} {s : Stm} (hr : StmR F vp ve ps s) (hv : ValidT s) {x p : Nat} (hx : x < s.editions.length) (hp : p < s.places.length) (z : Int) : Ok Try.prog 45 [.agg #[vp, ve], .int .i64 (x : Int), .int .i64 (p : Int), .int .i64 z].toArray F fun u F' => ∃ ve' ps', u = .agg #[vp, ve'] ∧ StmR F' vp ve' ps' (setS s x p z) := by
 have hle0 : F.le F := Heap.le_refl _
 refine Ok.intro Try.func45 rfl Try.ntmps45 rfl fun w0 => ?_
 have hL1 := hr.eds.plain.lt
 have hlen := hr.len
 have hxp : x < ps.length := by omega
 have hrx := hr.rd hxp
 have hrl := hv.rdl x hx
 have hpx : p < (s.ed x).rd.length := by omega
 have e1 := hr.at hxp
 have hne := hv.ne
 have hnp := hv.np
 refine Af <| Ai fun ds => Bg rfl (B4 (Ak rfl) rfl fun b1 hb1 nb1 => ?_)
 refine Bg rfl (B6 zr_25 rfl fun b2 hb2 nb2 => ?_)
 refine Ah <| Ac <| Af <| Ai fun ds => Bg rfl (x_build0 B1 fun b3 hb3 nb3 => ?_)
 refine Aa rfl (Al Bo (Aq rfl <| Ab)) ?_
 refine Aa rfl (Ap By (Ab) (Cell.own 2 rfl rfl)) ?_
 refine Bg rfl (Cg B1 el_64 (Aq rfl <| Ab) (Eg rfl) (Ab) (src_eds hr.eds hr.one) (by omega) (by omega) (.z) .box fun v4 R5 ho6 => ?_)
 have ho1 : Own 64 4 v4 ps.length (ps.flatMap edE) R5 := by simpa using ho6
 refine Aa rfl (Al Bo (A1 rfl <| Am rfl <| Ab)) ?_
 refine Ds (.one (.skip <| .here) <| .one (.lastS) <| .lastb (.last)) ?_
 refine Cc (Cd sz_23 (Ab) (Am rfl <| Ab) (i := 1) rfl (.next <| .here) (Own.one ho1) (.next <| .here) ?_)
 refine Ah <| Ac <| Af <| Ai fun ds => Aa rfl (Al Bo (A1 rfl <| Aq rfl <| Ab)) ?_
 refine Aa rfl (Ap By (Ab) (Cell.own 1 rfl rfl)) ?_
 refine Aa rfl (Ag (A5 rfl <| Am rfl <| Ak rfl)) ?_
 refine Aa rfl (Be (k := x) B1 (Am rfl <| Ab) (ho1.plain (by omega)) (Ab) rfl hxp) ?_
 refine Aa rfl (A8 D7 (Ab) rfl rfl (own_elem edE_len ho1 (fun p hp => .tail _ (.tail _ (hp))) hxp)) ?_
 refine Bg rfl (B6 zr_64 rfl fun b7 hb7 nb7 => ?_)
 refine Cc (Ca sz_64 (Ab) (Am rfl <| Ab) (i := 0) rfl rfl rfl rfl (edE_one (hr.one _ (List.getElem_mem hxp))) (.here) ?_)
 refine Ah <| Ac <| Af <| Ai fun ds => Bg rfl (B7 Bj C9 rfl .nil rfl rfl (by decide) (by simp [Value.oneCell']) fun b8 hb8 nb8 => ?_)
 refine Aa rfl (Al Cb (Am rfl <| Ab)) ?_
 refine Aa rfl (Ap Ch (Ab) (Cell.own 1 rfl rfl)) ?_
 refine Bg rfl (Cg Bj el_3 (Aq rfl <| Ab) (Eg rfl) (Ab) hrx.srcInt (by omega) (by omega) (.z) .box fun v9 R10 ho11 => ?_)
 have ho2 : Own 3 1 v9 (s.ed x).rd.length ((s.ed x).rd.flatMap intE) R10 := by simpa using ho11
 have hpone : ∀ u ∈ [Value.string ps[x].2.name, .int .i64 ps[x].2.lo, .int .i64 ps[x].2.hi, v9], u.oneCell' = true := by intro u hu; simp only [List.mem_cons, List.not_mem_nil, or_false] at hu; rcases hu with rfl | rfl | rfl | rfl; rfl; rfl; rfl; exact ho2.one
 refine Aa rfl (Al Cb (A1 rfl <| Ab)) ?_
 refine Ds (.one (.skip <| .here) <| .one (.skip <| .here) <| .one (.skip <| .here) <| .blk (.lastS) <| .lastb (.last)) ?_
 refine Cc (Cd sz_26 (Ab) (Am rfl <| Ab) (i := 0) rfl (.next <| .next <| .next <| .here) (Own.one ho2) (.here) ?_)
 refine Ah <| Ac <| Af <| Ai fun ds => Aa rfl (Al Cb (A1 rfl <| Am rfl <| Ab)) ?_
 refine Aa rfl (Ap Ch (Ab) (Cell.own 0 rfl rfl)) ?_
 refine Aa rfl (Ag (A2 rfl <| A1 rfl <| Ak rfl)) ?_
 refine Aa rfl (Ag (A2 rfl <| A1 rfl <| Am rfl <| Ak rfl)) ?_
 refine Aa rfl (Be (k := p) Bj (Aq rfl <| Ab) (ho2.plain (by omega)) (Am rfl <| Ab) rfl hpx) ?_
 refine Cc (x_storeR sz_3 (Ab) (Am rfl <| Ab) ho2 (by rw [Dp (enc := intE) (s := 1) (fun _ => rfl)]; omega) rfl (.s <| .s <| .s <| .k <| .z) .last fun R12 ho13 => ?_)
 have ho3 := ho13
 rw [show p * 1 = p * 1 + 0 from rfl, int_flat_set hpx] at ho3
 replace ho3 := ho3.to (k' := ((s.ed x).rd.set p z).length) (by simp)
 refine Ah <| Ac <| Af <| Ai fun ds => Aa rfl (Al Bo (A2 rfl <| A1 rfl <| Aq rfl <| Ab)) ?_
 refine Aa rfl (Ap By (Ab) (Cell.own 2 rfl rfl)) ?_
 refine Aa rfl (Ag (A2 rfl <| A5 rfl <| Am rfl <| Ak rfl)) ?_
 refine Aa rfl (A8 D7 (A5 rfl <| A1 rfl <| Am rfl <| Ab) rfl rfl (A7 0 rfl)) ?_
 refine Aa rfl (Be (k := x) B1 (Aq rfl <| Ab) (ho1.plain (by omega)) (Am rfl <| Ab) rfl hxp) ?_
 refine Cc (x_storeRn sz_64 (Ab) (Am rfl <| Ab) rfl rfl ho1 (by rw [Dp edE_len]; omega) (by decide) hpone (.s <| .s <| .s <| .z) .more fun R9 ho9 => ?_)
 refine Ah <| Ac <| Af ?_
 have ho9b := by have h9 := ho9; rw [e1] at h9; exact ed_own_put (e := (s.ed x).setR p z) h9 hxp
 refine Cj (σ := ⟨_, _⟩) (by rfl) ho3 (.s <| .s <| .s <| .k <| .z) .last fun F14 hF15 hz16 => ?_
 replace hr := hr.mono hF15
 refine WC_pickB (.one (.here) <| .one (.here) <| .one (.here) <| .lastb (.here)) ?_
 have hrn := ho3.sl (fun _ => rfl) hz16 (by simp; omega)
 refine Cj (σ := ⟨_, _⟩) (by rfl) ho9b (.s <| .s <| .s <| .z) .last fun F17 hF18 hz19 => ?_
 replace hr := hr.mono hF18
 replace hrn := hrn.mono hF18
 have hen := ho9b.sl (fun _ => rfl) hz19 (by simp; omega)
 refine Ai fun ds => Aa rfl (A8 B2 (A2 rfl <| A5 rfl <| Aq rfl <| Am rfl <| Ab) rfl rfl (A7 2 rfl)) ?_
 refine Cc (Ca sz_25 (A2 rfl <| A5 rfl <| Aq rfl <| Am rfl <| Ab) (Ab) (i := 1) rfl rfl rfl rfl (by intro u hu; simp only [List.mem_cons, List.not_mem_nil, or_false] at hu; rcases hu with rfl | rfl; exact hr.places.plain.one; exact hen.plain.one) (.next <| .here) ?_)
 refine Ah <| Ac <| A3 <| Aw rfl (.agg B2 (A2 rfl <| A5 rfl <| Aq rfl <| Am rfl <| Ab) rfl rfl (A7 1 rfl) .nil) ?_
 exact ⟨_, _, rfl, hr.set hen hrn⟩
end Go.Proofs.Ytccogmkhijgelaa
namespace Go.Proofs.Ytccogmkhijgelaa
open Go.RowKit
theorem bd_45 : Body Try.prog 45 := Bp (by kernel_rfl)
end Go.Proofs.Ytccogmkhijgelaa
namespace Go.Proofs.Ytccogmkhijgelaa
theorem sum_hit {m i : Nat} {σ : Nat → Nat} {c : Int} (hc : 0 ≤ c) (hinj : ∀ j k, j < m → k < m → σ j = σ k → j = k) : sumN m (fun k => if σ k = i then c else 0) ≤ c := by
 by_cases h : ∃ k, k < m ∧ σ k = i
 · obtain ⟨k, hk, he⟩ := h
   rw [Cl (g := fun q => if k = q then c else 0) fun q hq => ?_, sumN_one hk]
   · exact Int.le_refl _
   · by_cases h1 : k = q
     · subst h1; rw [if_pos he, if_pos rfl]
     · rw [if_neg h1, if_neg fun h2 => h1 (hinj k q hk hq (by rw [he, h2]))]
 · rw [Cl (g := fun _ => 0) fun q hq => if_neg fun h1 => h ⟨q, hq, h1⟩, sumN_zero]
   exact hc
theorem sum_emb {m n : Nat} {σ : Nat → Nat} {f : Nat → Int} (hlt : ∀ k, k < m → σ k < n) (hinj : ∀ j k, j < m → k < m → σ j = σ k → j = k) (hf : ∀ i, i < n → 0 ≤ f i) : sumN m (fun k => f (σ k)) ≤ sumN n f := by
 have e1 : ∀ k, k < m → sumN n (fun i => if σ k = i then f i else 0) = f (σ k) := fun k hk => by
   rw [Cl (f := fun i => if σ k = i then f i else 0) (g := fun i => if σ k = i then f (σ k) else 0) (fun i _ => by by_cases h : σ k = i <;> simp [h])]
   exact sumN_one (hlt k hk)
 have e : sumN m (fun k => f (σ k)) = sumN m fun k => sumN n fun i => if σ k = i then f i else 0 := Cl fun k hk => (e1 k hk).symm
 rw [e, sumN_swap]
 exact sumN_le fun i hi => sum_hit (hf i hi) hinj
structure Emb (l l' : List Int) (σ : Nat → Nat) : Prop where
 lt : ∀ k, k < l'.length → σ k < l.length
 inj : ∀ j k, j < l'.length → k < l'.length → σ j = σ k → j = k
 up : ∀ k, k < l'.length → (upN l' k = -1 ∧ upN l (σ k) = -1) ∨ ∃ q : Nat, q < l'.length ∧ upN l' k = (q : Int) ∧ upN l (σ k) = (σ q : Int)
theorem tree_rank {l : List Int} (hin : TreeIn l) (hr : ∃ ρ : Nat → Nat, ∀ (i k : Nat), i < l.length → upN l i = (k : Int) → ρ k < ρ i) (h1 : firstsN l l.length = 1) : IsTree l := by
 obtain ⟨ρ, hρ⟩ := hr
 refine ⟨hin, fun i hi => ?_, h1⟩
 have key : ∀ d i, i < l.length → rankC ρ l.length i ≤ d → reach l d i = true := by
   intro d
   induction d with
   | zero =>
     intro i hi hd
     by_cases hu : upN l i = -1
     · exact reach_end hu
     · obtain ⟨j, hj, hjl⟩ := hin.nat hi hu
       have := rankC_lt (n := l.length) hjl (hρ i j hi hj)
       omega
   | succ d ih =>
     intro i hi hd
     by_cases hu : upN l i = -1
     · exact reach_end hu
     · obtain ⟨j, hj, hjl⟩ := hin.nat hi hu
       have := rankC_lt (n := l.length) hjl (hρ i j hi hj)
       rw [Ek hj]
       exact ih j hjl (by omega)
 exact key _ i hi rankC_le
section
variable {l l' : List Int} {σ : Nat → Nat} {s s' : Stm}
theorem Emb.root (h : Emb l l' σ) {k : Nat} (hk : k < l'.length) (hu : upN l' k = -1) : upN l (σ k) = -1 := by
 rcases h.up k hk with ⟨-, h1⟩ | ⟨q, -, h2, -⟩
 · exact h1
 · omega
theorem Emb.edge (h : Emb l l' σ) {k q : Nat} (hk : k < l'.length) (hu : upN l' k = (q : Int)) : q < l'.length ∧ upN l (σ k) = (σ q : Int) := by
 rcases h.up k hk with ⟨h1, -⟩ | ⟨q', h1, h2, h3⟩
 · omega
 · obtain rfl : q' = q := by omega
   exact ⟨h1, h3⟩
theorem Emb.in_ (h : Emb l l' σ) : TreeIn l' := fun i hi => by
 rcases h.up i hi with ⟨h1, -⟩ | ⟨q, h1, h2, -⟩ <;> omega
theorem Emb.tree (h : Emb l l' σ) (ht : IsTree l) (hr : ∃ r, r < l'.length ∧ upN l' r = -1) : IsTree l' := by
 obtain ⟨r, hr, hru⟩ := hr
 refine tree_rank h.in_ ⟨fun k => dep l l.length (σ k), fun i k hi hk => ?_⟩ ?_
 · have h3 := (h.edge hi hk).2
   show dep l l.length (σ k) < dep l l.length (σ i)
   rw [dep_edge h3 (ht.reach _ (h.lt i hi))]; omega
 · rw [firsts_uniq (r := r) hru fun i hi hu => ?_, if_pos hr]
   exact h.inj i r hi hr (Ew (l := l) (σ i) (σ r) (h.lt i hi) (h.lt r hr) (h.root hi hu) (h.root hr hru) (by rw [ht.one]; exact Int.le_refl _))
theorem Emb.same (h : Emb l l' σ) {g : Nat → Int} {k : Nat} (hk : k < l'.length) : chg l' (fun k => g (σ k)) k = chg l g (σ k) := by
 unfold chg
 rcases h.up k hk with ⟨h1, h2⟩ | ⟨q, h1, h2, h3⟩
 · rw [if_pos h1, if_pos h2]
 · rw [if_neg (show ¬ upN l' k = -1 by omega), if_neg (show ¬ upN l (σ k) = -1 by omega), h2, h3, Int.toNat_natCast, Int.toNat_natCast]
theorem Emb.changes (h : Emb l l' σ) {g : Nat → Int} : changesOf l' (fun k => g (σ k)) ≤ changesOf l g := by
 unfold changesOf
 rw [Cl fun k hk => h.same hk]
 exact sum_emb (f := chg l g) h.lt h.inj fun i _ => chg_bound.1
/-- The editions are the same, and the places. -/
structure EmbS (s s' : Stm) (l l' : List Int) (σ : Nat → Nat) : Prop extends Emb l l' σ where
 len : l.length = s.editions.length
 len' : l'.length = s'.editions.length
 pl : s'.places = s.places
 ed : ∀ k, k < l'.length → s'.ed k = s.ed (σ k)
theorem EmbS.least (h : EmbS s s' l l' σ) {p : Nat} : leastL s' l' p ≤ leastL s l p := by
 have hfr : freeP s' p = freeP s p := by unfold freeP Stm.pl; rw [h.pl]
 refine le_least Dm.2 h.len fun g h1 h2 => Int.le_trans (leastL_le (g := fun k => g (σ k)) h.in_ h.len' ⟨fun i hi => h1.val _ (h.lt i hi), fun i hi => ?_⟩ fun i hi hu => ?_) h.changes
 · have := h1.fit _ (h.lt i hi)
   unfold fitR Stm.r at this ⊢
   rw [h.ed i hi]; exact this
 · obtain ⟨q, hq, hql⟩ := h.in_.nat hi hu
   have h3 := (h.edge hi hq).2
   have := h2 _ (h.lt i hi) (by omega)
   rw [h3, Int.toNat_natCast] at this
   rw [hq, Int.toNat_natCast, hfr]; exact this
theorem EmbS.fits (h : EmbS s s' l l' σ) (ht : IsTree l) (ht' : IsTree l') (hf : fitsT s l = true) : fitsT s' l' = true := by
 unfold fitsT at hf ⊢
 rw [fitsE_iff] at hf ⊢
 intro i hi
 rw [← h.len'] at hi
 have hd := ht'.dag
 have := climb_least (base := fun i => (s'.ed i).lo) hd.1 (L := fun k => firstY s (treeE l) (σ k)) (fun k hk => by show (s'.ed k).lo ≤ _; rw [h.ed k hk]; exact firstY_lo) (fun e he => by
   obtain ⟨h1, h2, h3⟩ := ht'.edge he
   exact (years_edge ht h.len (h.lt _ h2) (h.edge h2 h3).2).1) s'.editions.length i hi
 have h4 := hf (σ i) (by rw [← h.len]; exact h.lt i hi)
 unfold firstY
 rw [h.ed i hi]
 exact Int.le_trans this h4
/-- No fewer at each place: no fewer in all. -/
theorem cost_le2 (hv : ValidT s) (hl : l.length = s.editions.length) (hp : s'.places.length = s.places.length) (hf : fitsT s' l' = true → fitsT s l = true) (h : ∀ p, p < s.places.length → leastL s l p ≤ leastL s' l' p) (hc : costL s' l' < 1000) : costL s l < 1000 ∧ costL s l ≤ costL s' l' := by
 obtain ⟨h1, h2⟩ := cost_sum hc
 have h3 : costL s l < 1000 := (cost_iff hv hl).2 ⟨hf (fit_of_cost hc), fun p hp' => by have := h p hp'; have := h2 p (by omega); omega⟩
 refine ⟨h3, ?_⟩
 rw [h1, (cost_sum h3).1, hp]
 exact sumN_le h
theorem EmbS.cost (h : EmbS s s' l l' σ) (hv' : ValidT s') (ht : IsTree l) (ht' : IsTree l') (hc : costL s l < 1000) : costL s' l' < 1000 ∧ costL s' l' ≤ costL s l :=
 cost_le2 hv' h.len' (by rw [h.pl]) (h.fits ht ht') (fun _ _ => h.least) hc
end
def skp (i k : Nat) : Nat := if k < i then k else k + 1
def dnI (i : Nat) (z : Int) : Int := if (i : Int) < z then z - 1 else z
def restL (l : List Int) (i : Nat) : List Int := (List.range (l.length - 1)).map fun k => dnI i (upN l (skp i k))
def fewS (s : Stm) (i : Nat) : Stm := ⟨s.places, s.editions.eraseIdx i⟩
section
variable {s : Stm} {l : List Int} {i : Nat}
theorem Dr : (restL l i).length = l.length - 1 := by simp [restL]
theorem few_len (hi : i < s.editions.length) : (fewS s i).editions.length = s.editions.length - 1 := by simp [fewS, List.length_eraseIdx, hi]
theorem few_ed {k : Nat} : (fewS s i).ed k = s.ed (skp i k) := by
 unfold Stm.ed fewS skp
 simp only
 rw [List.getElem?_eraseIdx]
 split <;> rfl
theorem few_check (h0 : (checkT s).2.2 = 0) (hi : i < s.editions.length) (hn : 2 ≤ s.editions.length) : (checkT (fewS s i)).2.2 = 0 := by
 have h := check_ok.1 h0
 rw [check_ok]
 have hsub : (fewS s i).editions.Sublist s.editions := List.eraseIdx_sublist _ _
 refine ⟨h.np, h.pl, h.pn, ?_, fun x hx => h.ed x (hsub.subset hx), ?_⟩
 · have := h.ne
   rw [few_len hi]
   simp [inB] at this ⊢
   omega
 · have := h.en
   unfold diffN at this ⊢
   exact this.sublist (hsub.map _)
theorem rest_emb (ht : IsTree l) (hi : i < l.length) (hno : ∀ k, k < l.length → upN l k ≠ (i : Int)) : Emb l (restL l i) (skp i) := by
 refine ⟨fun k hk => ?_, fun j k _ _ h => ?_, fun k hk => ?_⟩
 · rw [Dr] at hk; unfold skp; split <;> omega
 · unfold skp at h; split at h <;> split at h <;> omega
 · rw [Dr] at hk
   have hs : skp i k < l.length := by unfold skp; split <;> omega
   have hup : upN (restL l i) k = dnI i (upN l (skp i k)) := upN_map hk
   rw [hup]
   by_cases hu : upN l (skp i k) = -1
   · left; refine ⟨?_, hu⟩; rw [hu]; unfold dnI; rw [if_neg (by omega)]
   · obtain ⟨q, hq, hql⟩ := ht.in_.nat hs hu
     have hne : q ≠ i := fun h => hno _ hs (by rw [hq, h])
     right
     rw [hq]
     by_cases hlt : i < q
     · refine ⟨q - 1, by rw [Dr]; omega, ?_, ?_⟩
       · unfold dnI; rw [if_pos (by omega)]; omega
       · unfold skp; rw [if_neg (by omega)]; omega
     · refine ⟨q, by rw [Dr]; omega, ?_, ?_⟩
       · unfold dnI; rw [if_neg (by omega)]
       · unfold skp; rw [if_pos (by omega)]
/-- It is not the first one. -/
theorem leaf_root (ht : IsTree l) (hi : i < l.length) (hn : 2 ≤ l.length) (hno : ∀ k, k < l.length → upN l k ≠ (i : Int)) : upN l i ≠ -1 := fun hu => by
 have huniq : ∀ k, k < l.length → upN l k = -1 → k = i := fun k hk h => Ew k i hk hi h hu (by rw [ht.one]; exact Int.le_refl _)
 have key : ∀ f k, k < l.length → reach l f k = true → k = i := by
   intro f
   induction f with
   | zero => intro k hk h; exact huniq k hk (by simpa [reach] using h)
   | succ f ih =>
     intro k hk h
     by_cases h1 : upN l k = -1
     · exact huniq k hk h1
     · obtain ⟨q, hq, hql⟩ := ht.in_.nat hk h1
       rw [Ek hq] at h
       have := ih q hql h
       subst this
       exact absurd hq (hno k hk)
 by_cases h : i = 0
 · have := key _ 1 (by omega) (ht.reach 1 (by omega)); omega
 · have := key _ 0 (by omega) (ht.reach 0 (by omega)); omega
theorem rest_tree (ht : IsTree l) (hi : i < l.length) (hn : 2 ≤ l.length) (hno : ∀ k, k < l.length → upN l k ≠ (i : Int)) : IsTree (restL l i) := by
 have he := rest_emb ht hi hno
 refine he.tree ht ?_
 obtain ⟨r, -, hr, hru⟩ := root_at ht
 have hne : r ≠ i := fun h => leaf_root ht hi hn hno (by rw [← h]; exact hru)
 have key : ∀ k, k < (restL l i).length → skp i k = r → upN (restL l i) k = -1 := fun k hk hs => by
   rcases he.up k hk with ⟨h1, -⟩ | ⟨q, -, -, h3⟩
   · exact h1
   · rw [hs, hru] at h3; omega
 by_cases hlt : r < i
 · exact ⟨r, by rw [Dr]; omega, key r (by rw [Dr]; omega) (by unfold skp; rw [if_pos hlt])⟩
 · exact ⟨r - 1, by rw [Dr]; omega, key (r - 1) (by rw [Dr]; omega) (by unfold skp; rw [if_neg (by omega)]; omega)⟩
theorem few_cost (h0 : (checkT s).2.2 = 0) (hl : l.length = s.editions.length) (ht : IsTree l) (hi : i < l.length) (hn : 2 ≤ l.length) (hno : ∀ k, k < l.length → upN l k ≠ (i : Int)) (hc : costL s l < 1000) : costL (fewS s i) (restL l i) < 1000 ∧ costL (fewS s i) (restL l i) ≤ costL s l := by
 have he : EmbS s (fewS s i) l (restL l i) (skp i) := ⟨rest_emb ht hi hno, hl, by rw [Dr, few_len (by omega)]; omega, rfl, fun k _ => few_ed⟩
 exact he.cost (Cw (few_check h0 (by omega) (by omega))) ht (rest_tree ht hi hn hno) hc
end
section
variable {s : Stm} {l : List Int}
end
end Go.Proofs.Ytccogmkhijgelaa
namespace Go.Proofs.Ytccogmkhijgelaa
theorem sel_map_erase {α : Type} {xs : List α} {p : Nat} (hp : p < xs.length) {f : Nat → α} (hf : ∀ i (h : i < xs.length), f i = xs[i]) : (selN (fun q => decide (q ≠ p)) xs.length).map f = xs.take p ++ xs.drop (p + 1) := by
 have key : ∀ n, n ≤ xs.length → (selN (fun q => decide (q ≠ p)) n).map f = xs.take (min p n) ++ (xs.take n).drop (p + 1) := by
   intro n
   induction n with
   | zero => intro _; simp [selN]
   | succ n ih =>
     intro hn
     have ih := ih (by omega)
     rw [Db]
     rcases Nat.lt_trichotomy n p with h | h | h
     · rw [if_pos (decide_eq_true (by omega)), List.map_append, ih, show min p n = n by omega, show min p (n + 1) = n + 1 by omega, List.take_succ_eq_append_getElem (by omega), List.drop_of_length_le (by rw [List.length_take]; omega), List.drop_of_length_le (by rw [List.length_append, List.length_take]; simp; omega)]
       simp [hf n (by omega)]
     · subst h
       rw [if_neg (by simp), ih, show min n n = n by omega, show min n (n + 1) = n by omega, List.drop_of_length_le (by rw [List.length_take]; omega), List.drop_of_length_le (by rw [List.length_take]; omega)]
     · rw [if_pos (decide_eq_true (by omega)), List.map_append, ih, show min p n = p by omega, show min p (n + 1) = p by omega, List.take_succ_eq_append_getElem (show n < xs.length by omega), List.drop_append_of_le_length (by rw [List.length_take]; omega)]
       simp [hf n (by omega)]
 have := key xs.length (Nat.le_refl _)
 rw [this, List.take_length, show min p xs.length = p by omega]
def Edn.sub (x : Edn) (P : List Nat) : Edn := ⟨x.name, x.lo, x.hi, P.map fun p => x.rd[p]?.getD 0⟩
def subS (s : Stm) (b : Nat → Bool) : Stm := ⟨(selN b s.places.length).map s.pl, s.editions.map fun x => x.sub (selN b s.places.length)⟩
theorem sum_sel {b : Nat → Bool} {f : Nat → Int} : ∀ n, sumN (selN b n).length (fun q => f ((selN b n)[q]?.getD 0)) = sumN n fun p => if b p = true then f p else 0
 | 0 => rfl
 | n + 1 => by
   have ih := sum_sel (b := b) (f := f) n
   simp only [sumN]
   rw [Db, ← ih]
   by_cases h : b n = true
   · rw [if_pos h, if_pos h, List.length_append, List.length_singleton]
     simp only [sumN]
     rw [Cl (g := fun q => f ((selN b n)[q]?.getD 0)) fun q hq => by rw [List.getElem?_append_left hq]]
     rw [List.getElem?_append_right (Nat.le_refl _)]
     simp
   · rw [if_neg h, if_neg h, Int.add_zero]
section
variable {s : Stm} {b : Nat → Bool} {l : List Int}
theorem sub_elen : (subS s b).editions.length = s.editions.length := by simp [subS]
theorem sub_plen : (subS s b).places.length = (selN b s.places.length).length := by simp [subS]
theorem sub_ed {i : Nat} (hi : i < s.editions.length) : (subS s b).ed i = (s.ed i).sub (selN b s.places.length) := by simp [Stm.ed, subS, hi]
theorem sub_r {i q : Nat} (hi : i < s.editions.length) (hq : q < (selN b s.places.length).length) : (subS s b).r i q = s.r i (selN b s.places.length)[q] := by
 unfold Stm.r
 rw [sub_ed hi]
 simp [Edn.sub, hq]
theorem sub_pl {q : Nat} (hq : q < (selN b s.places.length).length) : (subS s b).pl q = s.pl (selN b s.places.length)[q] := by simp [Stm.pl, subS, hq]
theorem sub_check (h0 : (checkT s).2.2 = 0) (hb : (selN b s.places.length).length ≠ 0) : (checkT (subS s b)).2.2 = 0 := by
 have h := check_ok.1 h0
 have hv := Cw h0
 rw [check_ok]
 have hr : (List.range s.places.length).map s.pl = s.places := by
   apply List.ext_getElem
   · simp
   · intro i h1 h2; simp [pl_at h2]
 have hsub : ((selN b s.places.length).map s.pl).Sublist s.places := by
   conv => rhs; rw [← hr]
   exact List.Sublist.map _ List.filter_sublist
 refine ⟨?_, fun x hx => h.pl x (hsub.subset hx), ?_, by rw [sub_elen]; exact h.ne, fun x hx => ?_, ?_⟩
 · have h1 : (selN b s.places.length).length ≤ s.places.length := Dl
   have h2 := hv.np
   rw [sub_plen]
   simp [inB]; omega
 · have := h.pn
   unfold diffN at this ⊢
   exact this.sublist (hsub.map _)
 · obtain ⟨y, hy, rfl⟩ := List.mem_map.1 hx
   have h1 := h.ed y hy
   refine ⟨h1.1, ?_⟩
   have h2 := h1.2
   unfold ednErr at h2 ⊢
   split at h2
   · cases h2
   · rename_i k1
     split at h2
     · cases h2
     · rename_i k2
       split at h2
       · cases h2
       · rename_i k3
         split at h2
         · cases h2
         · rename_i k4
           rw [if_neg (show ¬ (inB 1450 1850 (y.sub (selN b s.places.length)).lo && inB 1450 1850 (y.sub (selN b s.places.length)).hi) = false from k1), if_neg (show ¬ (y.sub (selN b s.places.length)).hi < (y.sub (selN b s.places.length)).lo from k2), if_neg (by rw [sub_plen]; simp [Edn.sub]), if_neg]
           intro h5
           rw [List.any_eq_true] at h5
           obtain ⟨z, hz, hb⟩ := h5
           obtain ⟨p, hp, rfl⟩ := List.mem_map.1 hz
           have hpl : p < y.rd.length := by have := selN_lt p hp; omega
           have : (y.rd.any fun z => !(inB 0 3 z)) = false := by simpa using k4
           have h6 := List.any_eq_false.1 this y.rd[p] (List.getElem_mem hpl)
           rw [List.getElem?_eq_getElem hpl, Option.getD_some] at hb
           exact h6 hb
 · have := h.en
   unfold subS
   simp only [List.map_map]
   exact this
theorem sub_least (hl : l.length = s.editions.length) (hin : TreeIn l) {q : Nat} (hq : q < (selN b s.places.length).length) : leastL (subS s b) l q = leastL s l (selN b s.places.length)[q] := by
 have hfr : freeP (subS s b) q = freeP s (selN b s.places.length)[q] := by unfold freeP; rw [sub_pl hq]
 have hfit : ∀ i, i < l.length → ∀ a, fitR (subS s b) q i a ↔ fitR s (selN b s.places.length)[q] i a := fun i hi a => by unfold fitR; rw [sub_r (by omega) hq]
 have hl' : l.length = (subS s b).editions.length := by rw [sub_elen]; exact hl
 refine least_same hl' hl hin fun g => ?_
 constructor
 · rintro ⟨h1, h2⟩
   exact ⟨⟨h1.val, fun i hi => (hfit i hi _).2 (h1.fit i hi)⟩, fun i hi hu => by rw [hfr]; exact h2 i hi hu⟩
 · rintro ⟨h1, h2⟩
   exact ⟨⟨h1.val, fun i hi => (hfit i hi _).1 (h1.fit i hi)⟩, fun i hi hu => by rw [← hfr]; exact h2 i hi hu⟩
theorem sub_fits (hl : l.length = s.editions.length) (ht : IsTree l) : fitsT (subS s b) l = fitsT s l :=
 fits_years ht hl (by rw [sub_elen]; exact hl) fun i hi => by rw [sub_ed (by omega)]; exact ⟨rfl, rfl⟩
theorem sum_least (hl : l.length = s.editions.length) (hin : TreeIn l) : sumN (subS s b).places.length (leastL (subS s b) l) = sumN s.places.length fun p => if b p = true then leastL s l p else 0 := by
 rw [← sum_sel (f := leastL s l), sub_plen]
 exact Cl fun q hq => by rw [sub_least hl hin hq, List.getElem?_eq_getElem hq]; rfl
theorem sub_cost (h0 : (checkT s).2.2 = 0) (hb : (selN b s.places.length).length ≠ 0) (hl : l.length = s.editions.length) (ht : IsTree l) (hf : fitsT s l = true) (h : ∀ p, p < s.places.length → b p = true → leastL s l p < 1000) :
   costL (subS s b) l < 1000 ∧ costL (subS s b) l = sumN s.places.length fun p => if b p = true then leastL s l p else 0 := by
 have hc : costL (subS s b) l < 1000 := (cost_iff (Cw (sub_check h0 hb)) (by rw [sub_elen]; exact hl)).2 ⟨by rw [sub_fits hl ht]; exact hf, fun q hq => by
   rw [sub_plen] at hq
   rw [sub_least hl ht.in_ hq]
   have hm := List.getElem_mem hq
   exact h _ (selN_lt _ hm) (List.mem_filter.1 hm).2⟩
 exact ⟨hc, by rw [(cost_sum hc).1, sum_least hl ht.in_]⟩
/-- With fewer places there are no more changes. -/
theorem sub_le (h0 : (checkT s).2.2 = 0) (hb : (selN b s.places.length).length ≠ 0) (hl : l.length = s.editions.length) (ht : IsTree l) (hc : costL s l < 1000) : costL (subS s b) l < 1000 ∧ costL (subS s b) l ≤ costL s l := by
 obtain ⟨h1, h2⟩ := sub_cost (b := b) h0 hb hl ht (fit_of_cost hc) fun p hp _ => (cost_sum hc).2 p hp
 refine ⟨h1, ?_⟩
 rw [h2, (cost_sum hc).1]
 exact sumN_le fun p _ => by split; exact Int.le_refl _; exact Dm.1
end
def oneS (s : Stm) (p : Nat) : Stm := ⟨s.places.set p ⟨(s.pl p).name, 1⟩, s.editions⟩
section
variable {s : Stm} {l : List Int} {p : Nat}
theorem one_check (h0 : (checkT s).2.2 = 0) (hp : p < s.places.length) : (checkT (oneS s p)).2.2 = 0 := by
 have h := check_ok.1 h0
 have hnm : (oneS s p).places.map (·.name) = s.places.map (·.name) := by
   unfold oneS
   rw [List.map_set]
   apply List.ext_getElem
   · simp
   · intro j h1 h2
     rw [List.getElem_set]
     split
     · rename_i hj; subst hj; simp [pl_at hp]
     · rfl
 rw [check_ok]
 refine ⟨by simp only [oneS, List.length_set]; exact h.np, fun x hx => ?_, by rw [hnm]; exact h.pn, h.ne, fun x hx => ?_, h.en⟩
 · rcases List.mem_or_eq_of_mem_set hx with hx | rfl
   · exact h.pl x hx
   · exact ⟨(h.pl (s.pl p) (by rw [← pl_at hp]; exact List.getElem_mem hp)).1, rfl⟩
 · have h1 := h.ed x hx
   refine ⟨h1.1, ?_⟩
   rw [← h1.2]
   unfold ednErr oneS
   simp only [List.length_set]
theorem one_le (h0 : (checkT s).2.2 = 0) (hp : p < s.places.length) (hl : l.length = s.editions.length) (ht : IsTree l) (hc : costL (oneS s p) l < 1000) : costL s l < 1000 ∧ costL s l ≤ costL (oneS s p) l := by
 refine cost_le (Cw h0) hl (by simp [oneS]) (fun h => by rw [← h]; exact (fits_years ht hl hl fun i _ => ⟨rfl, rfl⟩).symm) (fun q hq => ?_) hc
 refine least_mono hl hl ht.in_ fun g h1 h2 => ⟨⟨h1.val, h1.fit⟩, fun i hi hu => ?_⟩
 have h3 := h2 i hi hu
 have hpl : (oneS s p).pl q = if q = p then ⟨(s.pl p).name, 1⟩ else s.pl q := by
   unfold oneS
   show ((s.places.set p _)[q]?).getD _ = _
   rw [List.getElem?_set]
   by_cases h : p = q
   · subst h; rw [if_pos rfl, if_pos hp, if_pos rfl]; rfl
   · rw [if_neg h, if_neg (fun k => h k.symm)]; rfl
 unfold stepOk freeP at h3 ⊢
 rw [hpl] at h3
 by_cases h : q = p
 · rw [if_pos h] at h3
   rcases h3 with h3 | h3 | h3
   · exact .inl h3
   · exact .inr (.inl h3)
   · simp at h3
 · rw [if_neg h] at h3; exact h3
/-- With one reading more there are no fewer changes. -/
theorem set_le {x : Nat} {v : Int} (h0 : (checkT s).2.2 = 0) (hx : x < s.editions.length) (hp : p < s.places.length) (hl : l.length = s.editions.length) (ht : IsTree l) (hv3 : 1 ≤ v ∧ v ≤ 3) (hk : s.r x p = 0) (hc : costL (setS s x p v) l < 1000) : costL s l < 1000 ∧ costL s l ≤ costL (setS s x p v) l := by
 have hv := Cw h0
 refine cost_le hv hl rfl (fun h => by rw [fits_set ht hl hx] at h; exact h) (fun q hq => ?_) hc
 by_cases h : q = p
 · subst h; exact least_set_le hv hx hp hl ht.in_ hv3.1 (.inl hk)
 · rw [least_other hv hx hp hl ht.in_ h]; exact Int.le_refl _
end
section
variable {s : Stm} {l : List Int} {p : Nat}
end
end Go.Proofs.Ytccogmkhijgelaa
namespace Go.Proofs.Ytccogmkhijgelaa
def Edn.cut (x : Edn) (p : Nat) : Edn := ⟨x.name, x.lo, x.hi, x.rd.take p ++ x.rd.drop (p + 1)⟩
def lessS (s : Stm) (p : Nat) : Stm := ⟨s.places.take p ++ s.places.drop (p + 1), s.editions.map fun x => x.cut p⟩
def notB (p : Nat) (q : Nat) : Bool := decide (q ≠ p)
theorem less_sub {s : Stm} (hv : ValidT s) {p : Nat} (hp : p < s.places.length) : lessS s p = subS s (notB p) := by
 unfold lessS subS
 congr 1
 · exact (sel_map_erase hp (f := s.pl) fun i hi => (pl_at hi).symm).symm
 · refine List.map_congr_left fun x hx => ?_
   obtain ⟨i, hi, rfl⟩ := List.getElem_of_mem hx
   have hl : s.editions[i].rd.length = s.places.length := by rw [ed_at hi]; exact hv.rdl i hi
   unfold Edn.cut Edn.sub
   congr 1
   rw [← hl]
   exact (sel_map_erase (by omega) (f := fun p => s.editions[i].rd[p]?.getD 0) fun i hi => by simp [hi]).symm
theorem notB_len {n p : Nat} (hp : p < n) : (selN (notB p) n).length = n - 1 := by
 have := congrArg List.length (sel_map_erase (xs := List.range n) (p := p) (by simpa using hp) (f := fun i => i) fun i hi => by simp)
 simp only [List.length_map, List.length_range, List.length_append, List.length_take, List.length_drop] at this
 unfold notB
 omega
section
variable {s : Stm} {p : Nat} {l : List Int}
theorem less_check (h0 : (checkT s).2.2 = 0) (hp : p < s.places.length) (hn : 2 ≤ s.places.length) : (checkT (lessS s p)).2.2 = 0 := by
 rw [less_sub (Cw h0) hp]
 exact sub_check h0 (by rw [notB_len hp]; omega)
theorem less_le (h0 : (checkT s).2.2 = 0) (hp : p < s.places.length) (hn : 2 ≤ s.places.length) (hl : l.length = s.editions.length) (ht : IsTree l) (hc : costL s l < 1000) : costL (lessS s p) l < 1000 ∧ costL (lessS s p) l ≤ costL s l := by
 rw [less_sub (Cw h0) hp]
 exact sub_le h0 (by rw [notB_len hp]; omega) hl ht hc
theorem less_elen : (lessS s p).editions.length = s.editions.length := by simp [lessS]
end
def restTo (l : List Int) (i k : Nat) : List Int := (selN (notB i) k).map fun j => dnI i (upN l j)
theorem restTo_yes {l : List Int} {i k : Nat} (h : k ≠ i) : restTo l i (k + 1) = restTo l i k ++ [dnI i (upN l k)] := by
 unfold restTo
 rw [Db, if_pos (show notB i k = true from decide_eq_true h), List.map_append]; rfl
theorem restTo_no {l : List Int} {i k : Nat} (h : k = i) : restTo l i (k + 1) = restTo l i k := by
 unfold restTo
 rw [Db, if_neg (by unfold notB; simp [h])]
theorem restTo_len {l : List Int} {i k : Nat} : (restTo l i k).length ≤ k := by unfold restTo; rw [List.length_map]; exact Dl
theorem restTo_all {l : List Int} {i : Nat} (hi : i < l.length) : restTo l i l.length = restL l i := by
 have e : selN (notB i) l.length = (List.range (l.length - 1)).map (skp i) := by
   have h1 := sel_map_erase (xs := List.range l.length) (p := i) (by simpa using hi) (f := fun i => i) fun i hi => by simp
   simp only [List.map_id', List.length_range] at h1
   show selN (fun q => decide (q ≠ i)) l.length = _
   rw [h1, ← List.eraseIdx_eq_take_drop_succ]
   apply List.ext_getElem
   · simp [List.length_eraseIdx, hi]
   · intro k h2 h3
     rw [List.getElem_eraseIdx]
     simp only [List.getElem_map, List.getElem_range, skp]
     split <;> rfl
 unfold restTo restL
 rw [e, List.map_map]; rfl
theorem few_eq {s : Stm} {i : Nat} : fewS s i = ⟨s.places, s.editions.take i ++ s.editions.drop (i + 1)⟩ := by unfold fewS; rw [List.eraseIdx_eq_take_drop_succ]
theorem pl_own_set {E : Nat} {w : Go.Value} {R : List (Nat × Go.Obj)} {s : Stm} {p : Nat} (h : Own E 2 w s.places.length ((s.places.flatMap Plc.enc).set (p * 2 + 1) (.int .i64 1)) R) (hp : p < s.places.length) :
   Own E 2 w (oneS s p).places.length ((oneS s p).places.flatMap Plc.enc) R := by
 have e : (s.places.flatMap Plc.enc).set (p * 2 + 1) (.int .i64 1) = (oneS s p).places.flatMap Plc.enc := by
   unfold oneS
   exact flat_set (enc := Plc.enc) (s := 2) (fun _ => rfl) (j := 1) (x := ⟨(s.pl p).name, 1⟩) (by omega) s.places p hp (by rw [pl_at hp]; rfl)
 rw [e] at h
 exact h.to (by simp [oneS])
theorem StmR.kind {F : Heap} {vp ve w : Go.Value} {ps : List (Go.Value × Edn)} {s : Stm} {p : Nat} (h : StmR F vp ve ps s) (hw : Sl F w 2 Plc.enc (oneS s p).places) : StmR F w ve ps (oneS s p) := ⟨hw, h.eds, h.rds, h.eqs⟩
theorem StmR.few {F : Heap} {vp ve w : Go.Value} {ps : List (Go.Value × Edn)} {s : Stm} {i : Nat} (h : StmR F vp ve ps s) (hw : Sl F w 4 edE (ps.take i ++ ps.drop (i + 1))) : StmR F vp w (ps.take i ++ ps.drop (i + 1)) (fewS s i) :=
 ⟨h.places, hw, fun q hq => by
   rcases List.mem_append.1 hq with hq | hq
   · exact h.rds q (List.mem_of_mem_take hq)
   · exact h.rds q (List.mem_of_mem_drop hq), by rw [few_eq, ← h.eqs, List.map_append, List.map_take, List.map_drop]⟩
/-- Editions that are laid one after another. -/
structure EdsR (F : Heap) (qs : List (Go.Value × Edn)) (es : List Edn) : Prop where
 rds : ∀ q ∈ qs, Ints F q.1 q.2.rd
 eqs : qs.map (·.2) = es
theorem EdsR.nil {F : Heap} : EdsR F [] [] := ⟨fun _ h => (by cases h), rfl⟩
theorem EdsR.mono {F F' : Heap} {qs : List (Go.Value × Edn)} {es : List Edn} (h : EdsR F qs es) (hF : F.le F') : EdsR F' qs es := ⟨fun q hq => (h.rds q hq).mono hF, h.eqs⟩
theorem EdsR.snoc {F : Heap} {qs : List (Go.Value × Edn)} {es : List Edn} (h : EdsR F qs es) {v : Go.Value} {x : Edn} (hv : Ints F v x.rd) : EdsR F (qs ++ [(v, x)]) (es ++ [x]) :=
 ⟨fun q hq => (by rcases List.mem_append.1 hq with hq | hq; exact h.rds q hq; simp at hq; subst hq; exact hv), by rw [List.map_append, h.eqs]; rfl⟩
theorem EdsR.len {F : Heap} {qs : List (Go.Value × Edn)} {es : List Edn} (h : EdsR F qs es) : qs.length = es.length := by rw [← h.eqs, List.length_map]
theorem EdsR.stm {F : Heap} {vp ve : Go.Value} {qs : List (Go.Value × Edn)} {s : Stm} (h : EdsR F qs s.editions) (hp : Sl F vp 2 Plc.enc s.places) (he : Sl F ve 4 edE qs) : StmR F vp ve qs s := ⟨hp, he, h.rds, h.eqs⟩
theorem take_map_snoc {α β : Type} {f : α → β} {l : List α} {k : Nat} (h : k < l.length) : (l.map f).take (k + 1) = (l.map f).take k ++ [f l[k]] := by
 rw [List.take_succ_eq_append_getElem (by simpa using h), List.getElem_map]
end Go.Proofs.Ytccogmkhijgelaa
