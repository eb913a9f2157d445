/-
  A part of a proof: StemClean returns true of any stem and places, and leaves what it is handed as it was. No conditions.
-/
import Derived.Test.YtccogmkhijgelaaPad
import Derived.KernelRfl
namespace Go.Proofs.Ytccogmkhijgelaa
open Go.RowKit
theorem agg_128 : AggT Try.prog 128 3 := aggT_of (by kernel_rfl)
theorem bd_87 : Body Try.prog 87 := Bn (by kernel_rfl)
theorem el_64 : ElemT Try.prog 64 4 56 (.agg #[.string ⟨#[]⟩, .int .i64 0, .int .i64 0, .slice none 0 0]) := elemT_of (by kernel_rfl) rfl (by decide)
theorem sz_128 : SizeT Try.prog 128 3 := Cx (by kernel_rfl)
theorem sz_23 : SizeT Try.prog 23 1 := Cx (by kernel_rfl)
theorem sz_26 : SizeT Try.prog 26 1 := Cx (by kernel_rfl)
theorem src_eds {F : Heap} {v : Value} {ps : List (Value × Edn)} (h : Sl F v 4 edE ps) (hone : ∀ p ∈ ps, p.1.oneCell' = true) {H : List (Nat × Obj)} : Src ⟨F, H⟩ v ps.length (ps.flatMap edE) 4 := h.srcM edE_len fun p hp => edE_one (hone p hp)
theorem StmX.ones {F : Heap} {b kb : Nat} {vp ve : Value} {ps : List (Value × Edn)} {s : Stm} (hX : StmX F b vp ve (.map (some kb)) ps s) : ∀ u ∈ [vp, ve, .map (some kb)], u.oneCell' = true := by
 intro u hu
 simp only [List.mem_cons, List.not_mem_nil, or_false] at hu
 rcases hu with rfl | rfl | rfl
 · exact hX.r.places.plain.one
 · exact hX.r.eds.plain.one
 · rfl
set_option maxRecDepth 100000 in
theorem cloneEd_own {F : Heap} {v : Value} {ps : List (Value × Edn)} (h : Sl F v 4 edE ps) (hone : ∀ p ∈ ps, p.1.oneCell' = true) (hn : ps.length ≤ 1000) : OkN Try.prog 87 [v].toArray F fun u _F' Hn => Own 64 4 u ps.length (ps.flatMap edE) Hn := by
 obtain ⟨a0, c0, rfl, g1, g2, g3, g4⟩ := h.plain
 refine OkN.intro Try.func87 rfl Try.ntmps87 rfl fun w0 => ?_
 cases a0
 ·
  refine Af <| Ai fun ds => Aa rfl (Ae Ad) ?_
  refine Ah <| Ab <| Af <| Af <| Ai fun ds => Aa rfl (Ag (Am rfl <| Aj rfl)) ?_
  refine Aa rfl (q_eqlNil Try.underlying23 (Ac) Ad) ?_
  refine Ah <| Ab <| Aq (Ac) rfl ?_
  refine Af <| Ai fun ds => Aa rfl (Ae Ad) ?_
  refine Ah <| Ab <| A2 <| A9 ?_
  refine Ec rfl (.tmp (Ac) .nil) (List.nil_sublist _) ?_
  obtain ⟨h0, -⟩ := g2 rfl
  have : ps = [] := List.eq_nil_of_length_eq_zero h0
  subst this
  exact Em
 ·
  refine Af <| Ai fun ds => Aa rfl (Ae Ad) ?_
  refine Ah <| Ab <| Af <| Af <| Ai fun ds => Aa rfl (Ag (Am rfl <| Aj rfl)) ?_
  refine Aa rfl (q_eqlNil Try.underlying23 (Ac) Ad) ?_
  refine Ah <| Ab <| Ao (Ac) rfl ?_
  refine Aw <| Ab <| Af <| Ai fun ds => Bh rfl (x_build0 B5 fun b1 hb1 nb1 => ?_)
  refine Aa rfl (Ag (A1 rfl <| Aj rfl)) ?_
  refine Bh rfl (Cv B5 el_64 (Am rfl <| Ac) (own_box rfl) (Ac) (src_eds h hone) (by omega) (by omega) (.z) .box fun v2 R3 ho4 => ?_)
  have ho1 : Own 64 4 v2 ps.length (ps.flatMap edE) R3 := by simpa using ho4
  refine Aa rfl (Ae (Ac)) ?_
  refine Ah <| Ab <| A2 <| Ec rfl (.tmp (Ac) .nil) (List.sublist_append_left _ _) ?_
  exact ho1
def IntsR7 (F : Heap) (u : Value) (p : List Int × Int) : Prop := ∃ v, u = .tuple #[v, .int .i64 p.2] ∧ Ints F v p.1
theorem IntsR7.mono {F F' : Heap} {u : Value} {p : List Int × Int} (h : IntsR7 F u p) (hF : F.le F') : IntsR7 F' u p := by obtain ⟨v, h1, h2⟩ := h; exact ⟨v, h1, h2.mono hF⟩
set_option maxRecDepth 100000 in
theorem reading_top_ok {F : Heap} {vp ve : Value} {ps : List (Value × Edn)} {s : Stm} (hr : StmR F vp ve ps s) {v : Value} {l : List Int} (hl : Ints F v l) (z q : Int) : Ok Try.prog 35 [.agg #[vp, ve], v, .int .i64 z, .int .i64 q].toArray F fun u F' => IntsR7 F' u (readE s l z q) := by
 have hle0 : F.le F := Heap.le_refl _
 refine Ok.intro Try.func35 rfl Try.ntmps35 rfl fun w0 => ?_
 have hL := hl.plain.lt
 have hlen := hr.len
 have hL1 := hr.eds.plain.lt
 have hL2 := hr.places.plain.lt
 by_cases hok : treeErr s l = 0
 ·
  obtain ⟨hv, hll, ht⟩ := tree_ok hok
  have hne := hv.ne
  have hnp := hv.np
  have hl5 : l.length ≤ 5 := by omega
  have hcv := changes_costV (s := s) ht hv hll
  have hcb := costL_bound (s := s) (l := l)
  refine Af <| Ai fun ds => Bh rfl (B4 (Aj rfl) rfl fun b1 hb1 nb1 => ?_)
  refine Aa rfl (Ae Ad) ?_
  refine Aa rfl (Ae Ad) ?_
  refine Ah <| Ab <| Af <| Ai fun ds => Aa rfl (A6 B1 (Ar rfl <| Ac) rfl rfl (A4 0 rfl)) ?_
  refine Aa rfl (Ag (A1 rfl <| Aj rfl)) ?_
  refine Bh rfl (Dn bd_68 A0 (.cons (Am rfl <| Ac) (.cons (Ac) .nil)) (enter_ok hr hl hok) fun v2 F3 R6 hr4 hF5 => ?_)
  replace hr := hr.mono hF5
  replace hle0 := Heap.le_trans hle0 hF5
  obtain ⟨ba, kb, rfl, hX, rfl⟩ := hr4
  refine Aa rfl (Ag (Ac)) ?_
  refine Aa rfl (Au (Ac) rfl) ?_
  refine Aa rfl (Au (Am rfl <| Ac) rfl) ?_
  refine Aa rfl (Au (Ar rfl <| Ac) rfl) ?_
  refine Bh rfl (B6 D1 rfl fun b7 hb7 nb7 => ?_)
  refine Aa rfl (Ae (Ar rfl <| Am rfl <| Ac)) ?_
  refine Cj (B9 D8 (Am rfl <| Ac) (Ar rfl <| Am rfl <| Ac) (i := 0) rfl rfl rfl rfl Da (.here) ?_)
  refine Aa rfl (Ae (Ar rfl <| Ac)) ?_
  refine Ah <| Ab <| Af <| Az <| Af <| Cf (i := 1) rfl hb1 (.next <| .here) fun F8 hF9 hz4 => ?_
  replace hr := hr.mono hF9
  replace hle0 := Heap.le_trans hle0 hF9
  replace hX := hX.mono hF9
  refine Cf (i := 0) rfl hb7 (.here) fun F10 hF11 hz11 => ?_
  replace hr := hr.mono hF11
  replace hle0 := Heap.le_trans hle0 hF11
  replace hX := hX.mono hF11
  replace hz4 := hF11 _ _ hz4
  refine Ai fun ds => Aa rfl (Ag (Ac)) ?_
  refine Aa rfl (B3 (Ac) Ad) ?_
  refine Aa rfl (Ae (Ac)) ?_
  refine Ah <| Ab <| Ao (Ac) (by decide) ?_
  by_cases h1 : inB 0 (s.editions.length - 1) z = true
  ·
   refine Af <| Ai fun ds => Aa rfl (Al Br (A7 rfl <| A1 rfl <| Ar rfl <| Am rfl <| Ac)) ?_
   refine Aa rfl (Ap Bz (Ac) (CellF.own hz4 rfl).cell) ?_
   refine Aa rfl (Bj B5 (Ac) hr.eds.plain) ?_
   refine Aa rfl (q_sub (Ac) Ad rfl (by omega) (by omega)) ?_
   refine Aa rfl (Ag (A5 rfl <| A1 rfl <| Aj rfl)) ?_
   refine Bh rfl (Cb Bl Dd rfl (.cons (Ac) .nil) rfl rfl (by decide) (by simp [Value.oneCell']) fun b12 hb12 nb12 => ?_)
   refine B7 (i := 0) rfl hb12 .here fun F13 hF14 hz15 => ?_
   replace hr := hr.mono hF14
   replace hle0 := Heap.le_trans hle0 hF14
   replace hX := hX.mono hF14
   replace hz4 := hF14 _ _ hz4
   replace hz11 := hF14 _ _ hz11
   have hsl16 := C0 hz15
   refine Bw rfl (Bc D3 A0 (.cons Ad (.cons (Ar rfl <| Ac) (.cons (Ac) .nil))) (Cm _ _ hsl16) (fun _ _ h => h)) ?_
   refine Aa rfl (Ag (Ac)) ?_
   refine As rfl rfl (Ac) (by simp [hlen, h1]) ?_
   refine Aa rfl (Al Cg (A5 rfl <| A1 rfl <| Ar rfl <| Am rfl <| Ac)) ?_
   refine As rfl rfl (Am rfl <| Ac) (by simp [hlen, h1]) ?_
   refine Aa rfl (Ap Cr (Ac) (CellF.own hz4 rfl).cell) ?_
   refine As rfl rfl (Ar rfl <| Ac) (by simp [hlen, h1]) ?_
   refine Aa rfl (Bj Cw (Ac) hr.places.plain) ?_
   refine As rfl rfl (Ar rfl <| Am rfl <| Ac) (by simp [hlen, h1]) ?_
   refine Aa rfl (q_sub (Ac) Ad rfl (by omega) (by omega)) ?_
   refine As rfl rfl (A1 rfl <| Ac) (by simp [hlen, h1]) ?_
   refine Aa rfl (Ag (A5 rfl <| A7 rfl <| A1 rfl <| Aj rfl)) ?_
   refine As rfl rfl (A1 rfl <| Am rfl <| Ac) (by simp [hlen, h1]) ?_
   refine Bh rfl (Cb Bl Dd rfl (.cons (Ac) .nil) rfl rfl (by decide) (by simp [Value.oneCell']) fun b17 hb17 nb17 => ?_)
   refine B7 (i := 0) rfl hb17 .here fun F18 hF19 hz20 => ?_
   replace hr := hr.mono hF19
   replace hle0 := Heap.le_trans hle0 hF19
   replace hX := hX.mono hF19
   replace hz4 := hF19 _ _ hz4
   replace hz11 := hF19 _ _ hz11
   have hsl21 := C0 hz20
   refine As rfl rfl (A1 rfl <| Ar rfl <| Ac) (by simp [hlen, h1]) ?_
   refine Bw rfl (Bc D3 A0 (.cons Ad (.cons (Ar rfl <| Ac) (.cons (Ac) .nil))) (Cm _ _ hsl21) (fun _ _ h => h)) ?_
   refine Aa rfl (Bb (A1 rfl <| Ar rfl <| Am rfl <| Ac) (by simp [hlen, h1]) (Ac)) ?_
   refine Aa rfl (Ae (Ac)) ?_
   refine Ah <| Ab ?_
   by_cases h2 : inB 0 (s.places.length - 1) q = true
   ·
    have h12 : (inB 0 (s.editions.length - 1) z && inB 0 (s.places.length - 1) q) = true := by rw [h1, h2]; rfl
    obtain ⟨x, rfl, hx⟩ := inB_nat h1
    obtain ⟨p, rfl, hp⟩ := inB_nat h2
    have hxp : x < ps.length := by omega
    have hrx := hr.rd hxp
    have hpx : p < (s.ed x).rd.length := by rw [hv.rdl x hx]; exact hp
    have er := rdT_at hpx
    have hrdl := hv.rdl x hx
    have hrb9 := hv.rd x p hx hp
    have e1 := hr.at hxp
    refine Ao (Ac) (by simp [h2]) ?_
    by_cases hc : costL s l = 1000
    ·
     refine Af <| Ai fun ds => Aa rfl (Ag (A5 rfl <| A1 rfl <| Am rfl <| Ac)) ?_
     refine Aa rfl (A6 B0 (A5 rfl <| A1 rfl <| Ar rfl <| Am rfl <| Ac) rfl rfl (Cs hz11)) ?_
     refine WL_order (.cons (.here) <| .nil) ?_
     refine Bh rfl (x_callM bd_69 A0 (.cons (Am rfl <| Ac) (.cons (Ac) .nil)) rfl (changes_ok hX ht hll hv KnownT.nil) fun v26 F27 H30 hr28 hF29 => ?_)
     obtain ⟨es2, rfl, rfl, hK2⟩ := hr28
     refine Aa rfl (Bx (Ac) Ad) ?_
     refine Aa rfl (Ae (Ac)) ?_
     refine Ah <| Ab <| Aq (Ac) (by rw [hcv]; unfold costV; rw [if_pos hc]; rfl) ?_
     refine Af <| Ai fun ds => Aa rfl (Ae Ad) ?_
     refine Aa rfl (Ae Ad) ?_
     refine Ah <| Ab <| A2 <| Bi (A9 ?_)
     refine Ax rfl (.tmp (Am rfl <| Ac) (.tmp (Ac) .nil)) ?_
     rw [readE_bad (readErr_3 hok h12 hc) (by decide)]
     exact ⟨_, rfl, Sl.nil⟩
    ·
     have hre := readErr_0 hok h12 hc
     refine Af <| Ai fun ds => Aa rfl (Ag (A5 rfl <| A1 rfl <| Am rfl <| Ac)) ?_
     refine Aa rfl (A6 B0 (A5 rfl <| A1 rfl <| Ar rfl <| Am rfl <| Ac) rfl rfl (Cs hz11)) ?_
     refine WL_order (.cons (.here) <| .nil) ?_
     refine Bh rfl (x_callM bd_69 A0 (.cons (Am rfl <| Ac) (.cons (Ac) .nil)) rfl (changes_ok hX ht hll hv KnownT.nil) fun v35 F36 H39 hr37 hF38 => ?_)
     replace hr := hr.mono hF38
     replace hle0 := Heap.le_trans hle0 hF38
     replace hX := hX.mono hF38
     replace hrx := hrx.mono hF38
     replace hz4 := hF38 _ _ hz4
     replace hz11 := hF38 _ _ hz11
     obtain ⟨es2, rfl, rfl, hK2⟩ := hr37
     refine Aa rfl (Bx (Ac) Ad) ?_
     refine Aa rfl (Ae (Ac)) ?_
     refine Ah <| Ab <| Ao (Ac) (by rw [hcv]; unfold costV; rw [if_neg hc]; exact decide_eq_false (by omega)) ?_
     refine Aw <| Ba <| Ab <| Af <| Ai fun ds => Aa rfl (Ag (A5 rfl <| A7 rfl <| Ar rfl <| Ac)) ?_
     refine Aa rfl (A6 B0 (A5 rfl <| A7 rfl <| A1 rfl <| Ac) rfl rfl (Cs hz11)) ?_
     refine Aa rfl (Ag (Bo rfl <| A7 rfl <| Aj rfl)) ?_
     refine Bw rfl (Bc bd_82 A0 (.cons (Ar rfl <| Ac) (.cons (Am rfl <| Ac) (.cons (Ac) .nil))) (Dw hX ht hll hv hp) (fun _ _ h => h)) ?_
     refine Aa rfl (Ae (Ac)) ?_
     refine Ah <| Ab <| Af <| Ai fun ds => Aa rfl (Al Br (Bo rfl <| A7 rfl <| Ar rfl <| Ac)) ?_
     refine Aa rfl (Ap Bz (Ac) (CellF.own hz4 rfl).cell) ?_
     refine Aa rfl (Ag (Bo rfl <| A7 rfl <| A1 rfl <| Am rfl <| Aj rfl)) ?_
     refine Aa rfl (Bf (k := x) B5 (Am rfl <| Ac) hr.eds.plain (Ac) rfl hxp) ?_
     refine Aa rfl (Bu Ce (Ac)) ?_
     refine Aa rfl (Ap Ck (Ac) (hr.eds.cell hxp rfl)) ?_
     refine Aa rfl (Ag (Bo rfl <| A5 rfl <| Am rfl <| Aj rfl)) ?_
     refine Aa rfl (Bf (k := p) Bl (Am rfl <| Ac) hrx.plain (Ac) rfl hpx) ?_
     refine Aa rfl (Ap Bm (Ac) (hrx.cell1 hpx rfl)) ?_
     refine Aa rfl (Ae (Ac)) ?_
     refine Ah <| Ab <| Af <| Af <| Ai fun ds => Aa rfl (Ag Ad) ?_
     refine Ah <| Ab <| Az <| Bt [8, 14, 15, 62, 63, 64, 65, 66, 67, 68, 69, 70, 71, 72, 73, 74, 75, 76, 77, 78, 79, 80, 81, 82, 83, 84, 85, 86, 87, 88, 89, 90, 91, 92, 93, 94, 95, 96, 97, 98, 99, 100, 101, 102, 103, 104, 105, 106, 107, 108, 109, 110, 111, 112, 113, 114, 115, 116, 117, 118, 119, 120, 121] (fun m e σ => ∃ G, F36.le G ∧ ∃ k : Nat, m + k = 3 ∧ e 62 = .int .i64 (k : Int) ∧ ∃ v8 R8, e 8 = v8 ∧ Own 3 1 v8 (readTo s l x p k).length ((readTo s l x p k).flatMap intE) R8 ∧ σ = ⟨G, (kb, mapO es2) :: R8⟩) (3) ?_ ?_
     · exact ⟨_, Heap.le_refl _, 0, by omega, (Ac), _, _, (Bo rfl <| A5 rfl <| A1 rfl <| Ac), Own.nil, rfl⟩
     ·
      rintro m e _ ⟨G, hFG, k, hm, hs62, v8, R8, hs8, ho, rfl⟩; have hrl := readTo_len (s := s) (l := l) (x := x) (p := p) (k := k); replace hr := hr.mono hFG; replace hX := hX.mono hFG; replace hrx := hrx.mono hFG; replace hz4 := hFG _ _ hz4; replace hz11 := hFG _ _ hz11; have hle0 := Heap.le_trans hle0 hFG
      by_cases hlt : k < 3
      ·
       refine Af <| Ai fun ds => Aa rfl (Bs (At rfl hs62) Ad) ?_
       refine Ah <| Ab <| Af <| Aq (Ac) (by first | rfl | exact decide_eq_true (by omega)) ?_
       by_cases hk0 : 0 < s.r x p
       ·
        refine Aw <| Ab <| Af <| Az <| Af <| Ai fun ds => Aa rfl (Ag (Am rfl <| At rfl hs62)) ?_
        refine Aa rfl (Ae (Ac)) ?_
        refine Ah <| Ab <| Af <| Af <| Ai fun ds => Aa rfl (Ag (Ar rfl <| Am rfl <| Ak rfl <| Am rfl <| Ac)) ?_
        refine Aa rfl (Dc (Ac) Ad) ?_
        refine Aa rfl (Ag (Ac)) ?_
        refine As rfl rfl (Ac) (by rw [er]; exact decide_eq_true hk0) ?_
        refine Aa rfl (Ag (A1 rfl <| Ar rfl <| Ak rfl <| Am rfl <| Ac)) ?_
        refine As rfl rfl (Am rfl <| Ac) (by rw [er]; exact decide_eq_true hk0) ?_
        refine Aa rfl (Ag (A1 rfl <| Ac)) ?_
        refine As rfl rfl (Ar rfl <| Ac) (by rw [er]; exact decide_eq_true hk0) ?_
        refine Aa rfl (Bv (Ac) Ad rfl (by omega) (by omega)) ?_
        refine As rfl rfl (Ar rfl <| Am rfl <| Ac) (by rw [er]; exact decide_eq_true hk0) ?_
        refine Aa rfl (B3 (Ar rfl <| Ac) (Ac)) ?_
        refine Aa rfl (A3 (A1 rfl <| Ac) (by rw [er]; exact decide_eq_true hk0) (Ac)) ?_
        refine Ah <| Ab ?_
        by_cases hke : s.r x p = (k : Int) + 1
        ·
         have hkn : (decide (s.r x p = 0) || decide (s.r x p = (k : Int) + 1)) = true := by rw [decide_eq_true hke]; simp
         refine Ao (Ac) (by rw [er]; exact decide_eq_false (fun h => h hke)) ?_
         have hvm := setS_valid (v := (k : Int) + 1) hv hx hp (by omega)
         refine Aw <| Ab <| Af <| Ai fun ds => Aa rfl (Ag (A7 rfl <| Ar rfl <| Am rfl <| Ak rfl <| Bo rfl <| A7 rfl <| Ar rfl <| Ac)) ?_
         refine Aa rfl (By (Ac)) ?_
         refine Aa rfl (A6 agg_128 (Ac) rfl rfl (Cs hX.blk)) ?_
         refine Bh rfl (B6 zr_128 rfl fun b41 hb41 nb41 => ?_)
         refine Cj (B9 sz_128 (Ac) (Am rfl <| Ac) (i := 0) rfl rfl rfl rfl hX.ones (.here) ?_)
         refine Ah <| Ab <| Af <| Ai fun ds => Aa rfl (Ag (A7 rfl <| A1 rfl <| Ar rfl <| Am rfl <| Ak rfl <| Bo rfl <| A7 rfl <| Ar rfl <| Ac)) ?_
         refine Aa rfl (By (Ac)) ?_
         refine Aa rfl (Al Cc (Ac)) ?_
         refine Aa rfl (Al Br (Ac)) ?_
         refine Aa rfl (Ap Bz (Ac) (CellF.own hX.blk rfl).cell) ?_
         refine Bh rfl (x_callNf bd_87 A0 (.cons (Ac) .nil) (cloneEd_own hX.r.eds hX.r.one (by omega)) fun v42 F43 R46 hr44 hF45 => ?_)
         replace hX := hX.mono hF45
         replace hrx := hrx.mono hF45
         replace hFG := Heap.le_trans hFG hF45
         replace hle0 := Heap.le_trans hle0 hF45
         replace hz11 := hF45 _ _ hz11
         have hoE := hr44
         refine Aa rfl (Al Cc (A1 rfl <| Ar rfl <| Ac)) ?_
         refine Aa rfl (Al Br (Ac)) ?_
         refine WL_orderB (.one (.skip <| .here) <| .one (.skip <| .here) <| .blk (.lastS) <| .lastb (.last)) ?_
         refine Cj (Ci sz_23 (Ac) (Ar rfl <| Ac) (i := 0) rfl (.next <| .here) (Own.one hoE) (.here) ?_)
         refine Ah <| Ab <| Af ?_
         have hleS := hle0
         refine C1 (.inl rfl) (fun _ _ h => h) (.cons_cons _ <| .cons_cons _ <| .refl _) [16] (by kernel_rfl) fun ds => ?_
         refine A8 0 rfl (by kernel_rfl) (by kernel_rfl) (by kernel_rfl) (by kernel_rfl) rfl rfl (fun _ h => h.drop (.cons_cons _ <| .cons_cons _ <| .refl _)) (fun _ _ _ h => h) (Al Cc (A7 rfl <| Ac)) ?_
         refine A8 1 rfl (by kernel_rfl) (by kernel_rfl) (by kernel_rfl) (by kernel_rfl) rfl rfl (fun _ h => h.drop (.cons_cons _ <| .cons_cons _ <| .refl _)) (fun _ _ _ h => h) (Al Br (Ac)) ?_
         refine A8 2 rfl (by kernel_rfl) (by kernel_rfl) (by kernel_rfl) (by kernel_rfl) rfl rfl (fun _ h => h.drop (.cons_cons _ <| .cons_cons _ <| .refl _)) (fun _ _ _ h => h) (Ap Bz (Ac) (Cell.own 0 rfl rfl)) ?_
         refine A8 3 rfl (by kernel_rfl) (by kernel_rfl) (by kernel_rfl) (by kernel_rfl) rfl rfl (fun _ h => h.drop (.cons_cons _ <| .cons_cons _ <| .refl _)) (fun _ _ _ h => h) (Ag (A5 rfl <| A7 rfl <| Ar rfl <| Ak rfl <| Bo rfl <| A5 rfl <| A1 rfl <| Ar rfl <| Aj rfl)) ?_
         refine A8 4 rfl (by kernel_rfl) (by kernel_rfl) (by kernel_rfl) (by kernel_rfl) rfl rfl (fun _ h => h.drop (.cons_cons _ <| .cons_cons _ <| .refl _)) (fun _ _ _ h => h) (Ag (A5 rfl <| A7 rfl <| Ar rfl <| Am rfl <| Ak rfl <| Bo rfl <| A7 rfl <| Ar rfl <| Ac)) ?_
         refine A8 5 rfl (by kernel_rfl) (by kernel_rfl) (by kernel_rfl) (by kernel_rfl) rfl rfl (fun _ h => h.drop (.cons_cons _ <| .cons_cons _ <| .refl _)) (fun _ _ _ h => h) (By (Ac)) ?_
         refine A8 6 rfl (by kernel_rfl) (by kernel_rfl) (by kernel_rfl) (by kernel_rfl) rfl rfl (fun _ h => h.drop (.cons_cons _ <| .cons_cons _ <| .refl _)) (fun _ _ _ h => h) (Al Cc (Ac)) ?_
         refine A8 7 rfl (by kernel_rfl) (by kernel_rfl) (by kernel_rfl) (by kernel_rfl) rfl rfl (fun _ h => h.drop (.cons_cons _ <| .cons_cons _ <| .refl _)) (fun _ _ _ h => h) (Al Br (Ac)) ?_
         refine A8 8 rfl (by kernel_rfl) (by kernel_rfl) (by kernel_rfl) (by kernel_rfl) rfl rfl (fun _ h => h.drop (.cons_cons _ <| .cons_cons _ <| .refl _)) (fun _ _ _ h => h) (Ap Bz (Ac) (CellF.own hX.blk rfl).cell) ?_
         refine A8 9 rfl (by kernel_rfl) (by kernel_rfl) (by kernel_rfl) (by kernel_rfl) rfl rfl (fun _ h => h.drop (.cons_cons _ <| .cons_cons _ <| .refl _)) (fun _ _ _ h => h) (Ag (Bo rfl <| Ak rfl <| Bo rfl <| A5 rfl <| A1 rfl <| Ar rfl <| Aj rfl)) ?_
         refine A8 10 rfl (by kernel_rfl) (by kernel_rfl) (by kernel_rfl) (by kernel_rfl) rfl rfl (fun _ h => h.drop (.cons_cons _ <| .cons_cons _ <| .refl _)) (fun _ _ _ h => h) (Bf (k := x) B5 (Am rfl <| Ac) hX.r.eds.plain (Ac) rfl hxp) ?_
         refine A8 11 rfl (by kernel_rfl) (by kernel_rfl) (by kernel_rfl) (by kernel_rfl) rfl rfl (fun _ h => h.drop (.cons_cons _ <| .cons_cons _ <| .refl _)) (fun _ _ _ h => h) (Bu Ce (Ac)) ?_
         refine A8 12 rfl (by kernel_rfl) (by kernel_rfl) (by kernel_rfl) (by kernel_rfl) rfl rfl (fun _ h => h.drop (.cons_cons _ <| .cons_cons _ <| .refl _)) (fun _ _ _ h => h) (Ap Ck (Ac) (hX.r.eds.cell hxp rfl)) ?_
         refine WX_x 13 rfl (by kernel_rfl) rfl (x_callNf bd_76 A0 (.cons (Ac) .nil) (cloneInt_own hrx (by omega)) fun v47 F48 R51 hr49 hF50 => ⟨fun _ _ _ h => (h.drop (List.sublist_append_of_sublist_right <| .cons_cons _ <| .cons_cons _ <| .refl _)).weak hF50 hleS, ?_⟩)
         replace hX := hX.mono hF50
         replace hFG := Heap.le_trans hFG hF50
         replace hz11 := hF50 _ _ hz11
         have hoR := hr49
         refine A8 14 rfl (by kernel_rfl) (by kernel_rfl) (by kernel_rfl) (by kernel_rfl) rfl rfl (fun _ h => (h.drop (List.sublist_append_of_sublist_right <| .cons_cons _ <| .cons_cons _ <| .refl _)).weak hF50 hleS) (fun _ _ _ h => h) (Bf (k := x) B5 (A7 rfl <| Ar rfl <| Am rfl <| Ac) (hoE.plain (by omega)) (A7 rfl <| Ar rfl <| Ac) rfl hxp) ?_
         refine A8 15 rfl (by kernel_rfl) (by kernel_rfl) (by kernel_rfl) (by kernel_rfl) rfl rfl (fun _ h => (h.drop (List.sublist_append_of_sublist_right <| .cons_cons _ <| .cons_cons _ <| .refl _)).weak hF50 hleS) (fun _ _ _ h => h) (Bu Ce (Ac)) ?_
         refine WX_orderB (.one (.skip <| .here) <| .one (.skip <| .here) <| .blk (.skip <| .here) <| .blk (.lastS) <| .lastb (.last)) ?_
         refine WX_x0 16 rfl (by kernel_rfl) (x_storeR sz_26 (Ac) (Ar rfl <| Ac) hoE (by rw [flat_len edE_len]; omega) (Own.one hoR) (.s <| .s <| .k <| .z) .more fun R52 ho53 => ⟨(fun h => nomatch h), ?_⟩)
         have hoE2 := ed_own_set (e := (s.ed x).setR p ((k : Int) + 1)) ho53 hxp (by rw [e1]; rfl) (by rw [e1]; rfl) (by rw [e1]; rfl)
         refine C6 (by kernel_rfl) ?_ _
         refine Ab <| Af <| Ai fun ds => Aa rfl (Al Cc (A5 rfl <| A7 rfl <| Ac)) ?_
         refine Aa rfl (Al Br (Ac)) ?_
         refine Aa rfl (Ap Bz (Ac) (Cell.own 0 rfl rfl)) ?_
         refine Aa rfl (Ag (Bo rfl <| A7 rfl <| Ar rfl <| Ak rfl <| Bo rfl <| A5 rfl <| A1 rfl <| Ar rfl <| Aj rfl)) ?_
         refine Aa rfl (Bf (k := x) B5 (Am rfl <| Ac) (hoE2.plain (by rw [List.length_set]; omega)) (Ac) rfl (by simp; omega)) ?_
         refine Aa rfl (Bu Ce (Ac)) ?_
         refine Aa rfl (Ap Ck (Ac) (own_cell hoE2 (fun p hp => .tail _ (.tail _ (List.mem_append_right _ (List.mem_append_left _ hp)))) (ed_set_get hxp))) ?_
         refine Aa rfl (Ag (Bo rfl <| A7 rfl <| A1 rfl <| Ar rfl <| Ak rfl <| Bo rfl <| A5 rfl <| A1 rfl <| Ar rfl <| Aj rfl)) ?_
         refine Aa rfl (Ag (Bo rfl <| A7 rfl <| A1 rfl <| Ac)) ?_
         refine Aa rfl (Bv (Ac) Ad rfl (by omega) (by omega)) ?_
         refine Aa rfl (Bf (k := p) Bl (Ar rfl <| Am rfl <| Ac) (hoR.plain (by omega)) (Ar rfl <| Ac) rfl hpx) ?_
         refine Cj (x_storeR sz_3 (Ac) (Am rfl <| Ac) hoR (by rw [flat_len (enc := intE) (s := 1) (fun _ => rfl)]; omega) rfl (.s <| .s <| .k <| .k <| .z) .last fun R54 ho55 => ?_)
         have hoR2 := ho55
         rw [show p * 1 = p * 1 + 0 from rfl, int_flat_set hpx] at hoR2
         replace hoR2 := hoR2.to (k' := ((s.ed x).rd.set p ((k : Int) + 1)).length) (by simp)
         refine Ah <| Ab <| Af <| Cu (σ := ⟨_, _⟩) (by rfl) hoR2 (.s <| .s <| .k <| .k <| .z) .last fun F56 hF57 hz58 => ?_
         replace hX := hX.mono hF57
         replace hFG := Heap.le_trans hFG hF57
         replace hz11 := hF57 _ _ hz11
         refine WC_pickB (.one (.here) <| .one (.here) <| .blk (.here) <| .lastb (.here)) ?_
         have hrn := hoR2.sl (fun _ => rfl) hz58 (by simp; omega)
         refine Cu (σ := ⟨_, _⟩) (by rfl) hoE2 (.s <| .s <| .k <| .z) .last fun F59 hF60 hz61 => ?_
         replace hX := hX.mono hF60
         replace hFG := Heap.le_trans hFG hF60
         replace hrn := hrn.mono hF60
         replace hz11 := hF60 _ _ hz11
         refine WC_pickB (.one (.here) <| .one (.here) <| .lastb (.here)) ?_
         have hen := hoE2.sl (fun _ => rfl) hz61 (by simp; omega)
         refine Cf (i := 0) rfl hb41 (.here) fun F62 hF63 hz15 => ?_
         replace hX := hX.mono hF63
         replace hFG := Heap.le_trans hFG hF63
         replace hrn := hrn.mono hF63
         replace hen := hen.mono hF63
         replace hz11 := hF63 _ _ hz11
         have hXm : StmX _ _ _ _ _ _ (setS s x p ((k : Int) + 1)) := ⟨hX.r.set hen hrn, hz15⟩
         by_cases hpl : decide (placeN (setS s x p ((k : Int) + 1)) l p = placeN s l p) = true
         ·
          have hrb : readB s l x p k = true := by unfold readB; rw [hkn, hpl]; rfl
          refine Ai fun ds => Aa rfl (A6 B0 (Bo rfl <| A5 rfl <| Ar rfl <| Ak rfl <| Bo rfl <| A7 rfl <| Ar rfl <| Am rfl <| Ac) rfl rfl (Cs hz11)) ?_
          refine Aa rfl (Ag (Bo rfl <| A5 rfl <| Ar rfl <| Am rfl <| Ak rfl <| Bo rfl <| A5 rfl <| A1 rfl <| Ar rfl <| Aj rfl)) ?_
          refine Bw rfl (Bc bd_82 A0 (.cons (Bo rfl <| A1 rfl <| Am rfl <| Ac) (.cons (Am rfl <| Ac) (.cons (Ac) .nil))) (Dw hXm ht (by rw [setS_len]; exact hll) hvm hp) (fun _ _ h => h)) ?_
          refine Aa rfl (Ag (Bo rfl <| A5 rfl <| A1 rfl <| Am rfl <| Ak rfl <| A7 rfl <| Ar rfl <| Am rfl <| Ac)) ?_
          refine Aa rfl (Bx (Am rfl <| Ac) (Ac)) ?_
          refine Ah <| Ab <| Aq (Ac) hpl ?_
          refine Ai fun ds => Aa rfl (Ag (Bo rfl <| A5 rfl <| A1 rfl <| Ar rfl <| Am rfl <| At rfl hs8)) ?_
          refine Aa rfl (Ag (Bo rfl <| A5 rfl <| A1 rfl <| Am rfl <| Ac)) ?_
          refine Aa rfl (Bv (Ac) Ad rfl (by omega) (by omega)) ?_
          refine Bh rfl (Cb Bl Dd rfl (.cons (Ac) .nil) rfl rfl (by decide) (by simp [Value.oneCell']) fun b64 hb64 nb64 => ?_)
          refine B7 (i := 0) rfl hb64 .here fun F65 hF66 hz67 => ?_
          replace hFG := Heap.le_trans hFG hF66
          have hsl68 := C0 hz67
          refine Bh rfl (Cv Bl el_3 (Ar rfl <| Am rfl <| Ac) ho (Ac) hsl68.srcInt (by simp only [List.length_singleton]; omega) (by simp only [List.length_singleton]; omega) (.s <| .z) .last fun v69 R70 ho71 => ?_)
          have ho2 := ho71.snoc (x := (k : Int) + 1) rfl rfl
          refine Aa rfl (Ae (Ac)) ?_
          refine Ah <| Ba <| Ab <| Ai fun ds => Aa rfl (Bv (Bo rfl <| A5 rfl <| A7 rfl <| A1 rfl <| Am rfl <| At rfl hs62) Ad rfl (by omega) (by omega)) ?_
          refine Aa rfl (Ag (Ac)) ?_
          refine Ah <| Ab ⟨_, m - 1, Off.eq (ou32 rfl <| C5 rfl <| Dr rfl <| D5 rfl <| ou2 rfl <| D0 rfl <| Bd), by omega, ?_⟩
          exact ⟨_, hFG, k + 1, by omega, (Ac), _, _, (Ar rfl <| Ac), by rw [readTo_succ, if_pos hrb]; exact ho2, rfl⟩
         ·
          replace hpl : decide (placeN (setS s x p ((k : Int) + 1)) l p = placeN s l p) = false := by simpa using hpl
          have hrb : readB s l x p k = false := by unfold readB; rw [hpl]; simp
          refine Ai fun ds => Aa rfl (A6 B0 (Bo rfl <| A5 rfl <| Ar rfl <| Ak rfl <| Bo rfl <| A7 rfl <| Ar rfl <| Am rfl <| Ac) rfl rfl (Cs hz11)) ?_
          refine Aa rfl (Ag (Bo rfl <| A5 rfl <| Ar rfl <| Am rfl <| Ak rfl <| Bo rfl <| A5 rfl <| A1 rfl <| Ar rfl <| Aj rfl)) ?_
          refine Bw rfl (Bc bd_82 A0 (.cons (Bo rfl <| A1 rfl <| Am rfl <| Ac) (.cons (Am rfl <| Ac) (.cons (Ac) .nil))) (Dw hXm ht (by rw [setS_len]; exact hll) hvm hp) (fun _ _ h => h)) ?_
          refine Aa rfl (Ag (Bo rfl <| A5 rfl <| A1 rfl <| Am rfl <| Ak rfl <| A7 rfl <| Ar rfl <| Am rfl <| Ac)) ?_
          refine Aa rfl (Bx (Am rfl <| Ac) (Ac)) ?_
          refine Ah <| Ab <| Ao (Ac) hpl ?_
          refine Aw <| Ba <| Ab <| Ai fun ds => Aa rfl (Bv (Bo rfl <| A5 rfl <| A1 rfl <| Ar rfl <| Am rfl <| At rfl hs62) Ad rfl (by omega) (by omega)) ?_
          refine Aa rfl (Ag (Ac)) ?_
          refine Ah <| Ab ⟨_, m - 1, Off.eq (ou32 rfl <| C5 rfl <| Dr rfl <| D0 rfl <| Bd), by omega, ?_⟩
          exact ⟨_, hFG, k + 1, by omega, (Ac), _, _, (Bo rfl <| A5 rfl <| A7 rfl <| Am rfl <| At rfl hs8), by rw [readTo_succ, if_neg (by rw [hrb]; simp)]; exact ho, rfl⟩
        ·
         have hrb : readB s l x p k = false := by unfold readB; rw [decide_eq_false (show ¬ s.r x p = 0 by omega), decide_eq_false (show ¬ s.r x p = (k : Int) + 1 by omega)]; rfl
         refine Aq (Ac) (by rw [er]; exact decide_eq_true hke) ?_
         refine Bp ?_
         refine Be (Bg ?_)
         refine Ab <| Ai fun ds => Aa rfl (Bv (A7 rfl <| Ar rfl <| Am rfl <| At rfl hs62) Ad rfl (by omega) (by omega)) ?_
         refine Aa rfl (Ag (Ac)) ?_
         refine Ah <| Ab ⟨_, m - 1, Off.eq (Dr rfl <| D5 rfl <| D0 rfl <| Bd), by omega, ?_⟩
         exact ⟨_, hFG, k + 1, by omega, (Ac), _, _, (A7 rfl <| A1 rfl <| Am rfl <| At rfl hs8), by rw [readTo_succ, if_neg (by rw [hrb]; simp)]; exact ho, rfl⟩
       ·
        have hkn : (decide (s.r x p = 0) || decide (s.r x p = (k : Int) + 1)) = true := by rw [decide_eq_true (show s.r x p = 0 by omega)]; rfl
        refine Aw <| Ab <| Af <| Az <| Af <| Ai fun ds => Aa rfl (Ag (Am rfl <| At rfl hs62)) ?_
        refine Aa rfl (Ae (Ac)) ?_
        refine Ah <| Ab <| Af <| Af <| Ai fun ds => Aa rfl (Ag (Ar rfl <| Am rfl <| Ak rfl <| Am rfl <| Ac)) ?_
        refine Aa rfl (Dc (Ac) Ad) ?_
        refine Aa rfl (Ag (Ac)) ?_
        refine Ay rfl rfl (Ac) (.inl (congrArg Value.bool (by rw [er]; exact decide_eq_false hk0))) rfl ?_
        refine Ay rfl rfl (Am rfl <| Ac) (.inl (congrArg Value.bool (by rw [er]; exact decide_eq_false hk0))) rfl ?_
        refine Ay rfl rfl (Ar rfl <| Ac) (.inl (congrArg Value.bool (by rw [er]; exact decide_eq_false hk0))) rfl ?_
        refine Ay rfl rfl (Ar rfl <| Am rfl <| Ac) (.inl (congrArg Value.bool (by rw [er]; exact decide_eq_false hk0))) rfl ?_
        refine Aa rfl (Bb (A1 rfl <| Ac) (by rw [er]; exact decide_eq_false hk0) Ad) ?_
        refine Ah <| Ab <| Ao (Ac) rfl ?_
        have hvm := setS_valid (v := (k : Int) + 1) hv hx hp (by omega)
        refine Aw <| Ab <| Af <| Ai fun ds => Aa rfl (Ag (A7 rfl <| Ar rfl <| Am rfl <| Ak rfl <| Bo rfl <| A7 rfl <| Ar rfl <| Ac)) ?_
        refine Aa rfl (By (Ac)) ?_
        refine Aa rfl (A6 agg_128 (Ac) rfl rfl (Cs hX.blk)) ?_
        refine Bh rfl (B6 zr_128 rfl fun b72 hb72 nb72 => ?_)
        refine Cj (B9 sz_128 (Ac) (Am rfl <| Ac) (i := 0) rfl rfl rfl rfl hX.ones (.here) ?_)
        refine Ah <| Ab <| Af <| Ai fun ds => Aa rfl (Ag (A7 rfl <| A1 rfl <| Ar rfl <| Am rfl <| Ak rfl <| Bo rfl <| A7 rfl <| Ar rfl <| Ac)) ?_
        refine Aa rfl (By (Ac)) ?_
        refine Aa rfl (Al Cc (Ac)) ?_
        refine Aa rfl (Al Br (Ac)) ?_
        refine Aa rfl (Ap Bz (Ac) (CellF.own hX.blk rfl).cell) ?_
        refine Bh rfl (x_callNf bd_87 A0 (.cons (Ac) .nil) (cloneEd_own hX.r.eds hX.r.one (by omega)) fun v73 F74 R77 hr75 hF76 => ?_)
        replace hX := hX.mono hF76
        replace hrx := hrx.mono hF76
        replace hFG := Heap.le_trans hFG hF76
        replace hle0 := Heap.le_trans hle0 hF76
        replace hz11 := hF76 _ _ hz11
        have hoE := hr75
        refine Aa rfl (Al Cc (A1 rfl <| Ar rfl <| Ac)) ?_
        refine Aa rfl (Al Br (Ac)) ?_
        refine WL_orderB (.one (.skip <| .here) <| .one (.skip <| .here) <| .blk (.lastS) <| .lastb (.last)) ?_
        refine Cj (Ci sz_23 (Ac) (Ar rfl <| Ac) (i := 0) rfl (.next <| .here) (Own.one hoE) (.here) ?_)
        refine Ah <| Ab <| Af ?_
        have hleS := hle0
        refine C1 (.inl rfl) (fun _ _ h => h) (.cons_cons _ <| .cons_cons _ <| .refl _) [16] (by kernel_rfl) fun ds => ?_
        refine A8 0 rfl (by kernel_rfl) (by kernel_rfl) (by kernel_rfl) (by kernel_rfl) rfl rfl (fun _ h => h.drop (.cons_cons _ <| .cons_cons _ <| .refl _)) (fun _ _ _ h => h) (Al Cc (A7 rfl <| Ac)) ?_
        refine A8 1 rfl (by kernel_rfl) (by kernel_rfl) (by kernel_rfl) (by kernel_rfl) rfl rfl (fun _ h => h.drop (.cons_cons _ <| .cons_cons _ <| .refl _)) (fun _ _ _ h => h) (Al Br (Ac)) ?_
        refine A8 2 rfl (by kernel_rfl) (by kernel_rfl) (by kernel_rfl) (by kernel_rfl) rfl rfl (fun _ h => h.drop (.cons_cons _ <| .cons_cons _ <| .refl _)) (fun _ _ _ h => h) (Ap Bz (Ac) (Cell.own 0 rfl rfl)) ?_
        refine A8 3 rfl (by kernel_rfl) (by kernel_rfl) (by kernel_rfl) (by kernel_rfl) rfl rfl (fun _ h => h.drop (.cons_cons _ <| .cons_cons _ <| .refl _)) (fun _ _ _ h => h) (Ag (A5 rfl <| A7 rfl <| Ar rfl <| Ak rfl <| Bo rfl <| A5 rfl <| A1 rfl <| Ar rfl <| Aj rfl)) ?_
        refine A8 4 rfl (by kernel_rfl) (by kernel_rfl) (by kernel_rfl) (by kernel_rfl) rfl rfl (fun _ h => h.drop (.cons_cons _ <| .cons_cons _ <| .refl _)) (fun _ _ _ h => h) (Ag (A5 rfl <| A7 rfl <| Ar rfl <| Am rfl <| Ak rfl <| Bo rfl <| A7 rfl <| Ar rfl <| Ac)) ?_
        refine A8 5 rfl (by kernel_rfl) (by kernel_rfl) (by kernel_rfl) (by kernel_rfl) rfl rfl (fun _ h => h.drop (.cons_cons _ <| .cons_cons _ <| .refl _)) (fun _ _ _ h => h) (By (Ac)) ?_
        refine A8 6 rfl (by kernel_rfl) (by kernel_rfl) (by kernel_rfl) (by kernel_rfl) rfl rfl (fun _ h => h.drop (.cons_cons _ <| .cons_cons _ <| .refl _)) (fun _ _ _ h => h) (Al Cc (Ac)) ?_
        refine A8 7 rfl (by kernel_rfl) (by kernel_rfl) (by kernel_rfl) (by kernel_rfl) rfl rfl (fun _ h => h.drop (.cons_cons _ <| .cons_cons _ <| .refl _)) (fun _ _ _ h => h) (Al Br (Ac)) ?_
        refine A8 8 rfl (by kernel_rfl) (by kernel_rfl) (by kernel_rfl) (by kernel_rfl) rfl rfl (fun _ h => h.drop (.cons_cons _ <| .cons_cons _ <| .refl _)) (fun _ _ _ h => h) (Ap Bz (Ac) (CellF.own hX.blk rfl).cell) ?_
        refine A8 9 rfl (by kernel_rfl) (by kernel_rfl) (by kernel_rfl) (by kernel_rfl) rfl rfl (fun _ h => h.drop (.cons_cons _ <| .cons_cons _ <| .refl _)) (fun _ _ _ h => h) (Ag (Bo rfl <| Ak rfl <| Bo rfl <| A5 rfl <| A1 rfl <| Ar rfl <| Aj rfl)) ?_
        refine A8 10 rfl (by kernel_rfl) (by kernel_rfl) (by kernel_rfl) (by kernel_rfl) rfl rfl (fun _ h => h.drop (.cons_cons _ <| .cons_cons _ <| .refl _)) (fun _ _ _ h => h) (Bf (k := x) B5 (Am rfl <| Ac) hX.r.eds.plain (Ac) rfl hxp) ?_
        refine A8 11 rfl (by kernel_rfl) (by kernel_rfl) (by kernel_rfl) (by kernel_rfl) rfl rfl (fun _ h => h.drop (.cons_cons _ <| .cons_cons _ <| .refl _)) (fun _ _ _ h => h) (Bu Ce (Ac)) ?_
        refine A8 12 rfl (by kernel_rfl) (by kernel_rfl) (by kernel_rfl) (by kernel_rfl) rfl rfl (fun _ h => h.drop (.cons_cons _ <| .cons_cons _ <| .refl _)) (fun _ _ _ h => h) (Ap Ck (Ac) (hX.r.eds.cell hxp rfl)) ?_
        refine WX_x 13 rfl (by kernel_rfl) rfl (x_callNf bd_76 A0 (.cons (Ac) .nil) (cloneInt_own hrx (by omega)) fun v78 F79 R82 hr80 hF81 => ⟨fun _ _ _ h => (h.drop (List.sublist_append_of_sublist_right <| .cons_cons _ <| .cons_cons _ <| .refl _)).weak hF81 hleS, ?_⟩)
        replace hX := hX.mono hF81
        replace hFG := Heap.le_trans hFG hF81
        replace hz11 := hF81 _ _ hz11
        have hoR := hr80
        refine A8 14 rfl (by kernel_rfl) (by kernel_rfl) (by kernel_rfl) (by kernel_rfl) rfl rfl (fun _ h => (h.drop (List.sublist_append_of_sublist_right <| .cons_cons _ <| .cons_cons _ <| .refl _)).weak hF81 hleS) (fun _ _ _ h => h) (Bf (k := x) B5 (A7 rfl <| Ar rfl <| Am rfl <| Ac) (hoE.plain (by omega)) (A7 rfl <| Ar rfl <| Ac) rfl hxp) ?_
        refine A8 15 rfl (by kernel_rfl) (by kernel_rfl) (by kernel_rfl) (by kernel_rfl) rfl rfl (fun _ h => (h.drop (List.sublist_append_of_sublist_right <| .cons_cons _ <| .cons_cons _ <| .refl _)).weak hF81 hleS) (fun _ _ _ h => h) (Bu Ce (Ac)) ?_
        refine WX_orderB (.one (.skip <| .here) <| .one (.skip <| .here) <| .blk (.skip <| .here) <| .blk (.lastS) <| .lastb (.last)) ?_
        refine WX_x0 16 rfl (by kernel_rfl) (x_storeR sz_26 (Ac) (Ar rfl <| Ac) hoE (by rw [flat_len edE_len]; omega) (Own.one hoR) (.s <| .s <| .k <| .z) .more fun R83 ho84 => ⟨(fun h => nomatch h), ?_⟩)
        have hoE2 := ed_own_set (e := (s.ed x).setR p ((k : Int) + 1)) ho84 hxp (by rw [e1]; rfl) (by rw [e1]; rfl) (by rw [e1]; rfl)
        refine C6 (by kernel_rfl) ?_ _
        refine Ab <| Af <| Ai fun ds => Aa rfl (Al Cc (A5 rfl <| A7 rfl <| Ac)) ?_
        refine Aa rfl (Al Br (Ac)) ?_
        refine Aa rfl (Ap Bz (Ac) (Cell.own 0 rfl rfl)) ?_
        refine Aa rfl (Ag (Bo rfl <| A7 rfl <| Ar rfl <| Ak rfl <| Bo rfl <| A5 rfl <| A1 rfl <| Ar rfl <| Aj rfl)) ?_
        refine Aa rfl (Bf (k := x) B5 (Am rfl <| Ac) (hoE2.plain (by rw [List.length_set]; omega)) (Ac) rfl (by simp; omega)) ?_
        refine Aa rfl (Bu Ce (Ac)) ?_
        refine Aa rfl (Ap Ck (Ac) (own_cell hoE2 (fun p hp => .tail _ (.tail _ (List.mem_append_right _ (List.mem_append_left _ hp)))) (ed_set_get hxp))) ?_
        refine Aa rfl (Ag (Bo rfl <| A7 rfl <| A1 rfl <| Ar rfl <| Ak rfl <| Bo rfl <| A5 rfl <| A1 rfl <| Ar rfl <| Aj rfl)) ?_
        refine Aa rfl (Ag (Bo rfl <| A7 rfl <| A1 rfl <| Ac)) ?_
        refine Aa rfl (Bv (Ac) Ad rfl (by omega) (by omega)) ?_
        refine Aa rfl (Bf (k := p) Bl (Ar rfl <| Am rfl <| Ac) (hoR.plain (by omega)) (Ar rfl <| Ac) rfl hpx) ?_
        refine Cj (x_storeR sz_3 (Ac) (Am rfl <| Ac) hoR (by rw [flat_len (enc := intE) (s := 1) (fun _ => rfl)]; omega) rfl (.s <| .s <| .k <| .k <| .z) .last fun R85 ho86 => ?_)
        have hoR2 := ho86
        rw [show p * 1 = p * 1 + 0 from rfl, int_flat_set hpx] at hoR2
        replace hoR2 := hoR2.to (k' := ((s.ed x).rd.set p ((k : Int) + 1)).length) (by simp)
        refine Ah <| Ab <| Af <| Cu (σ := ⟨_, _⟩) (by rfl) hoR2 (.s <| .s <| .k <| .k <| .z) .last fun F87 hF88 hz89 => ?_
        replace hX := hX.mono hF88
        replace hFG := Heap.le_trans hFG hF88
        replace hz11 := hF88 _ _ hz11
        refine WC_pickB (.one (.here) <| .one (.here) <| .blk (.here) <| .lastb (.here)) ?_
        have hrn := hoR2.sl (fun _ => rfl) hz89 (by simp; omega)
        refine Cu (σ := ⟨_, _⟩) (by rfl) hoE2 (.s <| .s <| .k <| .z) .last fun F90 hF91 hz92 => ?_
        replace hX := hX.mono hF91
        replace hFG := Heap.le_trans hFG hF91
        replace hrn := hrn.mono hF91
        replace hz11 := hF91 _ _ hz11
        refine WC_pickB (.one (.here) <| .one (.here) <| .lastb (.here)) ?_
        have hen := hoE2.sl (fun _ => rfl) hz92 (by simp; omega)
        refine Cf (i := 0) rfl hb72 (.here) fun F93 hF94 hz15 => ?_
        replace hX := hX.mono hF94
        replace hFG := Heap.le_trans hFG hF94
        replace hrn := hrn.mono hF94
        replace hen := hen.mono hF94
        replace hz11 := hF94 _ _ hz11
        have hXm : StmX _ _ _ _ _ _ (setS s x p ((k : Int) + 1)) := ⟨hX.r.set hen hrn, hz15⟩
        by_cases hpl : decide (placeN (setS s x p ((k : Int) + 1)) l p = placeN s l p) = true
        ·
         have hrb : readB s l x p k = true := by unfold readB; rw [hkn, hpl]; rfl
         refine Ai fun ds => Aa rfl (A6 B0 (Bo rfl <| A5 rfl <| Ar rfl <| Ak rfl <| Bo rfl <| A7 rfl <| Ar rfl <| Am rfl <| Ac) rfl rfl (Cs hz11)) ?_
         refine Aa rfl (Ag (Bo rfl <| A5 rfl <| Ar rfl <| Am rfl <| Ak rfl <| Bo rfl <| A5 rfl <| A1 rfl <| Ar rfl <| Aj rfl)) ?_
         refine Bw rfl (Bc bd_82 A0 (.cons (Bo rfl <| A1 rfl <| Am rfl <| Ac) (.cons (Am rfl <| Ac) (.cons (Ac) .nil))) (Dw hXm ht (by rw [setS_len]; exact hll) hvm hp) (fun _ _ h => h)) ?_
         refine Aa rfl (Ag (Bo rfl <| A5 rfl <| A1 rfl <| Am rfl <| Ak rfl <| A7 rfl <| Ar rfl <| Am rfl <| Ac)) ?_
         refine Aa rfl (Bx (Am rfl <| Ac) (Ac)) ?_
         refine Ah <| Ab <| Aq (Ac) hpl ?_
         refine Ai fun ds => Aa rfl (Ag (Bo rfl <| A5 rfl <| A1 rfl <| Ar rfl <| Am rfl <| At rfl hs8)) ?_
         refine Aa rfl (Ag (Bo rfl <| A5 rfl <| A1 rfl <| Am rfl <| Ac)) ?_
         refine Aa rfl (Bv (Ac) Ad rfl (by omega) (by omega)) ?_
         refine Bh rfl (Cb Bl Dd rfl (.cons (Ac) .nil) rfl rfl (by decide) (by simp [Value.oneCell']) fun b95 hb95 nb95 => ?_)
         refine B7 (i := 0) rfl hb95 .here fun F96 hF97 hz98 => ?_
         replace hFG := Heap.le_trans hFG hF97
         have hsl99 := C0 hz98
         refine Bh rfl (Cv Bl el_3 (Ar rfl <| Am rfl <| Ac) ho (Ac) hsl99.srcInt (by simp only [List.length_singleton]; omega) (by simp only [List.length_singleton]; omega) (.s <| .z) .last fun v100 R101 ho102 => ?_)
         have ho2 := ho102.snoc (x := (k : Int) + 1) rfl rfl
         refine Aa rfl (Ae (Ac)) ?_
         refine Ah <| Ba <| Ab <| Ai fun ds => Aa rfl (Bv (Bo rfl <| A5 rfl <| A7 rfl <| A1 rfl <| Am rfl <| At rfl hs62) Ad rfl (by omega) (by omega)) ?_
         refine Aa rfl (Ag (Ac)) ?_
         refine Ah <| Ab ⟨_, m - 1, Off.eq (ou32 rfl <| C5 rfl <| Dr rfl <| D5 rfl <| ou2 rfl <| D0 rfl <| Bd), by omega, ?_⟩
         exact ⟨_, hFG, k + 1, by omega, (Ac), _, _, (Ar rfl <| Ac), by rw [readTo_succ, if_pos hrb]; exact ho2, rfl⟩
        ·
         replace hpl : decide (placeN (setS s x p ((k : Int) + 1)) l p = placeN s l p) = false := by simpa using hpl
         have hrb : readB s l x p k = false := by unfold readB; rw [hpl]; simp
         refine Ai fun ds => Aa rfl (A6 B0 (Bo rfl <| A5 rfl <| Ar rfl <| Ak rfl <| Bo rfl <| A7 rfl <| Ar rfl <| Am rfl <| Ac) rfl rfl (Cs hz11)) ?_
         refine Aa rfl (Ag (Bo rfl <| A5 rfl <| Ar rfl <| Am rfl <| Ak rfl <| Bo rfl <| A5 rfl <| A1 rfl <| Ar rfl <| Aj rfl)) ?_
         refine Bw rfl (Bc bd_82 A0 (.cons (Bo rfl <| A1 rfl <| Am rfl <| Ac) (.cons (Am rfl <| Ac) (.cons (Ac) .nil))) (Dw hXm ht (by rw [setS_len]; exact hll) hvm hp) (fun _ _ h => h)) ?_
         refine Aa rfl (Ag (Bo rfl <| A5 rfl <| A1 rfl <| Am rfl <| Ak rfl <| A7 rfl <| Ar rfl <| Am rfl <| Ac)) ?_
         refine Aa rfl (Bx (Am rfl <| Ac) (Ac)) ?_
         refine Ah <| Ab <| Ao (Ac) hpl ?_
         refine Aw <| Ba <| Ab <| Ai fun ds => Aa rfl (Bv (Bo rfl <| A5 rfl <| A1 rfl <| Ar rfl <| Am rfl <| At rfl hs62) Ad rfl (by omega) (by omega)) ?_
         refine Aa rfl (Ag (Ac)) ?_
         refine Ah <| Ab ⟨_, m - 1, Off.eq (ou32 rfl <| C5 rfl <| Dr rfl <| D0 rfl <| Bd), by omega, ?_⟩
         exact ⟨_, hFG, k + 1, by omega, (Ac), _, _, (Bo rfl <| A5 rfl <| A7 rfl <| Am rfl <| At rfl hs8), by rw [readTo_succ, if_neg (by rw [hrb]; simp)]; exact ho, rfl⟩
      ·
       refine Af <| Ai fun ds => Aa rfl (Bs (At rfl hs62) Ad) ?_
       refine Ah <| Ab <| Af <| Ao (Ac) (by first | rfl | exact decide_eq_false (by omega)) ?_
       obtain rfl : k = 3 := by omega
       refine Cu (σ := ⟨_, _⟩) (by rfl) ho (.s <| .z) .last fun F103 hF104 hz105 => ?_
       have hn8 := ho.sl (fun _ => rfl) hz105 (by have := readTo_len (s := s) (l := l) (x := x) (p := p) (k := 3); omega)
       refine Bp ?_
       refine Be <| Be <| Bg <| Ab <| Af <| Ai fun ds => Aa rfl (Ag (Am rfl <| At rfl hs8)) ?_
       refine Aa rfl (Ae (Ac)) ?_
       refine Aa rfl (Ae Ad) ?_
       refine Ah <| Ab <| A2 <| Ax rfl (.tmp (Am rfl <| Ac) (.tmp (Ac) .nil)) ?_
       rw [readE_ok hre, Int.toNat_natCast, Int.toNat_natCast]
       exact ⟨_, rfl, hn8⟩
   ·
    replace h2 : inB 0 (s.places.length - 1) q = false := by simpa using h2
    refine Aq (Ac) (by simp [h2]) ?_
    refine Af <| Ai fun ds => Aa rfl (Ae Ad) ?_
    refine Aa rfl (Ae Ad) ?_
    refine Ah <| Ab <| A2 <| Bi (A9 ?_)
    refine Ax rfl (.tmp (Am rfl <| Ac) (.tmp (Ac) .nil)) ?_
    rw [readE_bad (readErr_2 hok (by rw [h1, h2]; rfl)) (by decide)]
    exact ⟨_, rfl, Sl.nil⟩
  ·
   replace h1 : inB 0 (s.editions.length - 1) z = false := by simpa using h1
   refine Af <| Ai fun ds => Aa rfl (Al Br (A7 rfl <| A1 rfl <| Ar rfl <| Am rfl <| Ac)) ?_
   refine Aa rfl (Ap Bz (Ac) (CellF.own hz4 rfl).cell) ?_
   refine Aa rfl (Bj B5 (Ac) hr.eds.plain) ?_
   refine Aa rfl (q_sub (Ac) Ad rfl (by omega) (by omega)) ?_
   refine Aa rfl (Ag (A5 rfl <| A1 rfl <| Aj rfl)) ?_
   refine Bh rfl (Cb Bl Dd rfl (.cons (Ac) .nil) rfl rfl (by decide) (by simp [Value.oneCell']) fun b106 hb106 nb106 => ?_)
   refine B7 (i := 0) rfl hb106 .here fun F107 hF108 hz109 => ?_
   have hsl110 := C0 hz109
   refine Bw rfl (Bc D3 A0 (.cons Ad (.cons (Ar rfl <| Ac) (.cons (Ac) .nil))) (Cm _ _ hsl110) (fun _ _ h => h)) ?_
   refine Aa rfl (Ag (Ac)) ?_
   refine Ay rfl rfl (Ac) (.inl (congrArg Value.bool (by simp [hlen, h1]))) rfl ?_
   refine Ay rfl rfl (Am rfl <| Ac) (.inl (congrArg Value.bool (by simp [hlen, h1]))) rfl ?_
   refine Ay rfl rfl (Ar rfl <| Ac) (.inl (congrArg Value.bool (by simp [hlen, h1]))) rfl ?_
   refine Ay rfl rfl (Ar rfl <| Am rfl <| Ac) (.inl (congrArg Value.bool (by simp [hlen, h1]))) rfl ?_
   refine Ay rfl rfl (A1 rfl <| Ac) (.inl (congrArg Value.bool (by simp [hlen, h1]))) rfl ?_
   refine Ay rfl rfl (A1 rfl <| Am rfl <| Ac) (.inl (congrArg Value.bool (by simp [hlen, h1]))) rfl ?_
   refine Ay rfl rfl (A1 rfl <| Ar rfl <| Ac) (.inl (congrArg Value.bool (by simp [hlen, h1]))) rfl ?_
   refine Aa rfl (A3 (A1 rfl <| Ar rfl <| Am rfl <| Ac) (by simp [hlen, h1]) Ad) ?_
   refine Aa rfl (Ae (Ac)) ?_
   refine Ah <| Ab <| Aq (Ac) rfl ?_
   refine Af <| Ai fun ds => Aa rfl (Ae Ad) ?_
   refine Aa rfl (Ae Ad) ?_
   refine Ah <| Ab <| A2 <| Bi (A9 ?_)
   refine Ax rfl (.tmp (Am rfl <| Ac) (.tmp (Ac) .nil)) ?_
   rw [readE_bad (readErr_2 hok (by rw [h1]; rfl)) (by decide)]
   exact ⟨_, rfl, Sl.nil⟩
 ·
  refine Af <| Ai fun ds => Bh rfl (B4 (Aj rfl) rfl fun b111 hb111 nb111 => ?_)
  refine Aa rfl (Ae Ad) ?_
  refine Aa rfl (Ae Ad) ?_
  refine Ah <| Ab <| Af <| Ai fun ds => Aa rfl (A6 B1 (Ar rfl <| Ac) rfl rfl (A4 0 rfl)) ?_
  refine Aa rfl (Ag (A1 rfl <| Aj rfl)) ?_
  refine Bh rfl (Cl bd_68 A0 (.cons (Am rfl <| Ac) (.cons (Ac) .nil)) (enter_bad hr hl hok) fun v112 F113 hr114 hF115 => ?_)
  obtain ⟨l2, rfl⟩ := hr114
  refine Aa rfl (Ag (Ac)) ?_
  refine Aa rfl (Au (Ac) rfl) ?_
  refine Aa rfl (Au (Am rfl <| Ac) rfl) ?_
  refine Aa rfl (Au (Ar rfl <| Ac) rfl) ?_
  refine Bh rfl (B6 D1 rfl fun b116 hb116 nb116 => ?_)
  refine Aa rfl (Ae (Ar rfl <| Am rfl <| Ac)) ?_
  refine Cj (B9 D8 (Am rfl <| Ac) (Ar rfl <| Am rfl <| Ac) (i := 0) rfl rfl rfl rfl Da (.here) ?_)
  refine Aa rfl (Ae (Ar rfl <| Ac)) ?_
  refine Ah <| Ab <| Af <| Az <| Af <| Ai fun ds => Aa rfl (Ag (Ac)) ?_
  refine Aa rfl (B3 (Ac) Ad) ?_
  refine Aa rfl (Ae (Ac)) ?_
  refine Ah <| Ab <| Aq (Ac) (decide_eq_true hok) ?_
  refine Af <| Ai fun ds => Aa rfl (Ag (Ar rfl <| Am rfl <| Ac)) ?_
  refine Aa rfl (Ae Ad) ?_
  refine Aa rfl (Ae (Am rfl <| Ac)) ?_
  refine Ah <| Ab <| A2 <| Bi (A9 ?_)
  refine Ax rfl (.tmp (Am rfl <| Ac) (.tmp (Ac) .nil)) ?_
  rw [readE_bad (readErr_1 hok) hok]
  exact ⟨_, rfl, Sl.nil⟩
end Go.Proofs.Ytccogmkhijgelaa
namespace Go.Proofs.Ytccogmkhijgelaa
open Go.RowKit
theorem zr_119 : ZeroT Try.prog 119 (.nilFunc) := C4 (by kernel_rfl)
theorem zr_26 : ZeroT Try.prog 26 (.slice none 0 0) := C4 (by kernel_rfl)
theorem zr_4 : ZeroT Try.prog 4 (.bool false) := C4 (by kernel_rfl)
theorem bd_84 : Body Try.prog 84 := Bn (by kernel_rfl)
theorem one_119 : OneT Try.prog 119 := Dy (by kernel_rfl)
theorem one_4 : OneT Try.prog 4 := Dy (by kernel_rfl)
theorem sz_119 : SizeT Try.prog 119 1 := Cx (by kernel_rfl)
theorem sz_4 : SizeT Try.prog 4 1 := Cx (by kernel_rfl)
theorem setTo_succ {s : Stm} {p k : Nat} : setTo s p (k + 1) = setTo s p k ||| 2 ^ (s.r k p).toNat := rfl
theorem kindTo_succ {s : Stm} {p k : Nat} : kindTo s p (k + 1) = kindTo s p k + if metB s p (k + 1) = true then 1 else 0 := rfl
theorem cleanS_none {s : Stm} {xs : List (List Int)} {t : List Int} (h : cleanR s xs = none) : cleanR s (xs ++ [t]) = some (uncleanL s t) := by rw [Eh, h]; rfl
theorem cleanS_yes {s : Stm} {xs : List (List Int)} {t : List Int} {b : List Nat} (h : cleanR s xs = some b) (h2 : (uncleanL s t).length < b.length ∨ ((uncleanL s t).length = b.length ∧ cmpL (uncleanL s t) b < 0)) : cleanR s (xs ++ [t]) = some (uncleanL s t) := by rw [Eh, h]; exact if_pos h2
theorem cleanS_no {s : Stm} {xs : List (List Int)} {t : List Int} {b : List Nat} (h : cleanR s xs = some b) (h2 : ¬ ((uncleanL s t).length < b.length ∨ ((uncleanL s t).length = b.length ∧ cmpL (uncleanL s t) b < 0))) : cleanR s (xs ++ [t]) = some b := by rw [Eh, h]; exact if_neg h2
theorem bit_met {s : Stm} {p j : Nat} (hv : ValidT s) (hp : p < s.places.length) : (setTo s p s.editions.length / 2 ^ (j + 1) &&& 1 : Nat) = if metB s p (j + 1) = true then 1 else 0 := by
 have h := setTo_bit (v := j + 1) (fun i hi => (hv.rd i p hi hp).1) (Nat.le_refl s.editions.length)
 rw [Nat.testBit_eq_decide_div_mod_eq] at h
 rw [Nat.and_one_is_mod]
 unfold metB
 rw [← h]
 by_cases h2 : setTo s p s.editions.length / 2 ^ (j + 1) % 2 = 1
 · rw [if_pos (decide_eq_true h2)]; exact h2
 · rw [if_neg (by simpa using h2)]; omega
theorem opt_or {α : Type} (o : Option α) : o = none ∨ ∃ b, o = some b := by cases o with | none => exact .inl rfl | some b => exact .inr ⟨b, rfl⟩
theorem pow_le8T {n : Nat} (h : n ≤ 3) : 2 ^ n ≤ 8 := by
 have : n = 0 ∨ n = 1 ∨ n = 2 ∨ n = 3 := by omega
 rcases this with rfl | rfl | rfl | rfl <;> decide
set_option maxRecDepth 100000 in
theorem clean_top_ok {F : Heap} {vp ve : Value} {ps : List (Value × Edn)} {s : Stm} (hr : StmR F vp ve ps s) : Ok Try.prog 33 [.agg #[vp, ve]].toArray F fun u F' => NatsR F' u (cleanE s) := by
 have hle0 : F.le F := Heap.le_refl _
 refine Ok.intro Try.func33 rfl Try.ntmps33 rfl fun w0 => ?_
 have hL1 := hr.eds.plain.lt
 have hL2 := hr.places.plain.lt
 have hlen := hr.len
 by_cases h0 : (checkT s).2.2 = 0
 ·
  have hv := Cz h0
  have hne := hv.ne
  have hnp := hv.np
  refine Af <| Ai fun ds => Bh rfl (B4 (Aj rfl) rfl fun b1 hb1 nb1 => ?_)
  refine Bh rfl (B6 zr_26 rfl fun b2 hb2 nb2 => ?_)
  refine Aa rfl (Ae Ad) ?_
  refine Ah <| Ab <| Af <| Ai fun ds => Aa rfl (A6 B1 (Ar rfl <| Ac) rfl rfl (A4 1 rfl)) ?_
  refine Bh rfl (Dn bd_65 A0 (.cons (Ac) .nil) (open_ok hr h0) fun v3 F4 R7 hr5 hF6 => ?_)
  replace hr := hr.mono hF6
  obtain ⟨ba, kb, rfl, hX, rfl⟩ := hr5
  refine Aa rfl (Ag (Ac)) ?_
  refine Aa rfl (Au (Ac) rfl) ?_
  refine Aa rfl (Au (Am rfl <| Ac) rfl) ?_
  refine Aa rfl (Ae (Am rfl <| Ac)) ?_
  refine Aa rfl (Ae (Am rfl <| Ac)) ?_
  refine Ah <| Ab <| Af <| Af <| Ai fun ds => Aa rfl (Ag (Ac)) ?_
  refine Aa rfl (B3 (Ac) Ad) ?_
  refine Ah <| Ab <| Ao (Ac) (by decide) ?_
  refine Aw <| Ab <| Af <| Ai fun ds => Bh rfl (B6 zr_26 rfl fun b8 hb8 nb8 => ?_)
  refine Ah <| Ab <| Af <| Af <| Ai fun ds => Aa rfl (Al Cg (A7 rfl <| A1 rfl <| Ac)) ?_
  refine Aa rfl (Ap Cr (Ac) (Cell.own 2 rfl rfl)) ?_
  refine Aa rfl (Bj Cw (Ac) hr.places.plain) ?_
  refine Aa rfl (Ag Ad) ?_
  refine Ah <| Ab <| Az <| Bt [6, 7, 9, 10, 11, 29, 30, 31, 32, 33, 34, 35, 36, 37, 38, 39, 40, 41, 42, 43, 44, 45, 46, 47, 48, 49, 50, 51, 52, 53, 54, 55, 56, 57, 58, 59, 60, 61, 62, 63, 64] (fun m e σ => ∃ p : Nat, m + p = s.places.length ∧ e 29 = .int .i64 (p : Int) ∧ ∃ v5 R5, Own 3 1 v5 (iL (needN s) p).length ((iL (needN s) p).flatMap intE) R5 ∧ σ = ⟨F4, (b8, bx 26 [v5]) :: (b2, bx 26 [.slice none 0 0]) :: (b1, bx 25 [vp, ve]) :: (kb, mapO []) :: R5⟩) (s.places.length) ?_ ?_
  · exact ⟨0, by omega, (Ac), _, [], Em, rfl⟩
  ·
   rintro m e _ ⟨p, hm, hs29, v5, R5, ho, rfl⟩; have hil9 := Ee (f := needN s) (n := p)
   by_cases hp : p < s.places.length
   ·
    refine Af <| Ai fun ds => Aa rfl (Bs (At rfl hs29) (Ak rfl <| Am rfl <| Ac)) ?_
    refine Ah <| Ab <| Af <| Aq (Ac) (by first | rfl | exact decide_eq_true (by omega)) ?_
    refine Aw <| Ab <| Af <| Az <| Af <| Ai fun ds => Aa rfl (Ag (Am rfl <| At rfl hs29)) ?_
    refine Aa rfl (Ae (Ac)) ?_
    refine Ah <| Ab <| Af <| Ai fun ds => Aa rfl (Ae Ad) ?_
    refine Ah <| Ab <| Af <| Af <| Ai fun ds => Aa rfl (Al Br (A1 rfl <| Ak rfl <| A5 rfl <| Ac)) ?_
    refine Aa rfl (Ap Bz (Ac) (Cell.own 2 rfl rfl)) ?_
    refine Aa rfl (Bj B5 (Ac) hr.eds.plain) ?_
    refine Aa rfl (Ag Ad) ?_
    refine Ah <| Ab <| Az <| Bt [7, 9, 35, 36, 37, 38, 39, 40, 41, 42, 43, 44, 45, 46, 47] (fun m e σ => ∃ i : Nat, m + i = ps.length ∧ e 35 = .int .i64 (i : Int) ∧ e 7 = .int .i64 ((setTo s p i : Nat) : Int) ∧ σ = ⟨F4, (b8, bx 26 [v5]) :: (b2, bx 26 [.slice none 0 0]) :: (b1, bx 25 [vp, ve]) :: (kb, mapO []) :: R5⟩) (ps.length) ?_ ?_
    · exact ⟨0, by omega, (Ac), (A1 rfl <| Ac), rfl⟩
    ·
     rintro m1 e1 _ ⟨i, hm1, ht35, ht7, rfl⟩
     by_cases hli : i < ps.length
     ·
      have hil : i < s.editions.length := by omega
      have hri := hr.rd hli
      have hpi : p < (s.ed i).rd.length := by rw [hv.rdl i hil]; exact hp
      have er := rdT_at hpi
      have hrb := hv.rd i p hil hp
      have hst := setTo_lt (s := s) (p := p) (fun i hi => hv.rd i p hi hp) (k := i) (by omega)
      have hp8 := pow_le8T (n := (s.r i p).toNat) (by omega)
      refine Af <| Ai fun ds => Aa rfl (Bs (At rfl ht35) (Ak rfl <| Am rfl <| Ac)) ?_
      refine Ah <| Ab <| Af <| Aq (Ac) (by first | rfl | exact decide_eq_true (by omega)) ?_
      refine Aw <| Ab <| Af <| Az <| Af <| Ai fun ds => Aa rfl (Bf (k := i) B5 (Am rfl <| Ak rfl <| Ar rfl <| Ac) hr.eds.plain (Am rfl <| At rfl ht35) rfl hli) ?_
      refine Aa rfl (A6 Eo (Ac) rfl rfl (hr.eds.whole hli)) ?_
      refine Bh rfl (B6 zr_64 rfl fun b11 hb11 nb11 => ?_)
      refine Cj (B9 sz_64 (Ac) (Am rfl <| Ac) (i := 0) rfl rfl rfl rfl (edE_one (hr.one _ (List.getElem_mem hli))) (.here) ?_)
      refine Ah <| Ab <| Ai fun ds => Aa rfl (Ag (A1 rfl <| At rfl ht7)) ?_
      refine Aa rfl (Al Ce (Am rfl <| Ac)) ?_
      refine Aa rfl (Ap Ck (Ac) (Cell.own 0 rfl rfl)) ?_
      refine Aa rfl (Ag (A1 rfl <| Ar rfl <| Am rfl <| Ak rfl <| A1 rfl <| Am rfl <| Ac)) ?_
      refine Aa rfl (Bf (k := p) Bl (Am rfl <| Ac) hri.plain (Ac) rfl hpi) ?_
      refine Aa rfl (Ap Bm (Ac) (hri.cell1 hpi rfl)) ?_
      refine Aa rfl (q_shl Ad (Ac) (k := (s.r i p).toNat) (by rw [er]; omega) (by omega) (show (1 : Int) * 2 ^ (s.r i p).toNat = ((2 ^ (s.r i p).toNat : Nat) : Int) by simp) (Int.le_trans (by decide) (Int.natCast_nonneg _)) (by omega)) ?_
      refine Aa rfl (q_or (A1 rfl <| Ar rfl <| Ac) (Ac) (m := setTo s p i) (k := 2 ^ (s.r i p).toNat) rfl rfl (by omega) (by omega) rfl) ?_
      refine Aa rfl (Ae (Ac)) ?_
      refine Ah <| Ba <| Ab <| C9 (fun _ _ h => h.drop (.cons _ <| .cons_cons _ <| .cons_cons _ <| .cons_cons _ <| .cons_cons _ <| .refl _)) ?_
      refine Ai fun ds => Aa rfl (Bv (A7 rfl <| A1 rfl <| Am rfl <| At rfl ht35) Ad rfl (by omega) (by omega)) ?_
      refine Aa rfl (Ag (Ac)) ?_
      refine Ah <| Ab ⟨_, m1 - 1, Off.eq (Dr rfl <| D5 rfl <| ou2 rfl <| D0 rfl <| Bd), by omega, ?_⟩
      exact ⟨i + 1, by omega, (Ac), ((Ar rfl <| Ac)).trans (by rw [setTo_succ]), rfl⟩
     ·
      refine Af <| Ai fun ds => Aa rfl (Bs (At rfl ht35) (Ak rfl <| Am rfl <| Ac)) ?_
      refine Ah <| Ab <| Af <| Ao (Ac) (by first | rfl | exact decide_eq_false (by omega)) ?_
      obtain rfl : i = ps.length := by omega
      have hst := setTo_lt (s := s) (p := p) (fun i hi => hv.rd i p hi hp) (k := ps.length) (by omega)
      refine Bp ?_
      refine Be <| Be <| Bg <| Ab <| Af <| Ai fun ds => Aa rfl (Ae Ad) ?_
      refine Ah <| Ab <| Af <| Af <| Ai fun ds => Aa rfl (Ag Ad) ?_
      refine Ah <| Ab <| Az <| Bt [10, 11, 48, 49, 50, 51, 52, 53, 54, 55, 56, 57, 58] (fun m e σ => ∃ j : Nat, m + j = 3 ∧ e 48 = .int .i64 (j : Int) ∧ e 10 = .int .i64 (-1 + kindTo s p j) ∧ σ = ⟨F4, (b8, bx 26 [v5]) :: (b2, bx 26 [.slice none 0 0]) :: (b1, bx 25 [vp, ve]) :: (kb, mapO []) :: R5⟩) (3) ?_ ?_
      · exact ⟨0, rfl, (Ac), (Am rfl <| Ac), rfl⟩
      ·
       rintro m2 e2 _ ⟨j, hm2, hu48, hu10, rfl⟩
       by_cases hl3 : j < 3
       ·
        have hkb := kindTo_bound (s := s) (p := p) j
        have hbt : (setTo s p ps.length / 2 ^ (j + 1) &&& 1 : Nat) = (if metB s p (j + 1) = true then 1 else 0 : Nat) := by have h9 := bit_met (j := j) hv hp; rw [← hlen] at h9; exact h9
        refine Af <| Ai fun ds => Aa rfl (Bs (At rfl hu48) Ad) ?_
        refine Ah <| Ab <| Af <| Aq (Ac) (by first | rfl | exact decide_eq_true (by omega)) ?_
        refine Aw <| Ab <| Af <| Az <| Af <| Ai fun ds => Aa rfl (Ag (Am rfl <| At rfl hu48)) ?_
        refine Aa rfl (Ae (Ac)) ?_
        refine Ah <| Ab <| Ai fun ds => Aa rfl (Ag (Ar rfl <| Am rfl <| At rfl hu10)) ?_
        refine Aa rfl (Ag (A1 rfl <| Ak rfl <| Ar rfl <| Am rfl <| At rfl ht7)) ?_
        refine Aa rfl (Ag (Ar rfl <| Ac)) ?_
        refine Aa rfl (Bv (Ac) Ad rfl (by omega) (by omega)) ?_
        refine Aa rfl (q_shr (Ar rfl <| Ac) (Ac) (k := j + 1) (by omega) (by show j + 1 < 64; omega) (shr_nat (m := setTo s p ps.length))) ?_
        refine Aa rfl (q_and (Ac) Ad (m := setTo s p ps.length / 2 ^ (j + 1)) (k := 1) rfl rfl (by have := Nat.div_le_self (setTo s p ps.length) (2 ^ (j + 1)); omega) (by omega) rfl) ?_
        refine Aa rfl (Bv (A1 rfl <| Am rfl <| Ac) (Ac) rfl (by rw [hbt]; split <;> omega) (by rw [hbt]; split <;> omega)) ?_
        refine Aa rfl (Ae (Ac)) ?_
        refine Ah <| Ba <| Ab <| Ai fun ds => Aa rfl (Bv (A7 rfl <| Ar rfl <| Am rfl <| At rfl hu48) Ad rfl (by omega) (by omega)) ?_
        refine Aa rfl (Ag (Ac)) ?_
        refine Ah <| Ab ⟨_, m2 - 1, Off.eq (Dr rfl <| D5 rfl <| D0 rfl <| Bd), by omega, ?_⟩
        refine ⟨j + 1, by omega, (Ac), ((Ar rfl <| Ac)).trans ?_, rfl⟩
        rw [kindTo_succ, hbt]; congr 1; split <;> omega
       ·
        refine Af <| Ai fun ds => Aa rfl (Bs (At rfl hu48) Ad) ?_
        refine Ah <| Ab <| Af <| Ao (Ac) (by first | rfl | exact decide_eq_false (by omega)) ?_
        obtain rfl : j = 3 := by omega
        have hkb := kindTo_bound (s := s) (p := p) 3
        refine Bp ?_
        refine Be <| Be <| Bg <| Ab <| Ai fun ds => Aa rfl (Ap Ck (Am rfl <| Ak rfl <| Ar rfl <| Am rfl <| Ak rfl <| A7 rfl <| Ak rfl <| A1 rfl <| Ac) (Cell.own 0 rfl rfl)) ?_
        refine Aa rfl (Ag (Ar rfl <| At rfl hu10)) ?_
        refine Aa rfl (q_max2 Ad (Ac)) ?_
        refine Bh rfl (Cb Bl Dd rfl (.cons (Ac) .nil) rfl rfl (by decide) (by simp [Value.oneCell']) fun b13 hb13 nb13 => ?_)
        refine Bh rfl (Cv Bl el_3 (Ar rfl <| Am rfl <| Ac) ho (Ac) (Df (s := 1) 0 rfl rfl (by simp [Value.oneCell'])) (by omega) (by omega) (.s <| .s <| .s <| .s <| .s <| .z) .last fun v14 R15 ho16 => ?_)
        have ho2 : Own 3 1 v14 (iL (needN s) (p + 1)).length ((iL (needN s) (p + 1)).flatMap intE) R15 := by have h9 := ho16; rw [iL_succ]; exact h9.snoc (x := needN s p) rfl (by unfold needN kindsN intE; congr 2; omega)
        refine Cj (Ci sz_26 (A1 rfl <| Ar rfl <| Ak rfl <| Ar rfl <| Am rfl <| Ak rfl <| A7 rfl <| Ak rfl <| A1 rfl <| Ac) (Ac) (i := 1) rfl (.here) (Own.one ho2) (.next <| .here) ?_)
        refine Ah <| Ba <| Ab <| C9 (fun _ _ h => h.drop (.cons _ <| .cons_cons _ <| .cons_cons _ <| .cons_cons _ <| .cons_cons _ <| .refl _)) ?_
        refine Ai fun ds => Aa rfl (Bv (A1 rfl <| Ar rfl <| Ak rfl <| Ar rfl <| Am rfl <| Ak rfl <| A7 rfl <| At rfl hs29) Ad rfl (by omega) (by omega)) ?_
        refine Aa rfl (Ag (Ac)) ?_
        refine Ah <| Ab ⟨_, m - 1, Off.eq (Dr rfl <| off_in rfl <| ou2 rfl <| D0 rfl <| off_in rfl <| Dr rfl <| Bd), by omega, ?_⟩
        refine ⟨p + 1, by omega, (Ac), _, _, ho2, rfl⟩
   ·
    refine Af <| Ai fun ds => Aa rfl (Bs (At rfl hs29) (Ak rfl <| Am rfl <| Ac)) ?_
    refine Ah <| Ab <| Af <| Ao (Ac) (by first | rfl | exact decide_eq_false (by omega)) ?_
    obtain rfl : p = s.places.length := by omega
    refine Cu (σ := ⟨_, _⟩) (by rfl) ho (.s <| .s <| .s <| .s <| .z) .last fun F17 hF18 hz19 => ?_
    replace hX := hX.mono hF18
    have hnd := ho.sl (fun _ => rfl) hz19 (by rw [Ee]; omega)
    refine Cf (i := 0) rfl hb8 (.here) fun F20 hF21 hz5 => ?_
    replace hX := hX.mono hF21
    replace hnd := hnd.mono hF21
    refine Bp ?_
    refine Be <| Be <| Bg <| Ab <| Af <| Ai fun ds => Bh rfl (B6 zr_4 rfl fun b22 hb22 nb22 => ?_)
    refine Cj (Ci sz_4 (Ac) Ad (i := 0) rfl (.here) rfl (.here) ?_)
    refine Ah <| Ab <| Af <| Ai fun ds => Aa rfl (Ag (Ar rfl <| Ak rfl <| A7 rfl <| Ac)) ?_
    refine Aa rfl (q_makeFunc2 (.cons (Ac) .nil) .nil) ?_
    refine Bh rfl (B6 zr_119 rfl fun b23 hb23 nb23 => ?_)
    refine Cj (Ci sz_119 (Ac) (Am rfl <| Ac) (i := 0) rfl (.here) rfl (.here) ?_)
    refine Ah <| Ab <| Af <| Af <| Cf (i := 0) rfl hb23 (.here) fun F24 hF25 hz13 => ?_
    replace hX := hX.mono hF25
    replace hnd := hnd.mono hF25
    replace hz5 := hF25 _ _ hz5
    refine Ai fun ds => Aa rfl (Ag (A1 rfl <| Am rfl <| Ak rfl <| A7 rfl <| Ac)) ?_
    refine Bh rfl (Cl bd_83 A0 (.cons (Ac) .nil) (trees_ok hX) fun v26 F27 hr28 hF29 => ?_)
    replace hX := hX.mono hF29
    replace hnd := hnd.mono hF29
    replace hz5 := hF29 _ _ hz5
    replace hz13 := hF29 _ _ hz13
    obtain ⟨dz, rfl, hzd⟩ := hr28
    refine Ah <| Ab <| Az <| WC_rangeG rfl (Ac) (bd_116) (trees1_iter hX hv hzd) (Heap.le_refl _) (fun pre G H => ∃ v2, Nats G v2 ((cleanR s pre).getD []) ∧ H = [(b22, bx 4 [.bool (cleanR s pre).isSome]), (b2, bx 26 [v2]), (b1, bx 25 [vp, ve]), (kb, mapO [])]) (fun _ _ _ => False) (fun _ _ _ _ hF h => by obtain ⟨v, h1, h2⟩ := h; exact ⟨v, h1.mono hF, h2⟩) (fun _ _ _ _ _ h => h) ⟨_, Sl.nil, rfl⟩ (fun L D fn tm pre x rest G H1 vs hxs hle hJ hA => ?_) (fun _ _ _ _ h => h.elim) (fun F2 H1 hF2 hJ => ?_)
    ·
     replace hX := hX.mono hle
     replace hnd := hnd.mono hle
     replace hz5 := hle _ _ hz5
     replace hz13 := hle _ _ hz13
     obtain ⟨v2, hv2, rfl⟩ := hJ
     obtain rfl : vs = [treeV x] := hA
     have hxm : x ∈ allTrees s := by rw [hxs]; simp
     obtain ⟨hll, ht, -⟩ := Cy.1 hxm
     refine ⟨rfl, rfl, fun w1 => ?_⟩
     refine WC_eq (e' := (upd _ 69 (treeV x))) rfl rfl ?_
     refine Cd (.inr (by kernel_rfl)) (fun _ _ h => h) fun ds => ?_
     refine Bh rfl (B6 D1 rfl fun b30 hb30 nb30 => ?_)
     refine WL_order (.cons (.next <| .here) <| .cons (.next <| .here) <| .cons (.here) <| .cons (.here) <| .cons (.here) <| .cons (.here) <| .cons (.here) <| .nil) ?_
     refine Cj (B9 D8 (Ac) (Am rfl <| Ac) (i := 2) rfl rfl rfl rfl Da (.next <| .next <| .here) ?_)
     refine Ah <| Ab ⟨_, rfl, ?_⟩
     refine Az <| Af <| WC_name (i := 0) rfl (fun _ => .here) fun oL hoL => ?_
     refine Cd (.inr (by kernel_rfl)) (fun _ _ h => h) fun ds => ?_
     refine Aa rfl (Ae Ad) ?_
     refine Ah <| Ab <| Af <| Af <| Cd (.inr (by kernel_rfl)) (fun _ _ h => h) fun ds => ?_
     refine Aa rfl (Ap Ck (A7 rfl <| Ar rfl <| Ak rfl <| A1 rfl <| Ac) (CellF.own hz5 rfl).cell) ?_
     refine Aa rfl (Bj Bl (Ac) hnd.plain) ?_
     refine Aa rfl (Ag Ad) ?_
     refine Ah <| Ab <| Az <| Bt [15, 16, 17, 72, 73, 74, 75, 76, 77, 78, 79, 80, 81, 82, 83, 84, 85, 86, 87] (fun m e σ => ∃ q : Nat, m + q = s.places.length ∧ e 72 = .int .i64 (q : Int) ∧ ∃ v15 R15, e 15 = v15 ∧ Own 3 1 v15 (selN (uncleanB s x) q).length ((selN (uncleanB s x) q).flatMap natE) R15 ∧ σ = ⟨G, (L, oL) :: (D, openO) :: (b30, bx 100 (treeC x)) :: (b22, bx 4 [.bool (cleanR s pre).isSome]) :: (b2, bx 26 [v2]) :: (b1, bx 25 [vp, ve]) :: (kb, mapO []) :: R15⟩) (s.places.length) ?_ ?_
     · exact ⟨0, by omega, (Ac), _, _, (Ar rfl <| Am rfl <| Ac), Own.nil, rfl⟩
     ·
      rintro m e _ ⟨q, hm, hs72, v15, R15, hs15, ho, rfl⟩; have hsl := C7 (p := (uncleanB s x)) (k := q)
      by_cases hlq : q < s.places.length
      ·
       refine Af <| Cd (.inr (by kernel_rfl)) (fun _ _ h => h) fun ds => ?_
       refine Aa rfl (Bs (At rfl hs72) (Ak rfl <| Am rfl <| Ac)) ?_
       refine Ah <| Ab <| Af <| Aq (Ac) (by first | rfl | exact decide_eq_true (by omega)) ?_
       have hnq : (iL (needN s) s.places.length)[q]'(by rw [Ee]; exact hlq) = needN s q := iL_at _
       have hup := unclean_place ht hv hll (p := q)
       by_cases hub : uncleanB s x q = true
       ·
        refine Aw <| Ab <| Af <| Az <| Af <| Cd (.inr (by kernel_rfl)) (fun _ _ h => h) fun ds => ?_
        refine Aa rfl (Ag (Am rfl <| At rfl hs72)) ?_
        refine Aa rfl (Bf (k := q) Bl (Ar rfl <| Ak rfl <| Ar rfl <| Ac) hnd.plain (Ar rfl <| At rfl hs72) rfl (by rw [Ee]; exact hlq)) ?_
        refine Aa rfl (Ap Bm (Ac) (hnd.cell1 (by rw [Ee]; exact hlq) rfl)) ?_
        refine Aa rfl (Ae (Ar rfl <| Ac)) ?_
        refine Aa rfl (Ae (Am rfl <| Ac)) ?_
        refine Ah <| Ab <| Af <| Cd (.inr (by kernel_rfl)) (fun _ _ h => h) fun ds => ?_
        refine Aa rfl (Ap one_119 (A1 rfl <| Ar rfl <| Ak rfl <| A7 rfl <| Ac) (CellF.own hz13 rfl).cell) ?_
        refine Aa rfl (A6 B0 (A1 rfl <| Ar rfl <| Am rfl <| Ak rfl <| A1 rfl <| Ac) rfl rfl (A4 2 rfl)) ?_
        refine Aa rfl (Ag (Ar rfl <| Am rfl <| Ac)) ?_
        refine Bw rfl (q_callF bd_82 (Ar rfl <| Ac) (.cons (Am rfl <| Ac) (.cons (Ac) .nil)) (Dw hX ht hll hv hlq) (fun _ _ h => h)) ?_
        refine Aa rfl (Ag (A1 rfl <| Ac)) ?_
        refine Aa rfl (B3 (Am rfl <| Ac) (Ac)) ?_
        refine Ah <| Ab <| Aq (Ac) (decide_eq_true (by rw [hnq]; exact hup.2 hub)) ?_
        refine Cd (.inr (by kernel_rfl)) (fun _ _ h => h) fun ds => ?_
        refine Aa rfl (Ag (A7 rfl <| A1 rfl <| At rfl hs15)) ?_
        refine Aa rfl (Ag (A7 rfl <| Ac)) ?_
        refine Bh rfl (Cb Bl Dd rfl (.cons (Ac) .nil) rfl rfl (by decide) (by simp [Value.oneCell']) fun b32 hb32 nb32 => ?_)
        refine Bh rfl (Cv Bl el_3 (Ar rfl <| Ac) ho (Ac) (Df (s := 1) 0 rfl rfl (by simp [Value.oneCell'])) (by omega) (by omega) (.s <| .s <| .s <| .s <| .s <| .s <| .s <| .s <| .z) .last fun v33 R34 ho35 => ?_)
        have ho2 := ho35.snoc (x := q) rfl rfl
        refine Aa rfl (Ae (Ac)) ?_
        refine Ah <| Ba <| Ab <| C9 (fun _ _ h => h.drop (.cons _ <| .cons_cons _ <| .cons_cons _ <| .cons_cons _ <| .cons_cons _ <| .cons_cons _ <| .cons_cons _ <| .cons_cons _ <| .refl _)) ?_
        refine Cd (.inr (by kernel_rfl)) (fun _ _ h => h) fun ds => ?_
        refine Aa rfl (Bv (A5 rfl <| Am rfl <| At rfl hs72) Ad rfl (by omega) (by omega)) ?_
        refine Aa rfl (Ag (Ac)) ?_
        refine Ah <| Ab ⟨_, m - 1, Off.eq (C5 rfl <| ou2 rfl <| D0 rfl <| Bd), by omega, ?_⟩
        exact ⟨q + 1, by omega, (Ac), _, _, (Ar rfl <| Ac), by rw [C8, if_pos hub]; exact ho2, rfl⟩
       ·
        replace hub : uncleanB s x q = false := by simpa using hub
        refine Aw <| Ab <| Af <| Az <| Af <| Cd (.inr (by kernel_rfl)) (fun _ _ h => h) fun ds => ?_
        refine Aa rfl (Ag (Am rfl <| At rfl hs72)) ?_
        refine Aa rfl (Bf (k := q) Bl (Ar rfl <| Ak rfl <| Ar rfl <| Ac) hnd.plain (Ar rfl <| At rfl hs72) rfl (by rw [Ee]; exact hlq)) ?_
        refine Aa rfl (Ap Bm (Ac) (hnd.cell1 (by rw [Ee]; exact hlq) rfl)) ?_
        refine Aa rfl (Ae (Ar rfl <| Ac)) ?_
        refine Aa rfl (Ae (Am rfl <| Ac)) ?_
        refine Ah <| Ab <| Af <| Cd (.inr (by kernel_rfl)) (fun _ _ h => h) fun ds => ?_
        refine Aa rfl (Ap one_119 (A1 rfl <| Ar rfl <| Ak rfl <| A7 rfl <| Ac) (CellF.own hz13 rfl).cell) ?_
        refine Aa rfl (A6 B0 (A1 rfl <| Ar rfl <| Am rfl <| Ak rfl <| A1 rfl <| Ac) rfl rfl (A4 2 rfl)) ?_
        refine Aa rfl (Ag (Ar rfl <| Am rfl <| Ac)) ?_
        refine Bw rfl (q_callF bd_82 (Ar rfl <| Ac) (.cons (Am rfl <| Ac) (.cons (Ac) .nil)) (Dw hX ht hll hv hlq) (fun _ _ h => h)) ?_
        refine Aa rfl (Ag (A1 rfl <| Ac)) ?_
        refine Aa rfl (B3 (Am rfl <| Ac) (Ac)) ?_
        refine Ah <| Ab <| Ao (Ac) (decide_eq_false (by rw [hnq]; exact fun h => by rw [hup.1 h] at hub; cases hub)) ?_
        refine Aw <| Ba <| Ab <| Cd (.inr (by kernel_rfl)) (fun _ _ h => h) fun ds => ?_
        refine Aa rfl (Bv (A7 rfl <| A1 rfl <| At rfl hs72) Ad rfl (by omega) (by omega)) ?_
        refine Aa rfl (Ag (Ac)) ?_
        refine Ah <| Ab ⟨_, m - 1, Off.eq (Dr rfl <| D5 rfl <| ou2 rfl <| Bd), by omega, ?_⟩
        exact ⟨q + 1, by omega, (Ac), _, _, (A7 rfl <| A1 rfl <| Ar rfl <| At rfl hs15), by rw [C8, if_neg (by rw [hub]; simp)]; exact ho, rfl⟩
      ·
       refine Af <| Cd (.inr (by kernel_rfl)) (fun _ _ h => h) fun ds => ?_
       refine Aa rfl (Bs (At rfl hs72) (Ak rfl <| Am rfl <| Ac)) ?_
       refine Ah <| Ab <| Af <| Ao (Ac) (by first | rfl | exact decide_eq_false (by omega)) ?_
       obtain rfl : q = s.places.length := by omega
       refine WC_freezeRM (σ := ⟨_, _⟩) (by intro m hm; simp [keys] at hm ⊢; rcases hm with h | h | h | h | h | h <;> simp [h]) ho (.s <| .s <| .s <| .s <| .s <| .s <| .s <| .z) .last fun F36 hF37 hz38 => ?_
       replace hle := hle.mono hF37
       replace hv2 := hv2.mono hF37
       have hl15 := ho.sl (fun _ => rfl) hz38 (by omega)
       change Nats _ _ (uncleanL s x) at hl15
       rcases opt_or (cleanR s pre) with hcs | ⟨bb, hcs⟩
       ·
        refine Bp ?_
        refine Be <| Be <| Bg <| Ab <| Af <| Cd (.inr (by kernel_rfl)) (fun _ _ h => h) fun ds => ?_
        refine Aa rfl (Ap one_4 (Am rfl <| Ak rfl <| A7 rfl <| Ar rfl <| Am rfl <| Ac) (Cell.own 3 rfl rfl)) ?_
        refine Aa rfl (Co (Ac)) ?_
        refine Aa rfl (Ag (Ac)) ?_
        refine Ay rfl rfl (Ac) (.inl (congrArg Value.bool (by rw [hcs]; rfl))) rfl ?_
        refine Ay rfl rfl (Am rfl <| Ac) (.inl (congrArg Value.bool (by rw [hcs]; rfl))) rfl ?_
        refine Ay rfl rfl (Ar rfl <| Ac) (.inl (congrArg Value.bool (by rw [hcs]; rfl))) rfl ?_
        refine Ay rfl rfl (Ar rfl <| Am rfl <| Ac) (.inl (congrArg Value.bool (by rw [hcs]; rfl))) rfl ?_
        refine Ay rfl rfl (A1 rfl <| Ac) (.inl (congrArg Value.bool (by rw [hcs]; rfl))) rfl ?_
        refine Aa rfl (A3 (A1 rfl <| Am rfl <| Ac) (by rw [hcs]; rfl) Ad) ?_
        refine Aa rfl (Ag (Ac)) ?_
        refine Ay rfl rfl (Ac) (.inl (congrArg Value.bool rfl)) rfl ?_
        refine Ay rfl rfl (Am rfl <| Ac) (.inl (congrArg Value.bool rfl)) rfl ?_
        refine Ay rfl rfl (Ar rfl <| Ac) (.inl (congrArg Value.bool rfl)) rfl ?_
        refine Ay rfl rfl (Ar rfl <| Am rfl <| Ac) (.inl (congrArg Value.bool rfl)) rfl ?_
        refine Ay rfl rfl (A1 rfl <| Ac) (.inl (congrArg Value.bool rfl)) rfl ?_
        refine Ay rfl rfl (A1 rfl <| Am rfl <| Ac) (.inl (congrArg Value.bool rfl)) rfl ?_
        refine Ay rfl rfl (Ac) (.inr rfl) rfl ?_
        refine Ay rfl rfl (Am rfl <| Ac) (.inr rfl) rfl ?_
        refine Ay rfl rfl (Ar rfl <| Ac) (.inr rfl) rfl ?_
        refine Ay rfl rfl (Ar rfl <| Am rfl <| Ac) (.inr rfl) rfl ?_
        refine Ay rfl rfl (A7 rfl <| Ar rfl <| Ac) (.inl (congrArg Value.bool rfl)) rfl ?_
        refine Aa rfl (A3 (A7 rfl <| Ar rfl <| Am rfl <| Ac) rfl Ad) ?_
        refine Ah <| Ab <| Aq (Ac) rfl ?_
        subst hoL
        refine Cd (.inr (by kernel_rfl)) (fun _ _ h => h) fun ds => ?_
        refine Aa rfl (Ag (A5 rfl <| A1 rfl <| Ar rfl <| Am rfl <| At rfl hs15)) ?_
        refine Cj (Ci sz_26 (A5 rfl <| A7 rfl <| Ak rfl <| A7 rfl <| A1 rfl <| Am rfl <| Ak rfl <| A7 rfl <| A1 rfl <| Ar rfl <| Am rfl <| Ac) (Ac) (i := 4) rfl (.here) (by first | rfl | exact hl15.plain.one) (.next <| .next <| .next <| .next <| .here) ?_)
        refine Cj (Ci sz_4 (A5 rfl <| A7 rfl <| Ak rfl <| A7 rfl <| Ar rfl <| Am rfl <| Ac) Ad (i := 3) rfl (.here) (by first | rfl | exact hl15.plain.one) (.next <| .next <| .next <| .here) ?_)
        refine Ah <| Ba ?_
        refine Ek (.one (.here) <| .one (.here) <| .one (.next <| .here) <| .one (.next <| .here) <| .one (.next <| .here) <| .one (.next <| .here) <| .nil) ?_
        refine .inl ⟨rfl, _, rfl, hle, ?_⟩
        exact ⟨_, by rw [cleanS_none hcs]; exact hl15, by rw [cleanS_none hcs]; first | done | rfl⟩
       ·
        have hv2b := hv2
        rw [hcs] at hv2b
        replace hv2b : Nats _ v2 bb := hv2b
        have hbl := hv2b.plain.lt
        refine Bp ?_
        refine Be <| Be <| Bg <| Ab <| Af <| Cd (.inr (by kernel_rfl)) (fun _ _ h => h) fun ds => ?_
        refine Aa rfl (Ap one_4 (Am rfl <| Ak rfl <| A7 rfl <| Ar rfl <| Am rfl <| Ac) (Cell.own 3 rfl rfl)) ?_
        refine Aa rfl (Co (Ac)) ?_
        refine Aa rfl (Ag (Ac)) ?_
        refine As rfl rfl (Ac) (by rw [hcs]; rfl) ?_
        refine Aa rfl (Ag (A1 rfl <| At rfl hs15)) ?_
        refine As rfl rfl (Am rfl <| Ac) (by rw [hcs]; rfl) ?_
        refine Aa rfl (Bj Bl (Ac) hl15.plain) ?_
        refine As rfl rfl (Ar rfl <| Ac) (by rw [hcs]; rfl) ?_
        refine Aa rfl (Ap Ck (A1 rfl <| Ar rfl <| Ak rfl <| A7 rfl <| A1 rfl <| Am rfl <| Ak rfl <| A7 rfl <| A1 rfl <| Ar rfl <| Am rfl <| Ac) (Cell.own 4 rfl rfl)) ?_
        refine As rfl rfl (Ar rfl <| Am rfl <| Ac) (by rw [hcs]; rfl) ?_
        refine Aa rfl (Bj Bl (Ac) hv2.plain) ?_
        refine As rfl rfl (A1 rfl <| Ac) (by rw [hcs]; rfl) ?_
        refine Aa rfl (Bs (Ar rfl <| Ac) (Ac)) ?_
        refine Aa rfl (Bb (A1 rfl <| Am rfl <| Ac) (by rw [hcs]; rfl) (Ac)) ?_
        refine Aa rfl (Ag (Ac)) ?_
        by_cases h1 : (uncleanL s x).length < bb.length
        ·
         refine Ay rfl rfl (Ac) (.inl (congrArg Value.bool (decide_eq_true (by rw [hcs]; show (_ : Int) < (bb.length : Int); omega)))) rfl ?_
         refine Ay rfl rfl (Am rfl <| Ac) (.inl (congrArg Value.bool (decide_eq_true (by rw [hcs]; show (_ : Int) < (bb.length : Int); omega)))) rfl ?_
         refine Ay rfl rfl (Ar rfl <| Ac) (.inl (congrArg Value.bool (decide_eq_true (by rw [hcs]; show (_ : Int) < (bb.length : Int); omega)))) rfl ?_
         refine Ay rfl rfl (Ar rfl <| Am rfl <| Ac) (.inl (congrArg Value.bool (decide_eq_true (by rw [hcs]; show (_ : Int) < (bb.length : Int); omega)))) rfl ?_
         refine Ay rfl rfl (A1 rfl <| Ac) (.inl (congrArg Value.bool (decide_eq_true (by rw [hcs]; show (_ : Int) < (bb.length : Int); omega)))) rfl ?_
         refine Ay rfl rfl (A1 rfl <| Am rfl <| Ac) (.inl (congrArg Value.bool (decide_eq_true (by rw [hcs]; show (_ : Int) < (bb.length : Int); omega)))) rfl ?_
         refine Ay rfl rfl (Ac) (.inr rfl) rfl ?_
         refine Ay rfl rfl (Am rfl <| Ac) (.inr rfl) rfl ?_
         refine Ay rfl rfl (Ar rfl <| Ac) (.inr rfl) rfl ?_
         refine Ay rfl rfl (Ar rfl <| Am rfl <| Ac) (.inr rfl) rfl ?_
         refine Ay rfl rfl (A7 rfl <| Ar rfl <| Ac) (.inl (congrArg Value.bool (decide_eq_true (by rw [hcs]; show (_ : Int) < (bb.length : Int); omega)))) rfl ?_
         refine Aa rfl (A3 (A7 rfl <| Ar rfl <| Am rfl <| Ac) (decide_eq_true (by rw [hcs]; show (_ : Int) < (bb.length : Int); omega)) Ad) ?_
         refine Ah <| Ab <| Aq (Ac) rfl ?_
         subst hoL
         refine Cd (.inr (by kernel_rfl)) (fun _ _ h => h) fun ds => ?_
         refine Aa rfl (Ag (A5 rfl <| A1 rfl <| Ar rfl <| Am rfl <| At rfl hs15)) ?_
         refine Cj (Ci sz_26 (A5 rfl <| A7 rfl <| Ak rfl <| A7 rfl <| A1 rfl <| Am rfl <| Ak rfl <| A7 rfl <| A1 rfl <| Ar rfl <| Am rfl <| Ac) (Ac) (i := 4) rfl (.here) (by first | rfl | exact hl15.plain.one) (.next <| .next <| .next <| .next <| .here) ?_)
         refine Cj (Ci sz_4 (A5 rfl <| A7 rfl <| Ak rfl <| A7 rfl <| Ar rfl <| Am rfl <| Ac) Ad (i := 3) rfl (.here) (by first | rfl | exact hl15.plain.one) (.next <| .next <| .next <| .here) ?_)
         refine Ah <| Ba ?_
         refine Ek (.one (.here) <| .one (.here) <| .one (.next <| .here) <| .one (.next <| .here) <| .one (.next <| .here) <| .one (.next <| .here) <| .nil) ?_
         refine .inl ⟨rfl, _, rfl, hle, ?_⟩
         exact ⟨_, by rw [cleanS_yes hcs (.inl h1)]; exact hl15, by rw [cleanS_yes hcs (.inl h1)]; first | done | rfl⟩
        ·
         refine As rfl rfl (Ac) (decide_eq_false (by rw [hcs]; show ¬ (_ : Int) < (bb.length : Int); omega)) ?_
         refine Aa rfl (Ag (A7 rfl <| Ar rfl <| Am rfl <| At rfl hs15)) ?_
         refine As rfl rfl (Am rfl <| Ac) (decide_eq_false (by rw [hcs]; show ¬ (_ : Int) < (bb.length : Int); omega)) ?_
         refine Aa rfl (Bj Bl (Ac) hl15.plain) ?_
         refine As rfl rfl (Ar rfl <| Ac) (decide_eq_false (by rw [hcs]; show ¬ (_ : Int) < (bb.length : Int); omega)) ?_
         refine Aa rfl (Ap Ck (A7 rfl <| A1 rfl <| Am rfl <| Ak rfl <| A7 rfl <| A1 rfl <| Am rfl <| Ak rfl <| A7 rfl <| A1 rfl <| Ar rfl <| Am rfl <| Ac) (Cell.own 4 rfl rfl)) ?_
         refine As rfl rfl (Ar rfl <| Am rfl <| Ac) (decide_eq_false (by rw [hcs]; show ¬ (_ : Int) < (bb.length : Int); omega)) ?_
         refine Aa rfl (Bj Bl (Ac) hv2.plain) ?_
         refine As rfl rfl (A1 rfl <| Ac) (decide_eq_false (by rw [hcs]; show ¬ (_ : Int) < (bb.length : Int); omega)) ?_
         refine Aa rfl (Bx (Ar rfl <| Ac) (Ac)) ?_
         refine As rfl rfl (A1 rfl <| Am rfl <| Ac) (decide_eq_false (by rw [hcs]; show ¬ (_ : Int) < (bb.length : Int); omega)) ?_
         refine Aa rfl (Ag (Ac)) ?_
         by_cases h2 : (uncleanL s x).length = bb.length
         ·
          refine As rfl rfl (Ac) (decide_eq_true (by rw [hcs]; show (_ : Int) = (bb.length : Int); omega)) ?_
          refine Aa rfl (Ag (A5 rfl <| Am rfl <| At rfl hs15)) ?_
          refine As rfl rfl (Am rfl <| Ac) (decide_eq_true (by rw [hcs]; show (_ : Int) = (bb.length : Int); omega)) ?_
          refine Aa rfl (Ap Ck (A5 rfl <| Ar rfl <| Ak rfl <| A7 rfl <| A1 rfl <| Am rfl <| Ak rfl <| A7 rfl <| A1 rfl <| Ar rfl <| Am rfl <| Ac) (Cell.own 4 rfl rfl)) ?_
          refine As rfl rfl (Ar rfl <| Ac) (decide_eq_true (by rw [hcs]; show (_ : Int) = (bb.length : Int); omega)) ?_
          refine Bw rfl (Bc bd_84 A0 (.cons (Am rfl <| Ac) (.cons (Ac) .nil)) (compare_ok hl15 hv2) (fun _ _ h => h)) ?_
          refine As rfl rfl (Ar rfl <| Am rfl <| Ac) (decide_eq_true (by rw [hcs]; show (_ : Int) = (bb.length : Int); omega)) ?_
          refine Aa rfl (Bs (Ac) Ad) ?_
          refine As rfl rfl (A7 rfl <| Ar rfl <| Ac) (decide_eq_false (by rw [hcs]; show ¬ (_ : Int) < (bb.length : Int); omega)) ?_
          refine Aa rfl (A3 (A1 rfl <| Ac) (decide_eq_true (by rw [hcs]; show (_ : Int) = (bb.length : Int); omega)) (Ac)) ?_
          refine Aa rfl (Bb (A7 rfl <| Ar rfl <| Am rfl <| Ac) (decide_eq_false (by rw [hcs]; show ¬ (_ : Int) < (bb.length : Int); omega)) (Ac)) ?_
          refine Ah <| Ab ?_
          by_cases h3 : cmpL (uncleanL s x) bb < 0
          ·
           refine Aq (Ac) (by rw [hcs]; exact decide_eq_true h3) ?_
           subst hoL
           refine Cd (.inr (by kernel_rfl)) (fun _ _ h => h) fun ds => ?_
           refine Aa rfl (Ag (A5 rfl <| A1 rfl <| Ar rfl <| Am rfl <| At rfl hs15)) ?_
           refine Cj (Ci sz_26 (A5 rfl <| A7 rfl <| Ak rfl <| A7 rfl <| A1 rfl <| Am rfl <| Ak rfl <| A7 rfl <| A1 rfl <| Ar rfl <| Am rfl <| Ac) (Ac) (i := 4) rfl (.here) (by first | rfl | exact hl15.plain.one) (.next <| .next <| .next <| .next <| .here) ?_)
           refine Cj (Ci sz_4 (A5 rfl <| A7 rfl <| Ak rfl <| A7 rfl <| Ar rfl <| Am rfl <| Ac) Ad (i := 3) rfl (.here) (by first | rfl | exact hl15.plain.one) (.next <| .next <| .next <| .here) ?_)
           refine Ah <| Ba ?_
           refine Ek (.one (.here) <| .one (.here) <| .one (.next <| .here) <| .one (.next <| .here) <| .one (.next <| .here) <| .one (.next <| .here) <| .nil) ?_
           refine .inl ⟨rfl, _, rfl, hle, ?_⟩
           exact ⟨_, by rw [cleanS_yes hcs (.inr ⟨h2, h3⟩)]; exact hl15, by rw [cleanS_yes hcs (.inr ⟨h2, h3⟩)]; first | done | rfl⟩
          ·
           refine Ao (Ac) (by rw [hcs]; exact decide_eq_false h3) ?_
           subst hoL
           refine Aw <| Ba ?_
           refine Ek (.one (.here) <| .one (.here) <| .one (.next <| .here) <| .one (.next <| .here) <| .one (.next <| .here) <| .one (.next <| .here) <| .nil) ?_
           refine .inl ⟨rfl, _, rfl, hle, ?_⟩
           exact ⟨_, by rw [cleanS_no hcs (fun h => h.elim h1 (fun h => h3 h.2))]; exact hv2b, by rw [cleanS_no hcs (fun h => h.elim h1 (fun h => h3 h.2)), hcs]; first | done | rfl⟩
         ·
          refine Ay rfl rfl (Ac) (.inl (congrArg Value.bool (decide_eq_false (by rw [hcs]; show ¬ (_ : Int) = (bb.length : Int); omega)))) rfl ?_
          refine Ay rfl rfl (Am rfl <| Ac) (.inl (congrArg Value.bool (decide_eq_false (by rw [hcs]; show ¬ (_ : Int) = (bb.length : Int); omega)))) rfl ?_
          refine Ay rfl rfl (Ar rfl <| Ac) (.inl (congrArg Value.bool (decide_eq_false (by rw [hcs]; show ¬ (_ : Int) = (bb.length : Int); omega)))) rfl ?_
          refine Ay rfl rfl (Ar rfl <| Am rfl <| Ac) (.inl (congrArg Value.bool (decide_eq_false (by rw [hcs]; show ¬ (_ : Int) = (bb.length : Int); omega)))) rfl ?_
          refine As rfl rfl (A7 rfl <| Ar rfl <| Ac) (decide_eq_false (by rw [hcs]; show ¬ (_ : Int) < (bb.length : Int); omega)) ?_
          refine Aa rfl (Bb (A1 rfl <| Ac) (decide_eq_false (by rw [hcs]; show ¬ (_ : Int) = (bb.length : Int); omega)) Ad) ?_
          refine Aa rfl (Bb (A7 rfl <| Ar rfl <| Am rfl <| Ac) (decide_eq_false (by rw [hcs]; show ¬ (_ : Int) < (bb.length : Int); omega)) (Ac)) ?_
          refine Ah <| Ab <| Ao (Ac) rfl ?_
          subst hoL
          refine Aw <| Ba ?_
          refine Ek (.one (.here) <| .one (.here) <| .one (.next <| .here) <| .one (.next <| .here) <| .one (.next <| .here) <| .one (.next <| .here) <| .nil) ?_
          refine .inl ⟨rfl, _, rfl, hle, ?_⟩
          exact ⟨_, by rw [cleanS_no hcs (fun h => h.elim h1 (fun h => h2 h.1))]; exact hv2b, by rw [cleanS_no hcs (fun h => h.elim h1 (fun h => h2 h.1)), hcs]; first | done | rfl⟩
    obtain ⟨v2, hv2, rfl⟩ := hJ
    refine Ba <| Ab ?_
    rcases opt_or (cleanR s (allTrees s)) with hcs | ⟨bb, hcs⟩
    ·
     refine Af <| Af <| Ai fun ds => Aa rfl (Ap one_4 (A1 rfl <| Am rfl <| Ac) (Cell.own 0 rfl rfl)) ?_
     refine Aa rfl (Co (Ac)) ?_
     refine Ah <| Ab <| Aq (Ac) (by rw [hcs]; rfl) ?_
     refine Af <| Ai fun ds => Cj (Ci sz_26 (A7 rfl <| Am rfl <| Ak rfl <| A7 rfl <| A1 rfl <| Ar rfl <| Am rfl <| Ac) Ad (i := 1) rfl (.here) rfl (.next <| .here) ?_)
     refine Aa rfl (Ae Ad) ?_
     refine Ah <| Ab <| A2 <| A9 ?_
     refine Ax rfl (.one Ck (A7 rfl <| Ar rfl <| Ak rfl <| A7 rfl <| A1 rfl <| Ar rfl <| Am rfl <| Ac) (Cell.own 1 rfl rfl) (.tmp (Ac) .nil)) ?_
     rw [cleanE_none h0 hcs]
     exact ⟨_, rfl, Sl.nil⟩
    ·
     refine Af <| Af <| Ai fun ds => Aa rfl (Ap one_4 (A1 rfl <| Am rfl <| Ac) (Cell.own 0 rfl rfl)) ?_
     refine Aa rfl (Co (Ac)) ?_
     refine Ah <| Ab <| Ao (Ac) (by rw [hcs]; rfl) ?_
     refine Aw <| Ab <| Af <| Ai fun ds => Aa rfl (Ap Ck (A7 rfl <| Am rfl <| Ak rfl <| A7 rfl <| A1 rfl <| Ar rfl <| Am rfl <| Ac) (Cell.own 1 rfl rfl)) ?_
     refine Cj (Ci sz_26 (A7 rfl <| Ar rfl <| Ak rfl <| A7 rfl <| A1 rfl <| Ar rfl <| Am rfl <| Ac) (Ac) (i := 1) rfl (.here) hv2.plain.one (.next <| .here) ?_)
     refine Aa rfl (Ae Ad) ?_
     refine Ah <| Ab <| A2 <| Ax rfl (.one Ck (A7 rfl <| Ar rfl <| Am rfl <| Ak rfl <| A7 rfl <| A1 rfl <| Ar rfl <| Am rfl <| Ac) (Cell.own 1 rfl rfl) (.tmp (Ac) .nil)) ?_
     rw [cleanE_some h0 hcs]
     rw [hcs] at hv2
     exact ⟨_, rfl, hv2⟩
 ·
  refine Af <| Ai fun ds => Bh rfl (B4 (Aj rfl) rfl fun b39 hb39 nb39 => ?_)
  refine Bh rfl (B6 zr_26 rfl fun b40 hb40 nb40 => ?_)
  refine Aa rfl (Ae Ad) ?_
  refine Ah <| Ab <| Af <| Ai fun ds => Aa rfl (A6 B1 (Ar rfl <| Ac) rfl rfl (A4 1 rfl)) ?_
  refine Bw rfl (Bc bd_65 A0 (.cons (Ac) .nil) (open_bad hr h0) (fun _ _ h => h)) ?_
  refine Aa rfl (Ag (Ac)) ?_
  refine Aa rfl (Au (Ac) rfl) ?_
  refine Aa rfl (Au (Am rfl <| Ac) rfl) ?_
  refine Aa rfl (Ae (Am rfl <| Ac)) ?_
  refine Aa rfl (Ae (Am rfl <| Ac)) ?_
  refine Ah <| Ab <| Af <| Af <| Ai fun ds => Aa rfl (Ag (Ac)) ?_
  refine Aa rfl (B3 (Ac) Ad) ?_
  refine Ah <| Ab <| Aq (Ac) (decide_eq_true h0) ?_
  refine Af <| Ai fun ds => Aa rfl (Ag (Ar rfl <| Ac)) ?_
  refine Cj (Ci sz_26 (A7 rfl <| Ar rfl <| Am rfl <| Ac) Ad (i := 0) rfl (.here) rfl (.here) ?_)
  refine Aa rfl (Ae (Ac)) ?_
  refine Ah <| Ab <| A2 <| A9 ?_
  refine Ax rfl (.one Ck (A7 rfl <| A1 rfl <| Ac) (Cell.own 0 rfl rfl) (.tmp (Ac) .nil)) ?_
  rw [cleanE_bad h0]
  exact ⟨_, rfl, Sl.nil⟩
end Go.Proofs.Ytccogmkhijgelaa
namespace Go.Proofs.Ytccogmkhijgelaa
open Go.RowKit
def plA : Plc := ⟨⟨#[97]⟩, 0⟩
def plB : Plc := ⟨⟨#[98]⟩, 1⟩
def plC : Plc := ⟨⟨#[99]⟩, 0⟩
def edQ1 : Edn := ⟨⟨#[113, 49]⟩, 1600, 1600, [1, 1, 1]⟩
def edQ2 : Edn := ⟨⟨#[113, 50]⟩, 1605, 1610, [2, 1, 1]⟩
def edF1 : Edn := ⟨⟨#[102, 49]⟩, 1623, 1623, [2, 2, 1]⟩
def edQ3 : Edn := ⟨⟨#[113, 51]⟩, 1608, 1630, [0, 1, 2]⟩
def stemX : Stm := ⟨[plA, plB, plC], [edQ1, edQ2, edF1, edQ3]⟩
def bestX : List Int := [-1, 0, 1, 0]
def starX : List Int := [-1, 0, 0, 0]
def lineX : List Int := [-1, 0, 1, 2]
def twoX : List Int := [-1, 0, 1, 1]
theorem ev_p1 : apartE stemX 0 2 = ([0, 1], 0) := by kernel_rfl
theorem ev_c1 : changesE stemX starX = (4, 0) := by kernel_rfl
theorem ev_c2 : changesE stemX lineX = (0, 9) := by kernel_rfl
theorem ev_y1 : yearsE stemX twoX = ([(1600, 1600), (1605, 1610), (1623, 1623), (1608, 1630)], 0) := by kernel_rfl
theorem ev_b1 : bestTE stemX = (bestX, 3, 2, 0) := by kernel_rfl
theorem ev_f1 : firstTE stemX = ([0], 0) := by kernel_rfl
theorem ev_m1 : fromE stemX 1 2 = (1, 0) := by kernel_rfl
theorem ev_r1 : readE stemX bestX 3 0 = ([1], 0) := by kernel_rfl
theorem ev_l1 : cleanE stemX = ([], 0) := by kernel_rfl
theorem ev_s1 : secE stemX starX 2 = (1, 1, 0) := by kernel_rfl
theorem ev_s2 : secE stemX bestX 2 = (0, 0, 8) := by kernel_rfl
end Go.Proofs.Ytccogmkhijgelaa
namespace Go.Proofs.Ytccogmkhijgelaa
open Go.RowKit
theorem zr_25 : ZeroT Try.prog 25 (.agg #[.slice none 0 0, .slice none 0 0]) := C4 (by kernel_rfl)
theorem bd_20 : Body Try.prog 20 := Bn (by kernel_rfl)
theorem bd_21 : Body Try.prog 21 := Bn (by kernel_rfl)
theorem bd_23 : Body Try.prog 23 := Bn (by kernel_rfl)
theorem bd_25 : Body Try.prog 25 := Bn (by kernel_rfl)
theorem bd_26 : Body Try.prog 26 := Bn (by kernel_rfl)
theorem bd_27 : Body Try.prog 27 := Bn (by kernel_rfl)
theorem bd_29 : Body Try.prog 29 := Bn (by kernel_rfl)
theorem bd_31 : Body Try.prog 31 := Bn (by kernel_rfl)
theorem bd_33 : Body Try.prog 33 := Bn (by kernel_rfl)
theorem bd_35 : Body Try.prog 35 := Bn (by kernel_rfl)
theorem bd_37 : Body Try.prog 37 := Bn (by kernel_rfl)
theorem bd_39 : Body Try.prog 39 := Bn (by kernel_rfl)
theorem bd_95 : Body Try.prog 95 := Bn (by kernel_rfl)
theorem bt_25 : BuildT Try.prog 25 [.slice none 0 0, .slice none 0 0] [(0, 1), (1, 1)] := buildT_of zr_25 (by kernel_rfl) (by decide)
theorem bt_60 : BuildT Try.prog 60 [.int .i64 0, .int .i64 0] [(0, 1), (1, 1)] := buildT_of zr_60 (by kernel_rfl) (by decide)
theorem bt_64 : BuildT Try.prog 64 [.string ⟨#[]⟩, .int .i64 0, .int .i64 0, .slice none 0 0] [(0, 1), (1, 2), (3, 1)] := buildT_of zr_64 (by kernel_rfl) (by decide)
theorem bt_70 : BuildT Try.prog 70 [.string ⟨#[]⟩, .int .i64 0] [(0, 1), (1, 1)] := buildT_of zr_70 (by kernel_rfl) (by decide)
theorem sz_25 : SizeT Try.prog 25 2 := Cx (by kernel_rfl)
theorem ints_box3 {F : Heap} {b T : Nat} {x y z : Int} (h : F b = some (bx T [.int .i64 x, .int .i64 y, .int .i64 z])) : Ints F (.slice (some ⟨b, 0, none⟩) 3 3) [x, y, z] :=
 sl_box (xs := [x, y, z]) h rfl rfl (fun _ => rfl) (by decide)
theorem ints_box4 {F : Heap} {b T : Nat} {x y z w : Int} (h : F b = some (bx T [.int .i64 x, .int .i64 y, .int .i64 z, .int .i64 w])) : Ints F (.slice (some ⟨b, 0, none⟩) 4 4) [x, y, z, w] :=
 sl_box (xs := [x, y, z, w]) h rfl rfl (fun _ => rfl) (by decide)
theorem plcX_box3 {F : Heap} {b T : Nat} (h : F b = some (bx T [.string ⟨#[97]⟩, .int .i64 0, .string ⟨#[98]⟩, .int .i64 1, .string ⟨#[99]⟩, .int .i64 0])) : Sl F (.slice (some ⟨b, 0, none⟩) 3 3) 2 Plc.enc [plA, plB, plC] :=
 sl_box (xs := [plA, plB, plC]) h rfl rfl (fun _ => rfl) (by decide)
theorem ednX_box4 {F : Heap} {b T : Nat} {v1 v2 v3 v4 : Value} (h : F b = some (bx T [.string ⟨#[113, 49]⟩, .int .i64 1600, .int .i64 1600, v1, .string ⟨#[113, 50]⟩, .int .i64 1605, .int .i64 1610, v2, .string ⟨#[102, 49]⟩, .int .i64 1623, .int .i64 1623, v3, .string ⟨#[113, 51]⟩, .int .i64 1608, .int .i64 1630, v4])) : Sl F (.slice (some ⟨b, 0, none⟩) 4 4) 4 edE [(v1, edQ1), (v2, edQ2), (v3, edF1), (v4, edQ3)] :=
 sl_box (xs := [(v1, edQ1), (v2, edQ2), (v3, edF1), (v4, edQ3)]) h rfl rfl (fun _ => rfl) (by decide)
theorem spansX_box4 {F : Heap} {b T : Nat} (h : F b = some (bx T [.int .i64 1600, .int .i64 1600, .int .i64 1605, .int .i64 1610, .int .i64 1623, .int .i64 1623, .int .i64 1608, .int .i64 1630])) : Sl F (.slice (some ⟨b, 0, none⟩) 4 4) 2 spanE [(1600, 1600), (1605, 1610), (1623, 1623), (1608, 1630)] :=
 sl_box (xs := ([(1600, 1600), (1605, 1610), (1623, 1623), (1608, 1630)] : List (Int × Int))) h rfl rfl (fun _ => rfl) (by decide)
set_option maxRecDepth 100000 in
theorem printed_ok {F : Heap} (nm : ByteArray) (lo hi a b c : Int) : Ok Try.prog 95 [.string nm, .int .i64 lo, .int .i64 hi, .int .i64 a, .int .i64 b, .int .i64 c].toArray F fun u F' => ∃ v, u = .agg #[.string nm, .int .i64 lo, .int .i64 hi, v] ∧ Ints F' v [a, b, c] := by
 refine Ok.intro Try.func95 rfl Try.ntmps95 rfl fun w0 => ?_
 refine Af <| Ai fun ds => Bh rfl (B6 zr_64 rfl fun b1 hb1 nb1 => ?_)
 refine Ah <| Ab <| Af <| Ai fun ds => Aa rfl (Ag (Am rfl <| Aj rfl)) ?_
 refine Aa rfl (Ag (Ar rfl <| Aj rfl)) ?_
 refine Aa rfl (Ag (Ar rfl <| Am rfl <| Aj rfl)) ?_
 refine Aa rfl (El bt_60 (.cons (Am rfl <| Ac) rfl (.cons (Ac) rfl .nil)) (.cons rfl rfl (Nat.le_of_ble_eq_true rfl) (.cons (.here) .nil) (.cons rfl rfl (Nat.le_of_ble_eq_true rfl) (.cons (.next <| .here) .nil) .nil))) ?_
 refine Aa rfl (Ag (A1 rfl <| Am rfl <| Aj rfl)) ?_
 refine Aa rfl (Ag (A1 rfl <| Ar rfl <| Aj rfl)) ?_
 refine Aa rfl (Ag (A1 rfl <| Ar rfl <| Am rfl <| Aj rfl)) ?_
 refine Bh rfl (Cb Bl Dd rfl (.cons (Ar rfl <| Ac) (.cons (Am rfl <| Ac) (.cons (Ac) .nil))) rfl rfl (by decide) (by simp [Value.oneCell']) fun b2 hb2 nb2 => ?_)
 refine B7 (i := 0) rfl hb2 .here fun F3 hF4 hz5 => ?_
 have hsl6 := ints_box3 hz5
 refine Aa rfl (El bt_64 (.cons (A1 rfl <| Ar rfl <| Am rfl <| Ac) rfl (.cons (A1 rfl <| Ac) rfl (.cons (Ac) rfl .nil))) (.cons rfl rfl (Nat.le_of_ble_eq_true rfl) (.cons (.here) .nil) (.cons rfl rfl (Nat.le_of_ble_eq_true rfl) (.cons (.next <| .here) (.cons (.next <| .next <| .here) .nil)) (.cons rfl rfl (Nat.le_of_ble_eq_true rfl) (.cons (.next <| .next <| .next <| .here) .nil) .nil)))) ?_
 refine Cj (B9 sz_64 (A7 rfl <| Am rfl <| Ac) (Ac) (i := 0) rfl rfl rfl rfl (by simp [Value.oneCell']) (.here) ?_)
 refine Ah <| Ab <| A2 <| Ax rfl (.agg Eo (A7 rfl <| Am rfl <| Ac) rfl rfl (A4 0 rfl) .nil) ?_
 exact ⟨_, rfl, hsl6⟩
set_option maxRecDepth 100000 in
theorem stemX_ok {F : Heap} : Ok Try.prog 39 [].toArray F fun u F' => ∃ vp ve ps, u = .agg #[vp, ve] ∧ StmR F' vp ve ps stemX := by
 refine Ok.intro Try.func39 rfl Try.ntmps39 rfl fun w0 => ?_
 refine Af <| Ai fun ds => Bh rfl (B6 zr_25 rfl fun b1 hb1 nb1 => ?_)
 refine Ah <| Ab <| Af <| Ai fun ds => Aa rfl (El bt_70 (.cons Ad rfl .nil) (.cons rfl rfl (Nat.le_of_ble_eq_true rfl) (.cons (.here) .nil) .nil)) ?_
 refine Aa rfl (El bt_70 (.cons Ad rfl (.cons Ad rfl .nil)) (.cons rfl rfl (Nat.le_of_ble_eq_true rfl) (.cons (.here) .nil) (.cons rfl rfl (Nat.le_of_ble_eq_true rfl) (.cons (.next <| .here) .nil) .nil))) ?_
 refine Aa rfl (El bt_70 (.cons Ad rfl .nil) (.cons rfl rfl (Nat.le_of_ble_eq_true rfl) (.cons (.here) .nil) .nil)) ?_
 refine Bh rfl (x_buildN (offs := [(0, 2), (2, 2), (4, 2)]) (zl := [.string ⟨#[]⟩, .int .i64 0, .string ⟨#[]⟩, .int .i64 0, .string ⟨#[]⟩, .int .i64 0]) Cw zr_70 rfl (.cons (Ar rfl <| Ac) rfl (.cons (Am rfl <| Ac) rfl (.cons (Ac) rfl .nil))) (by intro i p h; rcases i with _ | _ | _ | i <;> simp at h <;> subst h <;> rfl) (.cons rfl rfl (Nat.le_of_ble_eq_true rfl) (.cons (.here) (.cons (.next <| .here) .nil)) (.cons rfl rfl (Nat.le_of_ble_eq_true rfl) (.cons (.next <| .next <| .here) (.cons (.next <| .next <| .next <| .here) .nil)) (.cons rfl rfl (Nat.le_of_ble_eq_true rfl) (.cons (.next <| .next <| .next <| .next <| .here) (.cons (.next <| .next <| .next <| .next <| .next <| .here) .nil)) .nil))) (by decide) (by decide) fun b2 hb2 nb2 => ?_)
 refine B7 (i := 0) rfl hb2 .here fun F3 hF4 hz5 => ?_
 have hsl6 := plcX_box3 hz5
 refine Bh rfl (Cl bd_95 A0 (.cons Ad (.cons Ad (.cons Ad (.cons Ad (.cons Ad (.cons Ad .nil)))))) (printed_ok _ _ _ _ _ _) fun v7 F8 hr9 hF10 => ?_)
 replace hsl6 := hsl6.mono hF10
 obtain ⟨vq1, rfl, hq1⟩ := hr9
 refine Bh rfl (Cl bd_95 A0 (.cons Ad (.cons Ad (.cons Ad (.cons Ad (.cons Ad (.cons Ad .nil)))))) (printed_ok _ _ _ _ _ _) fun v11 F12 hr13 hF14 => ?_)
 replace hsl6 := hsl6.mono hF14
 replace hq1 := hq1.mono hF14
 obtain ⟨vq2, rfl, hq2⟩ := hr13
 refine Bh rfl (Cl bd_95 A0 (.cons Ad (.cons Ad (.cons Ad (.cons Ad (.cons Ad (.cons Ad .nil)))))) (printed_ok _ _ _ _ _ _) fun v15 F16 hr17 hF18 => ?_)
 replace hsl6 := hsl6.mono hF18
 replace hq1 := hq1.mono hF18
 replace hq2 := hq2.mono hF18
 obtain ⟨vf1, rfl, hf1⟩ := hr17
 refine Bh rfl (Cl bd_95 A0 (.cons Ad (.cons Ad (.cons Ad (.cons Ad (.cons Ad (.cons Ad .nil)))))) (printed_ok _ _ _ _ _ _) fun v19 F20 hr21 hF22 => ?_)
 replace hsl6 := hsl6.mono hF22
 replace hq1 := hq1.mono hF22
 replace hq2 := hq2.mono hF22
 replace hf1 := hf1.mono hF22
 obtain ⟨vq3, rfl, hq3⟩ := hr21
 refine Bh rfl (x_buildN (offs := [(0, 4), (4, 4), (8, 4), (12, 4)]) (zl := [.string ⟨#[]⟩, .int .i64 0, .int .i64 0, .slice none 0 0, .string ⟨#[]⟩, .int .i64 0, .int .i64 0, .slice none 0 0, .string ⟨#[]⟩, .int .i64 0, .int .i64 0, .slice none 0 0, .string ⟨#[]⟩, .int .i64 0, .int .i64 0, .slice none 0 0]) B5 zr_64 rfl (.cons (Ar rfl <| Am rfl <| Ac) rfl (.cons (Ar rfl <| Ac) rfl (.cons (Am rfl <| Ac) rfl (.cons (Ac) rfl .nil)))) (by intro i p h; rcases i with _ | _ | _ | _ | i <;> simp at h <;> subst h <;> rfl) (.cons rfl rfl (Nat.le_of_ble_eq_true rfl) (.cons (.here) (.cons (.next <| .here) (.cons (.next <| .next <| .here) (.cons (.next <| .next <| .next <| .here) .nil)))) (.cons rfl rfl (Nat.le_of_ble_eq_true rfl) (.cons (.next <| .next <| .next <| .next <| .here) (.cons (.next <| .next <| .next <| .next <| .next <| .here) (.cons (.next <| .next <| .next <| .next <| .next <| .next <| .here) (.cons (.next <| .next <| .next <| .next <| .next <| .next <| .next <| .here) .nil)))) (.cons rfl rfl (Nat.le_of_ble_eq_true rfl) (.cons (.next <| .next <| .next <| .next <| .next <| .next <| .next <| .next <| .here) (.cons (.next <| .next <| .next <| .next <| .next <| .next <| .next <| .next <| .next <| .here) (.cons (.next <| .next <| .next <| .next <| .next <| .next <| .next <| .next <| .next <| .next <| .here) (.cons (.next <| .next <| .next <| .next <| .next <| .next <| .next <| .next <| .next <| .next <| .next <| .here) .nil)))) (.cons rfl rfl (Nat.le_of_ble_eq_true rfl) (.cons (.next <| .next <| .next <| .next <| .next <| .next <| .next <| .next <| .next <| .next <| .next <| .next <| .here) (.cons (.next <| .next <| .next <| .next <| .next <| .next <| .next <| .next <| .next <| .next <| .next <| .next <| .next <| .here) (.cons (.next <| .next <| .next <| .next <| .next <| .next <| .next <| .next <| .next <| .next <| .next <| .next <| .next <| .next <| .here) (.cons (.next <| .next <| .next <| .next <| .next <| .next <| .next <| .next <| .next <| .next <| .next <| .next <| .next <| .next <| .next <| .here) .nil)))) .nil)))) (by decide) (by decide) fun b23 hb23 nb23 => ?_)
 refine B7 (i := 0) rfl hb23 .here fun F24 hF25 hz26 => ?_
 replace hsl6 := hsl6.mono hF25
 replace hq1 := hq1.mono hF25
 replace hq2 := hq2.mono hF25
 replace hf1 := hf1.mono hF25
 replace hq3 := hq3.mono hF25
 have hsl27 := ednX_box4 hz26
 refine Aa rfl (El bt_25 (.cons (A1 rfl <| Am rfl <| Ac) rfl (.cons (Ac) rfl .nil)) (.cons rfl rfl (Nat.le_of_ble_eq_true rfl) (.cons (.here) .nil) (.cons rfl rfl (Nat.le_of_ble_eq_true rfl) (.cons (.next <| .here) .nil) .nil))) ?_
 refine Cj (B9 sz_25 (A7 rfl <| Ar rfl <| Ac) (Ac) (i := 0) rfl rfl rfl rfl (by simp [Value.oneCell']) (.here) ?_)
 refine Ah <| Ab <| A2 <| Ax rfl (.agg B1 (A7 rfl <| Ar rfl <| Ac) rfl rfl (A4 0 rfl) .nil) ?_
 refine ⟨_, _, [(vq1, edQ1), (vq2, edQ2), (vf1, edF1), (vq3, edQ3)], rfl, ⟨hsl6, hsl27, ?_, rfl⟩⟩
 intro p hp
 simp only [List.mem_cons, List.not_mem_nil, or_false] at hp
 rcases hp with rfl | rfl | rfl | rfl
 · exact hq1
 · exact hq2
 · exact hf1
 · exact hq3
set_option maxRecDepth 100000 in
theorem awake_ok {F : Heap} : Ok Try.prog 26 [].toArray F fun u _ => u = .bool true := by
 refine Ok.intro Try.func26 rfl Try.ntmps26 rfl fun w0 => ?_
 refine Af <| Ai fun ds => Aa rfl (Ae Ad) ?_
 refine Ah <| Ab <| Af <| Ai fun ds => Bh rfl (Cl bd_39 A0 .nil stemX_ok fun v1 F2 hr3 hF4 => ?_)
 obtain ⟨vp, ve, ps, rfl, hr⟩ := hr3
 refine Bh rfl (B6 zr_25 rfl fun b5 hb5 nb5 => ?_)
 refine Cj (B9 sz_25 (Ac) (Am rfl <| Ac) (i := 0) rfl rfl rfl rfl hr.ones (.here) ?_)
 refine Ah <| Ab <| Af <| Ai fun ds => Bh rfl (Cb Bl Dd rfl (.cons Ad (.cons Ad (.cons Ad (.cons Ad .nil)))) rfl rfl (by decide) (by simp [Value.oneCell']) fun b6 hb6 nb6 => ?_)
 refine B7 (i := 0) rfl hb6 .here fun F7 hF8 hz9 => ?_
 replace hr := hr.mono hF8
 have hsl10 := ints_box4 hz9
 refine Aa rfl (Ae (Ac)) ?_
 refine Ah <| Ab <| Af <| Ai fun ds => Aa rfl (A6 B1 (Ar rfl <| Ac) rfl rfl (A4 0 rfl)) ?_
 refine Bh rfl (Cl bd_18 A0 (.cons (Ac) (.cons Ad (.cons Ad .nil))) ((apart_top_ok hr 0 2).mono fun u F2 _ h => (by rw [ev_p1] at h; exact h : ∃ ws, u = .tuple #[ws, .int .i64 0] ∧ Nats F2 ws [0, 1])) fun v11 F12 hr13 hF14 => ?_)
 replace hr := hr.mono hF14
 replace hsl10 := hsl10.mono hF14
 obtain ⟨hq1_, rfl, hq1⟩ := hr13
 refine Aa rfl (Ag (Ac)) ?_
 refine Aa rfl (Au (Ac) rfl) ?_
 refine Aa rfl (Au (Am rfl <| Ac) rfl) ?_
 refine Aa rfl (Ae (Am rfl <| Ac)) ?_
 refine Aa rfl (Ae (Am rfl <| Ac)) ?_
 refine Ah <| Ab <| Af <| Ai fun ds => Aa rfl (A6 B1 (A7 rfl <| Am rfl <| Ac) rfl rfl (A4 0 rfl)) ?_
 refine Bh rfl (Cb Bl Dd rfl (.cons Ad (.cons Ad (.cons Ad (.cons Ad .nil)))) rfl rfl (by decide) (by simp [Value.oneCell']) fun b15 hb15 nb15 => ?_)
 refine B7 (i := 0) rfl hb15 .here fun F16 hF17 hz18 => ?_
 replace hr := hr.mono hF17
 replace hsl10 := hsl10.mono hF17
 replace hq1 := hq1.mono hF17
 have hsl19 := ints_box4 hz18
 refine Bw rfl (Bc bd_21 A0 (.cons (Am rfl <| Ac) (.cons (Ac) .nil)) (changes_top_ok hr (l := starX) hsl19) (fun _ _ h => h.trans (show _ = Value.tuple #[.int .i64 4, .int .i64 0] by unfold changesEV; rw [ev_c1]))) ?_
 refine Aa rfl (Ag (Ac)) ?_
 refine Aa rfl (Au (Ac) rfl) ?_
 refine Aa rfl (Au (Am rfl <| Ac) rfl) ?_
 refine Aa rfl (Ae (Am rfl <| Ac)) ?_
 refine Aa rfl (Ae (Am rfl <| Ac)) ?_
 refine Ah <| Ab <| Af <| Ai fun ds => Aa rfl (A6 B1 (A5 rfl <| Am rfl <| Ac) rfl rfl (A4 0 rfl)) ?_
 refine Bh rfl (Cb Bl Dd rfl (.cons Ad (.cons Ad (.cons Ad (.cons Ad .nil)))) rfl rfl (by decide) (by simp [Value.oneCell']) fun b20 hb20 nb20 => ?_)
 refine B7 (i := 0) rfl hb20 .here fun F21 hF22 hz23 => ?_
 replace hr := hr.mono hF22
 replace hsl10 := hsl10.mono hF22
 replace hq1 := hq1.mono hF22
 have hsl24 := ints_box4 hz23
 refine Bw rfl (Bc bd_21 A0 (.cons (Am rfl <| Ac) (.cons (Ac) .nil)) (changes_top_ok hr (l := lineX) hsl24) (fun _ _ h => h.trans (show _ = Value.tuple #[.int .i64 0, .int .i64 9] by unfold changesEV; rw [ev_c2]))) ?_
 refine Aa rfl (Ag (Ac)) ?_
 refine Aa rfl (Au (Ac) rfl) ?_
 refine Aa rfl (Au (Am rfl <| Ac) rfl) ?_
 refine Aa rfl (Ae (Am rfl <| Ac)) ?_
 refine Aa rfl (Ae (Am rfl <| Ac)) ?_
 refine Ah <| Ab <| Af <| Ai fun ds => Aa rfl (A6 B1 (A5 rfl <| A7 rfl <| Am rfl <| Ac) rfl rfl (A4 0 rfl)) ?_
 refine Bh rfl (Cb Bl Dd rfl (.cons Ad (.cons Ad (.cons Ad (.cons Ad .nil)))) rfl rfl (by decide) (by simp [Value.oneCell']) fun b25 hb25 nb25 => ?_)
 refine B7 (i := 0) rfl hb25 .here fun F26 hF27 hz28 => ?_
 replace hr := hr.mono hF27
 replace hsl10 := hsl10.mono hF27
 replace hq1 := hq1.mono hF27
 have hsl29 := ints_box4 hz28
 refine Bh rfl (Cl bd_23 A0 (.cons (Am rfl <| Ac) (.cons (Ac) .nil)) ((years_top_ok hr (l := twoX) hsl29).mono fun u F2 _ h => (by rw [ev_y1] at h; exact h : ∃ ws, u = .tuple #[ws, .int .i64 0] ∧ (fun F v l => Sl F v 2 spanE l) F2 ws [(1600, 1600), (1605, 1610), (1623, 1623), (1608, 1630)])) fun v30 F31 hr32 hF33 => ?_)
 replace hr := hr.mono hF33
 replace hsl10 := hsl10.mono hF33
 replace hq1 := hq1.mono hF33
 obtain ⟨hq2_, rfl, hq2⟩ := hr32
 refine Aa rfl (Ag (Ac)) ?_
 refine Aa rfl (Au (Ac) rfl) ?_
 refine Aa rfl (Au (Am rfl <| Ac) rfl) ?_
 refine Aa rfl (Ae (Am rfl <| Ac)) ?_
 refine Aa rfl (Ae (Am rfl <| Ac)) ?_
 refine Ah <| Ab <| Af <| Ai fun ds => Aa rfl (A6 B1 (Bo rfl <| Am rfl <| Ac) rfl rfl (A4 0 rfl)) ?_
 refine Bh rfl (Cl bd_27 A0 (.cons (Ac) .nil) ((best_top_ok hr).mono fun u F2 _ h => (by rw [ev_b1] at h; exact h : ∃ ws, u = .tuple #[ws, .int .i64 3, .int .i64 2, .int .i64 0] ∧ Ints F2 ws bestX)) fun v34 F35 hr36 hF37 => ?_)
 replace hr := hr.mono hF37
 replace hsl10 := hsl10.mono hF37
 replace hq1 := hq1.mono hF37
 replace hq2 := hq2.mono hF37
 obtain ⟨hq3_, rfl, hq3⟩ := hr36
 refine Aa rfl (Ag (Ac)) ?_
 refine Aa rfl (Au (Ac) rfl) ?_
 refine Aa rfl (Au (Am rfl <| Ac) rfl) ?_
 refine Aa rfl (Au (Ar rfl <| Ac) rfl) ?_
 refine Aa rfl (Au (Ar rfl <| Am rfl <| Ac) rfl) ?_
 refine Aa rfl (Ae (Ar rfl <| Am rfl <| Ac)) ?_
 refine Aa rfl (Ae (Ar rfl <| Am rfl <| Ac)) ?_
 refine Aa rfl (Ae (Ar rfl <| Am rfl <| Ac)) ?_
 refine Aa rfl (Ae (Ar rfl <| Am rfl <| Ac)) ?_
 refine Ah <| Ab <| Af <| Ai fun ds => Aa rfl (A6 B1 (Bo rfl <| A7 rfl <| A1 rfl <| Ac) rfl rfl (A4 0 rfl)) ?_
 refine Bh rfl (Cl bd_29 A0 (.cons (Ac) .nil) ((first_top_ok hr).mono fun u F2 _ h => (by rw [ev_f1] at h; exact h : ∃ ws, u = .tuple #[ws, .int .i64 0] ∧ Nats F2 ws [0])) fun v38 F39 hr40 hF41 => ?_)
 replace hr := hr.mono hF41
 replace hsl10 := hsl10.mono hF41
 replace hq1 := hq1.mono hF41
 replace hq2 := hq2.mono hF41
 replace hq3 := hq3.mono hF41
 obtain ⟨hq4_, rfl, hq4⟩ := hr40
 refine Aa rfl (Ag (Ac)) ?_
 refine Aa rfl (Au (Ac) rfl) ?_
 refine Aa rfl (Au (Am rfl <| Ac) rfl) ?_
 refine Aa rfl (Ae (Am rfl <| Ac)) ?_
 refine Aa rfl (Ae (Am rfl <| Ac)) ?_
 refine Ah <| Ab <| Af <| Ai fun ds => Aa rfl (A6 B1 (Bo rfl <| A5 rfl <| Ar rfl <| Am rfl <| Ac) rfl rfl (A4 0 rfl)) ?_
 refine Bw rfl (Bc bd_31 A0 (.cons (Ac) (.cons Ad (.cons Ad .nil))) (from_top_ok hr 1 2) (fun _ _ h => h.trans (show _ = Value.tuple #[.int .i64 1, .int .i64 0] by unfold fromV; rw [ev_m1]))) ?_
 refine Aa rfl (Ag (Ac)) ?_
 refine Aa rfl (Au (Ac) rfl) ?_
 refine Aa rfl (Au (Am rfl <| Ac) rfl) ?_
 refine Aa rfl (Ae (Am rfl <| Ac)) ?_
 refine Aa rfl (Ae (Am rfl <| Ac)) ?_
 refine Ah <| Ab <| Af <| Ai fun ds => Aa rfl (A6 B1 (Bo rfl <| A5 rfl <| A7 rfl <| Ar rfl <| Ac) rfl rfl (A4 0 rfl)) ?_
 refine Aa rfl (Ag (Bo rfl <| A5 rfl <| A7 rfl <| Am rfl <| Ac)) ?_
 refine Bh rfl (Cl bd_35 A0 (.cons (Am rfl <| Ac) (.cons (Ac) (.cons Ad (.cons Ad .nil)))) ((reading_top_ok hr (l := bestX) hsl10 3 0).mono fun u F2 _ h => (by rw [ev_r1] at h; exact h : ∃ ws, u = .tuple #[ws, .int .i64 0] ∧ Ints F2 ws [1])) fun v42 F43 hr44 hF45 => ?_)
 replace hr := hr.mono hF45
 replace hsl10 := hsl10.mono hF45
 replace hq1 := hq1.mono hF45
 replace hq2 := hq2.mono hF45
 replace hq3 := hq3.mono hF45
 replace hq4 := hq4.mono hF45
 obtain ⟨hq5_, rfl, hq5⟩ := hr44
 refine Aa rfl (Ag (Ac)) ?_
 refine Aa rfl (Au (Ac) rfl) ?_
 refine Aa rfl (Au (Am rfl <| Ac) rfl) ?_
 refine Aa rfl (Ae (Am rfl <| Ac)) ?_
 refine Aa rfl (Ae (Am rfl <| Ac)) ?_
 refine Ah <| Ab <| Af <| Ai fun ds => Aa rfl (A6 B1 (Bo rfl <| Bo rfl <| Ar rfl <| Ac) rfl rfl (A4 0 rfl)) ?_
 refine Bh rfl (Cl bd_33 A0 (.cons (Ac) .nil) ((clean_top_ok hr).mono fun u F2 _ h => (by rw [ev_l1] at h; exact h : ∃ ws, u = .tuple #[ws, .int .i64 0] ∧ Nats F2 ws [])) fun v46 F47 hr48 hF49 => ?_)
 replace hr := hr.mono hF49
 replace hsl10 := hsl10.mono hF49
 replace hq1 := hq1.mono hF49
 replace hq2 := hq2.mono hF49
 replace hq3 := hq3.mono hF49
 replace hq4 := hq4.mono hF49
 replace hq5 := hq5.mono hF49
 obtain ⟨hq6_, rfl, hq6⟩ := hr48
 refine Aa rfl (Ag (Ac)) ?_
 refine Aa rfl (Au (Ac) rfl) ?_
 refine Aa rfl (Au (Am rfl <| Ac) rfl) ?_
 refine Aa rfl (Ae (Am rfl <| Ac)) ?_
 refine Aa rfl (Ae (Am rfl <| Ac)) ?_
 refine Ah <| Ab <| Af <| Ai fun ds => Aa rfl (A6 B1 (Bo rfl <| Bo rfl <| A7 rfl <| Am rfl <| Ac) rfl rfl (A4 0 rfl)) ?_
 refine Bh rfl (Cb Bl Dd rfl (.cons Ad (.cons Ad (.cons Ad (.cons Ad .nil)))) rfl rfl (by decide) (by simp [Value.oneCell']) fun b50 hb50 nb50 => ?_)
 refine B7 (i := 0) rfl hb50 .here fun F51 hF52 hz53 => ?_
 replace hr := hr.mono hF52
 replace hsl10 := hsl10.mono hF52
 replace hq1 := hq1.mono hF52
 replace hq2 := hq2.mono hF52
 replace hq3 := hq3.mono hF52
 replace hq4 := hq4.mono hF52
 replace hq5 := hq5.mono hF52
 replace hq6 := hq6.mono hF52
 have hsl54 := ints_box4 hz53
 refine Bw rfl (Bc bd_37 A0 (.cons (Am rfl <| Ac) (.cons (Ac) (.cons Ad .nil))) (second_top_ok hr (l := starX) hsl54 2) (fun _ _ h => h.trans (show _ = Value.tuple #[.int .i64 1, .int .i64 1, .int .i64 0] by unfold secV; rw [ev_s1]))) ?_
 refine Aa rfl (Ag (Ac)) ?_
 refine Aa rfl (Au (Ac) rfl) ?_
 refine Aa rfl (Au (Am rfl <| Ac) rfl) ?_
 refine Aa rfl (Au (Ar rfl <| Ac) rfl) ?_
 refine Aa rfl (Ae (Ar rfl <| Ac)) ?_
 refine Aa rfl (Ae (Ar rfl <| Ac)) ?_
 refine Aa rfl (Ae (Ar rfl <| Ac)) ?_
 refine Ah <| Ab <| Af <| Ai fun ds => Aa rfl (A6 B1 (Bo rfl <| Bo rfl <| A5 rfl <| Ar rfl <| Am rfl <| Ac) rfl rfl (A4 0 rfl)) ?_
 refine Aa rfl (Ag (Bo rfl <| Bo rfl <| A5 rfl <| Ar rfl <| Ac)) ?_
 refine Bw rfl (Bc bd_37 A0 (.cons (Am rfl <| Ac) (.cons (Ac) (.cons Ad .nil))) (second_top_ok hr (l := bestX) hsl10 2) (fun _ _ h => h.trans (show _ = Value.tuple #[.int .i64 0, .int .i64 0, .int .i64 8] by unfold secV; rw [ev_s2]))) ?_
 refine Aa rfl (Ag (Ac)) ?_
 refine Aa rfl (Au (Ac) rfl) ?_
 refine Aa rfl (Au (Am rfl <| Ac) rfl) ?_
 refine Aa rfl (Au (Ar rfl <| Ac) rfl) ?_
 refine Aa rfl (Ae (Ar rfl <| Ac)) ?_
 refine Aa rfl (Ae (Ar rfl <| Ac)) ?_
 refine Aa rfl (Ae (Ar rfl <| Ac)) ?_
 refine Ah <| Ab <| Af <| Ai fun ds => Aa rfl (Ag (Bo rfl <| Bo rfl <| A5 rfl <| A1 rfl <| Ac)) ?_
 refine Aa rfl (Bx (Ac) Ad) ?_
 refine Aa rfl (Ag (Ac)) ?_
 refine As rfl rfl (Ac) (by first | rfl | decide) ?_
 refine Aa rfl (Ag (Bo rfl <| Bo rfl <| A7 rfl <| A1 rfl <| Ar rfl <| Am rfl <| Ac)) ?_
 refine As rfl rfl (Am rfl <| Ac) (by first | rfl | decide) ?_
 refine Aa rfl (Bx (Ac) Ad) ?_
 refine Aa rfl (A3 (Ar rfl <| Ac) (by first | rfl | decide) (Ac)) ?_
 refine Aa rfl (Ag (Ac)) ?_
 refine As rfl rfl (Ac) (by first | rfl | decide) ?_
 refine Aa rfl (Ag (Bo rfl <| Bo rfl <| Ar rfl <| Am rfl <| Ac)) ?_
 refine As rfl rfl (Am rfl <| Ac) (by first | rfl | decide) ?_
 refine Aa rfl (Bx (Ac) Ad) ?_
 refine Aa rfl (A3 (Ar rfl <| Ac) (by first | rfl | decide) (Ac)) ?_
 refine Aa rfl (Ag (Ac)) ?_
 refine As rfl rfl (Ac) (by first | rfl | decide) ?_
 refine Aa rfl (Ag (Bo rfl <| A5 rfl <| A7 rfl <| A1 rfl <| Ac)) ?_
 refine As rfl rfl (Am rfl <| Ac) (by first | rfl | decide) ?_
 refine Aa rfl (Bx (Ac) Ad) ?_
 refine Aa rfl (A3 (Ar rfl <| Ac) (by first | rfl | decide) (Ac)) ?_
 refine Aa rfl (Ag (Ac)) ?_
 refine As rfl rfl (Ac) (by first | rfl | decide) ?_
 refine Aa rfl (Ag (Bo rfl <| A5 rfl <| A7 rfl <| Am rfl <| Ac)) ?_
 refine As rfl rfl (Am rfl <| Ac) (by first | rfl | decide) ?_
 refine Aa rfl (Bx (Ac) Ad) ?_
 refine Aa rfl (A3 (Ar rfl <| Ac) (by first | rfl | decide) (Ac)) ?_
 refine Aa rfl (Ag (Ac)) ?_
 refine As rfl rfl (Ac) (by first | rfl | decide) ?_
 refine Aa rfl (Ag (Bo rfl <| A5 rfl <| A1 rfl <| Ar rfl <| Ac)) ?_
 refine As rfl rfl (Am rfl <| Ac) (by first | rfl | decide) ?_
 refine Aa rfl (Bx (Ac) Ad) ?_
 refine Aa rfl (A3 (Ar rfl <| Ac) (by first | rfl | decide) (Ac)) ?_
 refine Aa rfl (Ag (Ac)) ?_
 refine As rfl rfl (Ac) (by first | rfl | decide) ?_
 refine Aa rfl (Ag (Bo rfl <| A5 rfl <| Ar rfl <| Ac)) ?_
 refine As rfl rfl (Am rfl <| Ac) (by first | rfl | decide) ?_
 refine Aa rfl (Bx (Ac) Ad) ?_
 refine Aa rfl (A3 (Ar rfl <| Ac) (by first | rfl | decide) (Ac)) ?_
 refine Aa rfl (Ag (Ac)) ?_
 refine As rfl rfl (Ac) (by first | rfl | decide) ?_
 refine Aa rfl (Ag (Bo rfl <| A7 rfl <| A1 rfl <| Ar rfl <| Am rfl <| Ac)) ?_
 refine As rfl rfl (Am rfl <| Ac) (by first | rfl | decide) ?_
 refine Aa rfl (Bx (Ac) Ad) ?_
 refine Aa rfl (A3 (Ar rfl <| Ac) (by first | rfl | decide) (Ac)) ?_
 refine Aa rfl (Ag (Ac)) ?_
 refine As rfl rfl (Ac) (by first | rfl | decide) ?_
 refine Aa rfl (Ag (Bo rfl <| A7 rfl <| Am rfl <| Ac)) ?_
 refine As rfl rfl (Am rfl <| Ac) (by first | rfl | decide) ?_
 refine Aa rfl (Bx (Ac) Ad) ?_
 refine Aa rfl (A3 (Ar rfl <| Ac) (by first | rfl | decide) (Ac)) ?_
 refine Aa rfl (Ag (Ac)) ?_
 refine As rfl rfl (Ac) (by first | rfl | decide) ?_
 refine Aa rfl (Ag (Bo rfl <| Bo rfl <| Bo rfl <| A1 rfl <| Ar rfl <| Am rfl <| Ac)) ?_
 refine As rfl rfl (Am rfl <| Ac) (by first | rfl | decide) ?_
 refine Aa rfl (Bx (Ac) Ad) ?_
 refine Aa rfl (A3 (Ar rfl <| Ac) (by first | rfl | decide) (Ac)) ?_
 refine Aa rfl (Ag (Ac)) ?_
 refine As rfl rfl (Ac) (by first | rfl | decide) ?_
 refine Aa rfl (Ag (Bo rfl <| A1 rfl <| Ar rfl <| Am rfl <| Ac)) ?_
 refine As rfl rfl (Am rfl <| Ac) (by first | rfl | decide) ?_
 refine Aa rfl (Bx (Ac) Ad) ?_
 refine Aa rfl (A3 (Ar rfl <| Ac) (by first | rfl | decide) (Ac)) ?_
 refine Aa rfl (Ag (Ac)) ?_
 refine As rfl rfl (Ac) (by first | rfl | decide) ?_
 refine Aa rfl (Ag (Bo rfl <| Bo rfl <| Bo rfl <| Bo rfl <| Ac)) ?_
 refine As rfl rfl (Am rfl <| Ac) (by first | rfl | decide) ?_
 refine Bh rfl (Cb Bl Dd rfl (.cons Ad (.cons Ad .nil)) rfl rfl (by decide) (by simp [Value.oneCell']) fun b55 hb55 nb55 => ?_)
 refine B7 (i := 0) rfl hb55 .here fun F56 hF57 hz58 => ?_
 replace hsl10 := hsl10.mono hF57
 replace hq1 := hq1.mono hF57
 replace hq2 := hq2.mono hF57
 replace hq3 := hq3.mono hF57
 replace hq4 := hq4.mono hF57
 replace hq5 := hq5.mono hF57
 replace hq6 := hq6.mono hF57
 have hsl59 := ints_box2 hz58
 refine As rfl rfl (Ar rfl <| Ac) (by first | rfl | decide) ?_
 refine Bw rfl (Bc bd_20 A0 (.cons (Am rfl <| Ac) (.cons (Ac) .nil)) (refInts_ok (Nats.ints hq1) hsl59) (fun _ _ h => h)) ?_
 refine Aa rfl (A3 (Ar rfl <| Am rfl <| Ac) (by first | rfl | decide) (Ac)) ?_
 refine Aa rfl (Ag (Ac)) ?_
 refine As rfl rfl (Ac) (by first | rfl | decide) ?_
 refine Aa rfl (Ag (Bo rfl <| Bo rfl <| Bo rfl <| A5 rfl <| A7 rfl <| A1 rfl <| Am rfl <| Ac)) ?_
 refine As rfl rfl (Am rfl <| Ac) (by first | rfl | decide) ?_
 refine Aa rfl (Bx (Ac) Ad) ?_
 refine Aa rfl (A3 (Ar rfl <| Ac) (by first | rfl | decide) (Ac)) ?_
 refine Aa rfl (Ag (Ac)) ?_
 refine As rfl rfl (Ac) (by first | rfl | decide) ?_
 refine Aa rfl (Ag (Bo rfl <| Bo rfl <| Bo rfl <| A5 rfl <| Am rfl <| Ac)) ?_
 refine As rfl rfl (Am rfl <| Ac) (by first | rfl | decide) ?_
 refine Aa rfl (El bt_60 (.cons Ad rfl (.cons Ad rfl .nil)) (.cons rfl rfl (Nat.le_of_ble_eq_true rfl) (.cons (.here) .nil) (.cons rfl rfl (Nat.le_of_ble_eq_true rfl) (.cons (.next <| .here) .nil) .nil))) ?_
 refine As rfl rfl (Ar rfl <| Ac) (by first | rfl | decide) ?_
 refine Aa rfl (El bt_60 (.cons Ad rfl (.cons Ad rfl .nil)) (.cons rfl rfl (Nat.le_of_ble_eq_true rfl) (.cons (.here) .nil) (.cons rfl rfl (Nat.le_of_ble_eq_true rfl) (.cons (.next <| .here) .nil) .nil))) ?_
 refine As rfl rfl (Ar rfl <| Am rfl <| Ac) (by first | rfl | decide) ?_
 refine Aa rfl (El bt_60 (.cons Ad rfl (.cons Ad rfl .nil)) (.cons rfl rfl (Nat.le_of_ble_eq_true rfl) (.cons (.here) .nil) (.cons rfl rfl (Nat.le_of_ble_eq_true rfl) (.cons (.next <| .here) .nil) .nil))) ?_
 refine As rfl rfl (A1 rfl <| Ac) (by first | rfl | decide) ?_
 refine Aa rfl (El bt_60 (.cons Ad rfl (.cons Ad rfl .nil)) (.cons rfl rfl (Nat.le_of_ble_eq_true rfl) (.cons (.here) .nil) (.cons rfl rfl (Nat.le_of_ble_eq_true rfl) (.cons (.next <| .here) .nil) .nil))) ?_
 refine As rfl rfl (A1 rfl <| Am rfl <| Ac) (by first | rfl | decide) ?_
 refine Bh rfl (x_buildN (offs := [(0, 2), (2, 2), (4, 2), (6, 2)]) (zl := [.int .i64 0, .int .i64 0, .int .i64 0, .int .i64 0, .int .i64 0, .int .i64 0, .int .i64 0, .int .i64 0]) Ei zr_60 rfl (.cons (Ar rfl <| Am rfl <| Ac) rfl (.cons (Ar rfl <| Ac) rfl (.cons (Am rfl <| Ac) rfl (.cons (Ac) rfl .nil)))) (by intro i p h; rcases i with _ | _ | _ | _ | i <;> simp at h <;> subst h <;> rfl) (.cons rfl rfl (Nat.le_of_ble_eq_true rfl) (.cons (.here) (.cons (.next <| .here) .nil)) (.cons rfl rfl (Nat.le_of_ble_eq_true rfl) (.cons (.next <| .next <| .here) (.cons (.next <| .next <| .next <| .here) .nil)) (.cons rfl rfl (Nat.le_of_ble_eq_true rfl) (.cons (.next <| .next <| .next <| .next <| .here) (.cons (.next <| .next <| .next <| .next <| .next <| .here) .nil)) (.cons rfl rfl (Nat.le_of_ble_eq_true rfl) (.cons (.next <| .next <| .next <| .next <| .next <| .next <| .here) (.cons (.next <| .next <| .next <| .next <| .next <| .next <| .next <| .here) .nil)) .nil)))) (by decide) (by decide) fun b60 hb60 nb60 => ?_)
 refine B7 (i := 0) rfl hb60 .here fun F61 hF62 hz63 => ?_
 replace hsl10 := hsl10.mono hF62
 replace hq2 := hq2.mono hF62
 replace hq3 := hq3.mono hF62
 replace hq4 := hq4.mono hF62
 replace hq5 := hq5.mono hF62
 replace hq6 := hq6.mono hF62
 have hsl64 := spansX_box4 hz63
 refine As rfl rfl (A1 rfl <| Ar rfl <| Ac) (by first | rfl | decide) ?_
 refine Bw rfl (Bc bd_25 A0 (.cons (A1 rfl <| Am rfl <| Ac) (.cons (Ac) .nil)) (refSpans_ok hq2 hsl64) (fun _ _ h => h)) ?_
 refine Aa rfl (A3 (A1 rfl <| Ar rfl <| Am rfl <| Ac) (by first | rfl | decide) (Ac)) ?_
 refine Aa rfl (Ag (Ac)) ?_
 refine As rfl rfl (Ac) (by first | rfl | decide) ?_
 refine Aa rfl (Ag (Bo rfl <| Bo rfl <| Bo rfl <| A5 rfl <| Am rfl <| Ac)) ?_
 refine As rfl rfl (Am rfl <| Ac) (by first | rfl | decide) ?_
 refine Aa rfl (Ag (Bo rfl <| Bo rfl <| Bo rfl <| Bo rfl <| A5 rfl <| A7 rfl <| Am rfl <| Ac)) ?_
 refine As rfl rfl (Ar rfl <| Ac) (by first | rfl | decide) ?_
 refine Bw rfl (Bc bd_20 A0 (.cons (Am rfl <| Ac) (.cons (Ac) .nil)) (refInts_ok hq3 hsl10) (fun _ _ h => h)) ?_
 refine Aa rfl (A3 (Ar rfl <| Am rfl <| Ac) (by first | rfl | decide) (Ac)) ?_
 refine Aa rfl (Ag (Ac)) ?_
 refine As rfl rfl (Ac) (by first | rfl | decide) ?_
 refine Aa rfl (Ag (Bo rfl <| Bo rfl <| Bo rfl <| A5 rfl <| A1 rfl <| Am rfl <| Ac)) ?_
 refine As rfl rfl (Am rfl <| Ac) (by first | rfl | decide) ?_
 refine Aa rfl (Bx (Ac) Ad) ?_
 refine Aa rfl (A3 (Ar rfl <| Ac) (by first | rfl | decide) (Ac)) ?_
 refine Aa rfl (Ag (Ac)) ?_
 refine As rfl rfl (Ac) (by first | rfl | decide) ?_
 refine Aa rfl (Ag (Bo rfl <| Bo rfl <| Bo rfl <| A5 rfl <| A7 rfl <| Ac)) ?_
 refine As rfl rfl (Am rfl <| Ac) (by first | rfl | decide) ?_
 refine Aa rfl (Bx (Ac) Ad) ?_
 refine Aa rfl (A3 (Ar rfl <| Ac) (by first | rfl | decide) (Ac)) ?_
 refine Aa rfl (Ag (Ac)) ?_
 refine As rfl rfl (Ac) (by first | rfl | decide) ?_
 refine Aa rfl (Ag (Bo rfl <| Bo rfl <| Bo rfl <| A5 rfl <| A1 rfl <| Am rfl <| Ac)) ?_
 refine As rfl rfl (Am rfl <| Ac) (by first | rfl | decide) ?_
 refine Bh rfl (Cb Bl Dd rfl (.cons Ad .nil) rfl rfl (by decide) (by simp [Value.oneCell']) fun b65 hb65 nb65 => ?_)
 refine B7 (i := 0) rfl hb65 .here fun F66 hF67 hz68 => ?_
 replace hq4 := hq4.mono hF67
 replace hq5 := hq5.mono hF67
 replace hq6 := hq6.mono hF67
 have hsl69 := C0 hz68
 refine As rfl rfl (Ar rfl <| Ac) (by first | rfl | decide) ?_
 refine Bw rfl (Bc bd_20 A0 (.cons (Am rfl <| Ac) (.cons (Ac) .nil)) (refInts_ok (Nats.ints hq4) hsl69) (fun _ _ h => h)) ?_
 refine Aa rfl (A3 (Ar rfl <| Am rfl <| Ac) (by first | rfl | decide) (Ac)) ?_
 refine Aa rfl (Ag (Ac)) ?_
 refine As rfl rfl (Ac) (by first | rfl | decide) ?_
 refine Aa rfl (Ag (Bo rfl <| Bo rfl <| Bo rfl <| A5 rfl <| Ar rfl <| Am rfl <| Ac)) ?_
 refine As rfl rfl (Am rfl <| Ac) (by first | rfl | decide) ?_
 refine Aa rfl (Bx (Ac) Ad) ?_
 refine Aa rfl (A3 (Ar rfl <| Ac) (by first | rfl | decide) (Ac)) ?_
 refine Aa rfl (Ag (Ac)) ?_
 refine As rfl rfl (Ac) (by first | rfl | decide) ?_
 refine Aa rfl (Ag (Bo rfl <| Bo rfl <| Bo rfl <| A7 rfl <| A1 rfl <| Ar rfl <| Am rfl <| Ac)) ?_
 refine As rfl rfl (Am rfl <| Ac) (by first | rfl | decide) ?_
 refine Bh rfl (Cb Bl Dd rfl (.cons Ad .nil) rfl rfl (by decide) (by simp [Value.oneCell']) fun b70 hb70 nb70 => ?_)
 refine B7 (i := 0) rfl hb70 .here fun F71 hF72 hz73 => ?_
 replace hq5 := hq5.mono hF72
 replace hq6 := hq6.mono hF72
 have hsl74 := C0 hz73
 refine As rfl rfl (Ar rfl <| Ac) (by first | rfl | decide) ?_
 refine Bw rfl (Bc bd_20 A0 (.cons (Am rfl <| Ac) (.cons (Ac) .nil)) (refInts_ok hq5 hsl74) (fun _ _ h => h)) ?_
 refine Aa rfl (A3 (Ar rfl <| Am rfl <| Ac) (by first | rfl | decide) (Ac)) ?_
 refine Aa rfl (Ag (Ac)) ?_
 refine As rfl rfl (Ac) (by first | rfl | decide) ?_
 refine Aa rfl (Ag (Bo rfl <| Bo rfl <| Bo rfl <| A7 rfl <| A1 rfl <| Am rfl <| Ac)) ?_
 refine As rfl rfl (Am rfl <| Ac) (by first | rfl | decide) ?_
 refine Aa rfl (Bj Bl (Ac) hq6.plain) ?_
 refine As rfl rfl (Ar rfl <| Ac) (by first | rfl | decide) ?_
 refine Aa rfl (Bx (Ac) Ad) ?_
 refine Aa rfl (A3 (Ar rfl <| Am rfl <| Ac) (by first | rfl | decide) (Ac)) ?_
 refine Aa rfl (Ag (Ac)) ?_
 refine As rfl rfl (Ac) (by first | rfl | decide) ?_
 refine Aa rfl (Ag (Bo rfl <| Bo rfl <| Bo rfl <| A7 rfl <| Am rfl <| Ac)) ?_
 refine As rfl rfl (Am rfl <| Ac) (by first | rfl | decide) ?_
 refine Aa rfl (Bx (Ac) Ad) ?_
 refine Aa rfl (A3 (Ar rfl <| Ac) (by first | rfl | decide) (Ac)) ?_
 refine Aa rfl (Ag (Ac)) ?_
 refine As rfl rfl (Ac) (by first | rfl | decide) ?_
 refine Aa rfl (Ag (Bo rfl <| Bo rfl <| Bo rfl <| A7 rfl <| A1 rfl <| Ac)) ?_
 refine As rfl rfl (Am rfl <| Ac) (by first | rfl | decide) ?_
 refine Aa rfl (Bx (Ac) Ad) ?_
 refine Aa rfl (A3 (Ar rfl <| Ac) (by first | rfl | decide) (Ac)) ?_
 refine Aa rfl (Ae (Ac)) ?_
 refine Ah <| Ab <| A2 <| Ax rfl (.tmp (Ac) .nil) ?_
 show _ = _
 first | rfl | decide
end Go.Proofs.Ytccogmkhijgelaa
namespace Go.Proofs.Ytccogmkhijgelaa
/-- What was taken so far, and what is left. -/
structure TreeI (n : Nat) (g : Nat → Int) (taken left : List Nat) : Prop where
 nodup : (taken ++ left).Nodup
 len : taken.length + left.length = n
 all : ∀ i, i < n ↔ i ∈ taken ++ left
 root : ∀ (h : 0 < taken.length), g taken[0] = -1
 up : ∀ j (h : j < taken.length), 0 < j → ∃ k, ∃ hk : k < j, g taken[j] = (taken[k] : Int)
theorem TreeI.start {n : Nat} {g : Nat → Int} : TreeI n g [] (List.range n) := ⟨by simpa using List.nodup_range, by simp, fun i => by simp, fun h => absurd h (by simp), fun j h => absurd h (by simp)⟩
theorem erase_perm {α : Type} {l : List α} {k : Nat} (hk : k < l.length) : l.Perm (l[k] :: l.eraseIdx k) := by
 rw [List.eraseIdx_eq_take_drop_succ]
 have h : l = l.take k ++ l[k] :: l.drop (k + 1) := by rw [← List.drop_eq_getElem_cons hk, List.take_append_drop]
 conv => lhs; rw [h]
 exact List.perm_middle
section
variable {n : Nat} {g : Nat → Int} {taken left : List Nat} {k : Nat}
theorem TreeI.perm (hk : k < left.length) : (taken ++ left).Perm ((taken ++ [left[k]]) ++ left.eraseIdx k) := by
 rw [List.append_assoc]
 exact (erase_perm hk).append_left taken
theorem TreeI.fresh (h : TreeI n g taken left) (hk : k < left.length) {j : Nat} (hj : j < taken.length) : taken[j] ≠ left[k] := fun he => by
 have := (List.nodup_append.1 h.nodup).2.2 _ (List.getElem_mem hj) _ (List.getElem_mem hk)
 exact this he
theorem TreeI.lt (h : TreeI n g taken left) (hk : k < left.length) : left[k] < n := (h.all _).2 (List.mem_append_right _ (List.getElem_mem hk))
theorem TreeI.step (h : TreeI n g taken left) (hk : k < left.length) {g' : Nat → Int} (hg : ∀ i, i ≠ left[k] → g' i = g i) (h0 : taken.length = 0 → g' left[k] = -1) (h1 : 0 < taken.length → ∃ q, ∃ hq : q < taken.length, g' left[k] = (taken[q] : Int)) :
   TreeI n g' (taken ++ [left[k]]) (left.eraseIdx k) := by
 have hp := TreeI.perm (taken := taken) hk
 refine ⟨hp.nodup_iff.1 h.nodup, by have := h.len; rw [List.length_append, List.length_eraseIdx_of_lt hk, List.length_singleton]; omega, fun i => (h.all i).trans hp.mem_iff, fun hl => ?_, fun j hj hj0 => ?_⟩
 · by_cases ht : 0 < taken.length
   · rw [List.getElem_append_left ht, hg _ (h.fresh hk ht)]; exact h.root ht
   · rw [List.getElem_append_right (by omega)]
     simp only [List.getElem_singleton]
     exact h0 (by omega)
 · by_cases ht : j < taken.length
   · obtain ⟨q, hq, he⟩ := h.up j ht hj0
     refine ⟨q, hq, ?_⟩
     rw [List.getElem_append_left ht, List.getElem_append_left (by omega), hg _ (h.fresh hk ht)]; exact he
   · have hj2 : j = taken.length := by simp at hj; omega
     subst hj2
     obtain ⟨q, hq, he⟩ := h1 hj0
     refine ⟨q, hq, ?_⟩
     rw [List.getElem_append_right (Nat.le_refl _), List.getElem_append_left hq]
     simp only [List.getElem_singleton]
     exact he
end
theorem reach_le {l : List Int} {i f : Nat} (h : reach l f i = true) : ∀ d, reach l (f + d) i = true
 | 0 => h
 | d + 1 => reach_succ (reach_le h d)
theorem firsts_uniq {l : List Int} {r : Nat} (hr : upN l r = -1) : ∀ {k : Nat}, (∀ i, i < k → upN l i = -1 → i = r) → firstsN l k = if r < k then 1 else 0
 | 0, _ => by simp [firstsN]
 | k + 1, h => by
   unfold firstsN
   rw [firsts_uniq hr (fun i hi => h i (by omega))]
   by_cases hk : upN l k = -1
   · have := h k (by omega) hk
     subst this
     rw [if_pos hk, if_neg (by omega), if_pos (by omega)]; rfl
   · rw [if_neg hk]
     have : r ≠ k := fun e => hk (by rw [← e]; exact hr)
     by_cases hrk : r < k
     · rw [if_pos hrk, if_pos (by omega)]
     · rw [if_neg hrk, if_neg (by omega)]
def listG (g : Nat → Int) (n : Nat) : List Int := (List.range n).map g
theorem TreeI.tree {n : Nat} {g : Nat → Int} {taken : List Nat} (h : TreeI n g taken []) (hn : 0 < n) : IsTree (listG g n) := by
 have hlen : (listG g n).length = n := by simp [listG]
 have hup : ∀ i, i < n → upN (listG g n) i = g i := fun i hi => upN_map hi
 have hall : ∀ i, i < n ↔ i ∈ taken := fun i => by rw [h.all i, List.append_nil]
 have htl : taken.length = n := by have := h.len; simpa using this
 have hlt : ∀ j (hj : j < taken.length), taken[j] < n := fun j hj => (hall _).2 (List.getElem_mem hj)
 refine ⟨fun i hi => ?_, fun i hi => ?_, ?_⟩
 · rw [hlen] at hi ⊢
   rw [hup i hi]
   obtain ⟨j, hj, rfl⟩ := List.getElem_of_mem ((hall i).1 hi)
   by_cases hj0 : j = 0
   · subst hj0; rw [h.root hj]; omega
   · obtain ⟨k, hk, he⟩ := h.up j hj (by omega)
     rw [he]
     have := hlt k (by omega)
     omega
 · rw [hlen] at hi ⊢
   obtain ⟨j, hj, rfl⟩ := List.getElem_of_mem ((hall i).1 hi)
   have key : ∀ j (hj : j < taken.length), reach (listG g n) j taken[j] = true := by
     intro j
     induction j using Nat.strongRecOn with
     | _ j ih =>
       intro hj
       by_cases hj0 : j = 0
       · subst hj0; exact reach_end (by rw [hup _ (hlt 0 hj)]; exact h.root hj)
       · obtain ⟨k, hk, he⟩ := h.up j hj (by omega)
         obtain ⟨j', rfl⟩ : ∃ j', j = j' + 1 := ⟨j - 1, by omega⟩
         rw [D9 (j := taken[k]) (by rw [hup _ (hlt _ hj)]; exact he)]
         have := reach_le (ih k hk (by omega)) (j' - k)
         rw [show k + (j' - k) = j' by omega] at this
         exact this
   have := reach_le (key j hj) (n - j)
   rw [show j + (n - j) = n by omega] at this
   exact this
 · rw [hlen]
   have h0 : 0 < taken.length := by omega
   rw [firsts_uniq (r := taken[0]) (by rw [hup _ (hlt 0 h0)]; exact h.root h0) fun i hi hu => ?_, if_pos (hlt 0 h0)]
   rw [hup i hi] at hu
   obtain ⟨j, hj, rfl⟩ := List.getElem_of_mem ((hall i).1 hi)
   by_cases hj0 : j = 0
   · subst hj0; rfl
   · obtain ⟨k, hk, he⟩ := h.up j hj (by omega)
     omega
end Go.Proofs.Ytccogmkhijgelaa
namespace Go.Proofs.Ytccogmkhijgelaa
open Go.RowKit
set_option maxRecDepth 100000 in
theorem valid_ok {F : Heap} {vp ve : Value} {ps : List (Value × Edn)} {s : Stm} (hr : StmR F vp ve ps s) : Ok Try.prog 40 [.agg #[vp, ve]].toArray F fun u _ => u = .bool (decide ((checkT s).2.2 = 0)) := by
 refine Ok.intro Try.func40 rfl Try.ntmps40 rfl fun w0 => ?_
 refine Af <| Ai fun ds => Bh rfl (B4 (Aj rfl) rfl fun b1 hb1 nb1 => ?_)
 refine Aa rfl (Ae Ad) ?_
 refine Ah <| Ab <| Af <| Ai fun ds => Aa rfl (A6 B1 (Am rfl <| Ac) rfl rfl (A4 0 rfl)) ?_
 refine Bw rfl (Bc bd_17 A0 (.cons (Ac) .nil) (refCheckT_ok hr) (fun _ _ h => h.trans (show checkTV s = .tuple #[.int .i64 (checkT s).1, .int .i64 (checkT s).2.1, .int .i64 (checkT s).2.2] from rfl))) ?_
 refine Aa rfl (Ag (Ac)) ?_
 refine Aa rfl (Au (Ac) rfl) ?_
 refine Aa rfl (Au (Am rfl <| Ac) rfl) ?_
 refine Aa rfl (Au (Ar rfl <| Ac) rfl) ?_
 refine Aa rfl (Ae (Ar rfl <| Ac)) ?_
 refine Aa rfl (Ae (Ar rfl <| Ac)) ?_
 refine Aa rfl (Ae (Ar rfl <| Ac)) ?_
 refine Ah <| Ab <| Af <| Ai fun ds => Aa rfl (Ag (Ac)) ?_
 refine Aa rfl (Bx (Ac) Ad) ?_
 refine Aa rfl (Ae (Ac)) ?_
 refine Ah <| Ab <| A2 <| Ax rfl (.tmp (Ac) .nil) ?_
 rfl
end Go.Proofs.Ytccogmkhijgelaa
namespace Go.Proofs.Ytccogmkhijgelaa
theorem cost_nofit {s : Stm} {l : List Int} (h : fitsT s l = false) : costL s l = 1000 := by unfold costL; unfold fitsT at h; rw [h]; rfl
theorem fit_of_cost {s : Stm} {l : List Int} (h : costL s l < 1000) : fitsT s l = true := by
 cases hf : fitsT s l with
 | true => rfl
 | false => rw [cost_nofit hf] at h; omega
section
variable {s : Stm} {l : List Int}
theorem years_edge (ht : IsTree l) (hl : l.length = s.editions.length) {i k : Nat} (hi : i < l.length) (h : upN l i = (k : Int)) : firstY s (treeE l) k + 1 ≤ firstY s (treeE l) i ∧ lastY s (treeE l) k + 1 ≤ lastY s (treeE l) i := by
 have he := treeE_at hi h
 have hd : Dag s.editions.length (treeE l) := by rw [← hl]; exact ht.dag
 refine ⟨hd.fits (base := fun i => (s.ed i).lo) he, ?_⟩
 have h1 := hd.swap.fits (base := fun i => -(s.ed i).hi) (e := (i, k)) (Dm.2 he)
 simp only at h1
 unfold lastY
 omega
end
theorem cost_sum {s : Stm} {l : List Int} (h : costL s l < 1000) : costL s l = sumN s.places.length (leastL s l) ∧ ∀ p, p < s.places.length → leastL s l p < 1000 := by
 have hf := fit_of_cost h
 unfold fitsT at hf
 unfold costL at h ⊢
 rw [if_pos hf] at h ⊢
 refine ⟨by omega, fun p hp => ?_⟩
 have := sumN_mem (n := s.places.length) (i := p) (f := leastL s l) (fun i _ => Dj.1) hp
 omega
theorem least_some {s : Stm} {l : List Int} {p : Nat} (hl : l.length = s.editions.length) (h : leastL s l p < 1000) : ∃ g, Filling s l p g ∧ Possible s l p g ∧ changesOf l g = leastL s l p := by
 rcases foldmin_or (f := countL s l p) (l := allFill s p) (m := 1000) with h1 | ⟨x, hx, h1⟩
 · have : leastL s l p = 1000 := h1
   omega
 · have h2 : leastL s l p = countL s l p x := h1
   have h3 := ((allFill_mem hl).1 hx).2
   rw [h2] at h
   unfold countL at h h2
   split at h
   · rename_i h4
     rw [if_pos h4] at h2
     exact ⟨_, h3, possB_iff.1 h4, h2.symm⟩
   · omega
end Go.Proofs.Ytccogmkhijgelaa
namespace Go.Proofs.Ytccogmkhijgelaa
open Go.RowKit
theorem bd_40 : Body Try.prog 40 := Bn (by kernel_rfl)
end Go.Proofs.Ytccogmkhijgelaa
namespace Go.Proofs.Ytccogmkhijgelaa
def EarR (F : Heap) (u : Go.Value) (s : Stm) (E : Edges) : Prop := fitsE s E = true ∧ Ints F u (iL (firstY s E) s.editions.length) ∨ fitsE s E = false ∧ u = .slice none 0 0
theorem EarR.mono {F F' : Heap} {u : Go.Value} {s : Stm} {E : Edges} (h : EarR F u s E) (hF : F.le F') : EarR F' u s E := h.elim (fun h => .inl ⟨h.1, h.2.mono hF⟩) .inr
theorem EarR.nil {F : Heap} {u : Go.Value} {s : Stm} {E : Edges} (h : EarR F u s E) (hn : 0 < s.editions.length) : ∃ a k c, u = .slice a k c ∧ (decide (a = none)) = !(fitsE s E) := by
 rcases h with ⟨h1, h2⟩ | ⟨h1, rfl⟩
 · obtain ⟨a, c, rfl, -, g2, -, -⟩ := h2.plain
   refine ⟨a, _, c, rfl, ?_⟩
   rw [h1]
   refine decide_eq_false fun h => ?_
   have := (g2 h).1
   rw [Ee] at this
   omega
 · exact ⟨none, 0, 0, rfl, by rw [h1]; rfl⟩
section
variable {s : Stm} {l : List Int} {M : Edges} {r i q : Nat} {cur : Nat → Int}
end
end Go.Proofs.Ytccogmkhijgelaa
namespace Go.Proofs.Ytccogmkhijgelaa
def diffN (l : List ByteArray) : Prop := l.Pairwise fun a b => sameS a b = false
theorem diffN_iff {α : Type} {f : α → ByteArray} {l : List α} : diffN (l.map f) ↔ ∀ j (hj : j < l.length), (l.take j).any (fun y => sameS (f y) (f l[j])) = false := by
 unfold diffN
 rw [List.pairwise_map, List.pairwise_iff_getElem]
 constructor
 · intro h j hj
   rw [List.any_eq_false]
   intro y hy
   obtain ⟨i, hi, rfl⟩ := List.getElem_of_mem hy
   rw [List.length_take] at hi
   rw [List.getElem_take]
   rw [h i j (by omega) hj (by omega)]; simp
 · intro h i j hi hj hij
   have := List.any_eq_false.1 (h j hj) l[i] (by rw [List.mem_iff_getElem]; exact ⟨i, by rw [List.length_take]; omega, by rw [List.getElem_take]⟩)
   simpa using this
structure CheckOk (s : Stm) : Prop where
 np : inB 1 6 s.places.length = true
 pl : ∀ x ∈ s.places, nameOk x.name = true ∧ inB 0 1 x.kind = true
 pn : diffN (s.places.map (·.name))
 ne : inB 1 5 s.editions.length = true
 ed : ∀ x ∈ s.editions, nameOk x.name = true ∧ ednErr s x = 0
 en : diffN (s.editions.map (·.name))
theorem check_ok {s : Stm} : (checkT s).2.2 = 0 ↔ CheckOk s := by
 constructor
 · intro h
   obtain ⟨h1, h2, h3, h4⟩ := checkT_none h
   have hp : ∀ k (hk : k < s.places.length), nameOk s.places[k].name = true ∧ (s.places.take k).any (fun y => sameS y.name s.places[k].name) = false ∧ inB 0 1 s.places[k].kind = true := fun k hk => by
     have := h2 k hk
     rw [Ed hk] at this
     split at this
     · cases this
     · split at this
       · cases this
       · split at this
         · cases this
         · rename_i a b c; exact ⟨by simpa using a, by simpa using b, by simpa using c⟩
   have he : ∀ k (hk : k < s.editions.length), nameOk s.editions[k].name = true ∧ (s.editions.take k).any (fun y => sameS y.name s.editions[k].name) = false ∧ ednErr s s.editions[k] = 0 := fun k hk => by
     have := h4 k hk
     rw [Ds hk] at this
     rw [ed_at hk]
     split at this
     · cases this
     · split at this
       · cases this
       · rename_i a b; exact ⟨by simpa using a, by simpa using b, this⟩
   refine ⟨h1, fun x hx => ?_, diffN_iff.2 fun j hj => (hp j hj).2.1, h3, fun x hx => ?_, diffN_iff.2 fun j hj => (he j hj).2.1⟩
   · obtain ⟨k, hk, rfl⟩ := List.getElem_of_mem hx
     exact ⟨(hp k hk).1, (hp k hk).2.2⟩
   · obtain ⟨k, hk, rfl⟩ := List.getElem_of_mem hx
     exact ⟨(he k hk).1, (he k hk).2.2⟩
 · intro h
   have hp : firstQ s.places.length (plcErr s) = (0, 0) := firstQ_ok fun k hk => by
     have h1 := h.pl _ (List.getElem_mem hk)
     have h2 := diffN_iff.1 h.pn k hk
     rw [Ed hk, h1.1, h2, h1.2]; rfl
   have he : firstQ s.editions.length (edErr s) = (0, 0) := firstQ_ok fun k hk => by
     have h1 := h.ed _ (List.getElem_mem hk)
     have h2 := diffN_iff.1 h.en k hk
     rw [Ds hk, ← ed_at hk, h1.1, h2, h1.2]; rfl
   unfold checkT
   rw [if_neg (by rw [h.np]; simp), hp, if_neg (by simp), if_neg (by rw [h.ne]; simp), he, if_neg (by simp)]
section
variable {s s' : Stm} {l : List Int}
theorem least_len (hl : l.length = s.editions.length) {p : Nat} (h : leastL s l p < 1000) : leastL s l p ≤ l.length := by
 obtain ⟨g, -, -, h1⟩ := least_some hl h
 rw [← h1]; exact D6.2
theorem sum_le_mul {n : Nat} {f : Nat → Int} {c : Int} (h : ∀ i, i < n → f i ≤ c) : sumN n f ≤ n * c := by
 induction n with
 | zero => simp [sumN]
 | succ n ih =>
   have h1 := ih fun i hi => h i (by omega)
   have h2 := h n (by omega)
   simp only [sumN]
   have h3 : ((n + 1 : Nat) : Int) * c = (n : Int) * c + c := by push_cast; rw [Int.add_mul, Int.one_mul]
   rw [h3]; omega
theorem cost_iff (hv : ValidT s) (hl : l.length = s.editions.length) : costL s l < 1000 ↔ fitsT s l = true ∧ ∀ p, p < s.places.length → leastL s l p < 1000 := by
 constructor
 · exact fun h => ⟨fit_of_cost h, (cost_sum h).2⟩
 · rintro ⟨h1, h2⟩
   unfold fitsT at h1
   unfold costL
   rw [if_pos h1]
   have h3 := sum_le_mul (n := s.places.length) (f := leastL s l) (c := 5) fun p hp => by
     have := least_len hl (h2 p hp)
     have := hv.ne
     omega
   have h4 := hv.np
   have h5 : (s.places.length : Int) * 5 ≤ 6 * 5 := Int.mul_le_mul_of_nonneg_right (by omega) (by omega)
   omega
theorem least_mono {p p' : Nat} (hl : l.length = s.editions.length) (hl' : l.length = s'.editions.length) (hin : TreeIn l) (h : ∀ g, Filling s' l p' g → Possible s' l p' g → Filling s l p g ∧ Possible s l p g) : leastL s l p ≤ leastL s' l p' :=
 le_least Dj.2 hl' fun g h1 h2 => leastL_le hin hl (h g h1 h2).1 (h g h1 h2).2
theorem least_same {p p' : Nat} (hl : l.length = s.editions.length) (hl' : l.length = s'.editions.length) (hin : TreeIn l) (h : ∀ g, (Filling s' l p' g ∧ Possible s' l p' g) ↔ (Filling s l p g ∧ Possible s l p g)) : leastL s l p = leastL s' l p' :=
 Int.le_antisymm (least_mono hl hl' hin fun g h1 h2 => (h g).1 ⟨h1, h2⟩) (least_mono hl' hl hin fun g h1 h2 => (h g).2 ⟨h1, h2⟩)
theorem climb_base_congr {E : Edges} {b b' : Nat → Int} {n : Nat} (hE : ∀ e ∈ E, e.1 < n ∧ e.2 < n) (h : ∀ i, i < n → b i = b' i) : ∀ f i, i < n → climb E b f i = climb E b' f i := by
 intro f
 induction f with
 | zero => exact h
 | succ f ih =>
   intro i hi
   have one : ∀ c c' : Nat → Int, (∀ i, i < n → c i = c' i) → (∀ i, i < n → climb E c f i = climb E c' f i) → climb E c (f + 1) i ≤ climb E c' (f + 1) i := fun c c' h ih => by
     refine D2.2 ⟨by rw [h i hi]; exact C3, fun e he hei => ?_⟩
     rw [ih _ (hE e he).1]
     have := climb_edge (f := f) (base := c') he
     rw [hei] at this
     exact this
   exact Int.le_antisymm (one _ _ h ih) (one _ _ (fun i hi => (h i hi).symm) fun i hi => (ih i hi).symm)
theorem fits_years (ht : IsTree l) (hl : l.length = s.editions.length) (hl' : l.length = s'.editions.length) (h : ∀ i, i < l.length → (s'.ed i).lo = (s.ed i).lo ∧ (s'.ed i).hi = (s.ed i).hi) : fitsT s' l = fitsT s l := by
 unfold fitsT
 rw [Bool.eq_iff_iff, fitsE_iff, fitsE_iff]
 have hd := ht.dag
 have e : ∀ i, i < l.length → firstY s' (treeE l) i = firstY s (treeE l) i := fun i hi => by
   unfold firstY
   rw [← hl, ← hl']
   exact climb_base_congr hd.1 (fun i hi => (h i hi).1) _ i hi
 rw [← hl, ← hl']
 constructor
 · intro h1 i hi; rw [← e i hi, ← (h i hi).2]; exact h1 i hi
 · intro h1 i hi; rw [e i hi, (h i hi).2]; exact h1 i hi
end
section
variable {s : Stm} {l : List Int} {x p : Nat} {v : Int}
end
end Go.Proofs.Ytccogmkhijgelaa
namespace Go.Proofs.Ytccogmkhijgelaa
section
variable {s : Stm} {l : List Int} {x p : Nat}
end
theorem best_least {s : Stm} {l : List Int} (hl : l.length = s.editions.length) (ht : IsTree l) (hc : costL s l < 1000) : bestsM s ≤ costL s l ∧ bestsL s ≠ [] ∧ (costL s l = bestsM s → l ∈ bestsL s) := by
 have h1 : l ∈ allTrees s := Cy.2 ⟨hl, ht, fit_of_cost hc⟩
 have h2 := bestsM_le h1
 refine ⟨h2, fun h => ?_, fun h => Eb.2 ⟨h1, h, hc⟩⟩
 have := bestsL_nil.1 h
 omega
end Go.Proofs.Ytccogmkhijgelaa
namespace Go.Proofs.Ytccogmkhijgelaa
open Go.RowKit
theorem bd_46 : Body Try.prog 46 := Bn (by kernel_rfl)
end Go.Proofs.Ytccogmkhijgelaa
namespace Go.Proofs.Ytccogmkhijgelaa
theorem sum_hit {m i : Nat} {σ : Nat → Nat} {c : Int} (hc : 0 ≤ c) (hinj : ∀ j k, j < m → k < m → σ j = σ k → j = k) : sumN m (fun k => if σ k = i then c else 0) ≤ c := by
 by_cases h : ∃ k, k < m ∧ σ k = i
 · obtain ⟨k, hk, he⟩ := h
   rw [Ca (g := fun q => if k = q then c else 0) fun q hq => ?_, sumN_one hk]
   · exact Int.le_refl _
   · by_cases h1 : k = q
     · subst h1; rw [if_pos he, if_pos rfl]
     · rw [if_neg h1, if_neg fun h2 => h1 (hinj k q hk hq (by rw [he, h2]))]
 · rw [Ca (g := fun _ => 0) fun q hq => if_neg fun h1 => h ⟨q, hq, h1⟩, sumN_zero]
   exact hc
theorem sum_emb {m n : Nat} {σ : Nat → Nat} {f : Nat → Int} (hlt : ∀ k, k < m → σ k < n) (hinj : ∀ j k, j < m → k < m → σ j = σ k → j = k) (hf : ∀ i, i < n → 0 ≤ f i) : sumN m (fun k => f (σ k)) ≤ sumN n f := by
 have e1 : ∀ k, k < m → sumN n (fun i => if σ k = i then f i else 0) = f (σ k) := fun k hk => by
   rw [Ca (f := fun i => if σ k = i then f i else 0) (g := fun i => if σ k = i then f (σ k) else 0) (fun i _ => by by_cases h : σ k = i <;> simp [h])]
   exact sumN_one (hlt k hk)
 have e : sumN m (fun k => f (σ k)) = sumN m fun k => sumN n fun i => if σ k = i then f i else 0 := Ca fun k hk => (e1 k hk).symm
 rw [e, sumN_swap]
 exact sumN_le fun i hi => sum_hit (hf i hi) hinj
structure Emb (l l' : List Int) (σ : Nat → Nat) : Prop where
 lt : ∀ k, k < l'.length → σ k < l.length
 inj : ∀ j k, j < l'.length → k < l'.length → σ j = σ k → j = k
 up : ∀ k, k < l'.length → (upN l' k = -1 ∧ upN l (σ k) = -1) ∨ ∃ q : Nat, q < l'.length ∧ upN l' k = (q : Int) ∧ upN l (σ k) = (σ q : Int)
theorem tree_rank {l : List Int} (hin : TreeIn l) (hr : ∃ ρ : Nat → Nat, ∀ (i k : Nat), i < l.length → upN l i = (k : Int) → ρ k < ρ i) (h1 : firstsN l l.length = 1) : IsTree l := by
 obtain ⟨ρ, hρ⟩ := hr
 refine ⟨hin, fun i hi => ?_, h1⟩
 have key : ∀ d i, i < l.length → rankC ρ l.length i ≤ d → reach l d i = true := by
   intro d
   induction d with
   | zero =>
     intro i hi hd
     by_cases hu : upN l i = -1
     · exact reach_end hu
     · obtain ⟨j, hj, hjl⟩ := hin.nat hi hu
       have := rankC_lt (n := l.length) hjl (hρ i j hi hj)
       omega
   | succ d ih =>
     intro i hi hd
     by_cases hu : upN l i = -1
     · exact reach_end hu
     · obtain ⟨j, hj, hjl⟩ := hin.nat hi hu
       have := rankC_lt (n := l.length) hjl (hρ i j hi hj)
       rw [D9 hj]
       exact ih j hjl (by omega)
 exact key _ i hi rankC_le
section
variable {l l' : List Int} {σ : Nat → Nat} {s s' : Stm}
theorem Emb.root (h : Emb l l' σ) {k : Nat} (hk : k < l'.length) (hu : upN l' k = -1) : upN l (σ k) = -1 := by
 rcases h.up k hk with ⟨-, h1⟩ | ⟨q, -, h2, -⟩
 · exact h1
 · omega
theorem Emb.edge (h : Emb l l' σ) {k q : Nat} (hk : k < l'.length) (hu : upN l' k = (q : Int)) : q < l'.length ∧ upN l (σ k) = (σ q : Int) := by
 rcases h.up k hk with ⟨h1, -⟩ | ⟨q', h1, h2, h3⟩
 · omega
 · obtain rfl : q' = q := by omega
   exact ⟨h1, h3⟩
theorem Emb.in_ (h : Emb l l' σ) : TreeIn l' := fun i hi => by
 rcases h.up i hi with ⟨h1, -⟩ | ⟨q, h1, h2, -⟩ <;> omega
theorem Emb.tree (h : Emb l l' σ) (ht : IsTree l) (hr : ∃ r, r < l'.length ∧ upN l' r = -1) : IsTree l' := by
 obtain ⟨r, hr, hru⟩ := hr
 refine tree_rank h.in_ ⟨fun k => dep l l.length (σ k), fun i k hi hk => ?_⟩ ?_
 · have h3 := (h.edge hi hk).2
   show dep l l.length (σ k) < dep l l.length (σ i)
   rw [dep_edge h3 (ht.reach _ (h.lt i hi))]; omega
 · rw [firsts_uniq (r := r) hru fun i hi hu => ?_, if_pos hr]
   exact h.inj i r hi hr (En (l := l) (σ i) (σ r) (h.lt i hi) (h.lt r hr) (h.root hi hu) (h.root hr hru) (by rw [ht.one]; exact Int.le_refl _))
theorem Emb.same (h : Emb l l' σ) {g : Nat → Int} {k : Nat} (hk : k < l'.length) : chg l' (fun k => g (σ k)) k = chg l g (σ k) := by
 unfold chg
 rcases h.up k hk with ⟨h1, h2⟩ | ⟨q, h1, h2, h3⟩
 · rw [if_pos h1, if_pos h2]
 · rw [if_neg (show ¬ upN l' k = -1 by omega), if_neg (show ¬ upN l (σ k) = -1 by omega), h2, h3, Int.toNat_natCast, Int.toNat_natCast]
theorem Emb.changes (h : Emb l l' σ) {g : Nat → Int} : changesOf l' (fun k => g (σ k)) ≤ changesOf l g := by
 unfold changesOf
 rw [Ca fun k hk => h.same hk]
 exact sum_emb (f := chg l g) h.lt h.inj fun i _ => chg_bound.1
/-- The editions are the same, and the places. -/
structure EmbS (s s' : Stm) (l l' : List Int) (σ : Nat → Nat) : Prop extends Emb l l' σ where
 len : l.length = s.editions.length
 len' : l'.length = s'.editions.length
 pl : s'.places = s.places
 ed : ∀ k, k < l'.length → s'.ed k = s.ed (σ k)
theorem EmbS.least (h : EmbS s s' l l' σ) {p : Nat} : leastL s' l' p ≤ leastL s l p := by
 have hfr : freeP s' p = freeP s p := by unfold freeP Stm.pl; rw [h.pl]
 refine le_least Dj.2 h.len fun g h1 h2 => Int.le_trans (leastL_le (g := fun k => g (σ k)) h.in_ h.len' ⟨fun i hi => h1.val _ (h.lt i hi), fun i hi => ?_⟩ fun i hi hu => ?_) h.changes
 · have := h1.fit _ (h.lt i hi)
   unfold fitR Stm.r at this ⊢
   rw [h.ed i hi]; exact this
 · obtain ⟨q, hq, hql⟩ := h.in_.nat hi hu
   have h3 := (h.edge hi hq).2
   have := h2 _ (h.lt i hi) (by omega)
   rw [h3, Int.toNat_natCast] at this
   rw [hq, Int.toNat_natCast, hfr]; exact this
theorem EmbS.fits (h : EmbS s s' l l' σ) (ht : IsTree l) (ht' : IsTree l') (hf : fitsT s l = true) : fitsT s' l' = true := by
 unfold fitsT at hf ⊢
 rw [fitsE_iff] at hf ⊢
 intro i hi
 rw [← h.len'] at hi
 have hd := ht'.dag
 have := climb_least (base := fun i => (s'.ed i).lo) hd.1 (L := fun k => firstY s (treeE l) (σ k)) (fun k hk => by show (s'.ed k).lo ≤ _; rw [h.ed k hk]; exact firstY_lo) (fun e he => by
   obtain ⟨h1, h2, h3⟩ := ht'.edge he
   exact (years_edge ht h.len (h.lt _ h2) (h.edge h2 h3).2).1) s'.editions.length i hi
 have h4 := hf (σ i) (by rw [← h.len]; exact h.lt i hi)
 unfold firstY
 rw [h.ed i hi]
 exact Int.le_trans this h4
/-- No fewer at each place: no fewer in all. -/
theorem cost_le2 (hv : ValidT s) (hl : l.length = s.editions.length) (hp : s'.places.length = s.places.length) (hf : fitsT s' l' = true → fitsT s l = true) (h : ∀ p, p < s.places.length → leastL s l p ≤ leastL s' l' p) (hc : costL s' l' < 1000) : costL s l < 1000 ∧ costL s l ≤ costL s' l' := by
 obtain ⟨h1, h2⟩ := cost_sum hc
 have h3 : costL s l < 1000 := (cost_iff hv hl).2 ⟨hf (fit_of_cost hc), fun p hp' => by have := h p hp'; have := h2 p (by omega); omega⟩
 refine ⟨h3, ?_⟩
 rw [h1, (cost_sum h3).1, hp]
 exact sumN_le h
theorem EmbS.cost (h : EmbS s s' l l' σ) (hv' : ValidT s') (ht : IsTree l) (ht' : IsTree l') (hc : costL s l < 1000) : costL s' l' < 1000 ∧ costL s' l' ≤ costL s l :=
 cost_le2 hv' h.len' (by rw [h.pl]) (h.fits ht ht') (fun _ _ => h.least) hc
end
section
variable {s : Stm} {l : List Int} {i : Nat}
end
def backS (s : Stm) : Stm := ⟨s.places, s.editions.reverse⟩
section
variable {s : Stm} {l : List Int}
end
end Go.Proofs.Ytccogmkhijgelaa
namespace Go.Proofs.Ytccogmkhijgelaa
def Edn.sub (x : Edn) (P : List Nat) : Edn := ⟨x.name, x.lo, x.hi, P.map fun p => x.rd[p]?.getD 0⟩
def subS (s : Stm) (b : Nat → Bool) : Stm := ⟨(selN b s.places.length).map s.pl, s.editions.map fun x => x.sub (selN b s.places.length)⟩
theorem sum_sel {b : Nat → Bool} {f : Nat → Int} : ∀ n, sumN (selN b n).length (fun q => f ((selN b n)[q]?.getD 0)) = sumN n fun p => if b p = true then f p else 0
 | 0 => rfl
 | n + 1 => by
   have ih := sum_sel (b := b) (f := f) n
   simp only [sumN]
   rw [C8, ← ih]
   by_cases h : b n = true
   · rw [if_pos h, if_pos h, List.length_append, List.length_singleton]
     simp only [sumN]
     rw [Ca (g := fun q => f ((selN b n)[q]?.getD 0)) fun q hq => by rw [List.getElem?_append_left hq]]
     rw [List.getElem?_append_right (Nat.le_refl _)]
     simp
   · rw [if_neg h, if_neg h, Int.add_zero]
section
variable {s : Stm} {b : Nat → Bool} {l : List Int}
theorem sub_elen : (subS s b).editions.length = s.editions.length := by simp [subS]
theorem sub_plen : (subS s b).places.length = (selN b s.places.length).length := by simp [subS]
theorem sub_ed {i : Nat} (hi : i < s.editions.length) : (subS s b).ed i = (s.ed i).sub (selN b s.places.length) := by simp [Stm.ed, subS, hi]
theorem sub_r {i q : Nat} (hi : i < s.editions.length) (hq : q < (selN b s.places.length).length) : (subS s b).r i q = s.r i (selN b s.places.length)[q] := by
 unfold Stm.r
 rw [sub_ed hi]
 simp [Edn.sub, hq]
theorem sub_pl {q : Nat} (hq : q < (selN b s.places.length).length) : (subS s b).pl q = s.pl (selN b s.places.length)[q] := by simp [Stm.pl, subS, hq]
theorem sub_check (h0 : (checkT s).2.2 = 0) (hb : (selN b s.places.length).length ≠ 0) : (checkT (subS s b)).2.2 = 0 := by
 have h := check_ok.1 h0
 have hv := Cz h0
 rw [check_ok]
 have hr : (List.range s.places.length).map s.pl = s.places := by
   apply List.ext_getElem
   · simp
   · intro i h1 h2; simp [pl_at h2]
 have hsub : ((selN b s.places.length).map s.pl).Sublist s.places := by
   conv => rhs; rw [← hr]
   exact List.Sublist.map _ List.filter_sublist
 refine ⟨?_, fun x hx => h.pl x (hsub.subset hx), ?_, by rw [sub_elen]; exact h.ne, fun x hx => ?_, ?_⟩
 · have h1 : (selN b s.places.length).length ≤ s.places.length := C7
   have h2 := hv.np
   rw [sub_plen]
   simp [inB]; omega
 · have := h.pn
   unfold diffN at this ⊢
   exact this.sublist (hsub.map _)
 · obtain ⟨y, hy, rfl⟩ := List.mem_map.1 hx
   have h1 := h.ed y hy
   refine ⟨h1.1, ?_⟩
   have h2 := h1.2
   unfold ednErr at h2 ⊢
   split at h2
   · cases h2
   · rename_i k1
     split at h2
     · cases h2
     · rename_i k2
       split at h2
       · cases h2
       · rename_i k3
         split at h2
         · cases h2
         · rename_i k4
           rw [if_neg (show ¬ (inB 1450 1850 (y.sub (selN b s.places.length)).lo && inB 1450 1850 (y.sub (selN b s.places.length)).hi) = false from k1), if_neg (show ¬ (y.sub (selN b s.places.length)).hi < (y.sub (selN b s.places.length)).lo from k2), if_neg (by rw [sub_plen]; simp [Edn.sub]), if_neg]
           intro h5
           rw [List.any_eq_true] at h5
           obtain ⟨z, hz, hb⟩ := h5
           obtain ⟨p, hp, rfl⟩ := List.mem_map.1 hz
           have hpl : p < y.rd.length := by have := selN_lt p hp; omega
           have : (y.rd.any fun z => !(inB 0 3 z)) = false := by simpa using k4
           have h6 := List.any_eq_false.1 this y.rd[p] (List.getElem_mem hpl)
           rw [List.getElem?_eq_getElem hpl, Option.getD_some] at hb
           exact h6 hb
 · have := h.en
   unfold subS
   simp only [List.map_map]
   exact this
theorem sub_least (hl : l.length = s.editions.length) (hin : TreeIn l) {q : Nat} (hq : q < (selN b s.places.length).length) : leastL (subS s b) l q = leastL s l (selN b s.places.length)[q] := by
 have hfr : freeP (subS s b) q = freeP s (selN b s.places.length)[q] := by unfold freeP; rw [sub_pl hq]
 have hfit : ∀ i, i < l.length → ∀ a, fitR (subS s b) q i a ↔ fitR s (selN b s.places.length)[q] i a := fun i hi a => by unfold fitR; rw [sub_r (by omega) hq]
 have hl' : l.length = (subS s b).editions.length := by rw [sub_elen]; exact hl
 refine least_same hl' hl hin fun g => ?_
 constructor
 · rintro ⟨h1, h2⟩
   exact ⟨⟨h1.val, fun i hi => (hfit i hi _).2 (h1.fit i hi)⟩, fun i hi hu => by rw [hfr]; exact h2 i hi hu⟩
 · rintro ⟨h1, h2⟩
   exact ⟨⟨h1.val, fun i hi => (hfit i hi _).1 (h1.fit i hi)⟩, fun i hi hu => by rw [← hfr]; exact h2 i hi hu⟩
theorem sub_fits (hl : l.length = s.editions.length) (ht : IsTree l) : fitsT (subS s b) l = fitsT s l :=
 fits_years ht hl (by rw [sub_elen]; exact hl) fun i hi => by rw [sub_ed (by omega)]; exact ⟨rfl, rfl⟩
theorem sum_least (hl : l.length = s.editions.length) (hin : TreeIn l) : sumN (subS s b).places.length (leastL (subS s b) l) = sumN s.places.length fun p => if b p = true then leastL s l p else 0 := by
 rw [← sum_sel (f := leastL s l), sub_plen]
 exact Ca fun q hq => by rw [sub_least hl hin hq, List.getElem?_eq_getElem hq]; rfl
theorem sub_cost (h0 : (checkT s).2.2 = 0) (hb : (selN b s.places.length).length ≠ 0) (hl : l.length = s.editions.length) (ht : IsTree l) (hf : fitsT s l = true) (h : ∀ p, p < s.places.length → b p = true → leastL s l p < 1000) :
   costL (subS s b) l < 1000 ∧ costL (subS s b) l = sumN s.places.length fun p => if b p = true then leastL s l p else 0 := by
 have hc : costL (subS s b) l < 1000 := (cost_iff (Cz (sub_check h0 hb)) (by rw [sub_elen]; exact hl)).2 ⟨by rw [sub_fits hl ht]; exact hf, fun q hq => by
   rw [sub_plen] at hq
   rw [sub_least hl ht.in_ hq]
   have hm := List.getElem_mem hq
   exact h _ (selN_lt _ hm) (List.mem_filter.1 hm).2⟩
 exact ⟨hc, by rw [(cost_sum hc).1, sum_least hl ht.in_]⟩
end
def oneS (s : Stm) (p : Nat) : Stm := ⟨s.places.set p ⟨(s.pl p).name, 1⟩, s.editions⟩
section
variable {s : Stm} {l : List Int} {p : Nat}
end
section
variable {s : Stm} {l : List Int} {p : Nat}
theorem metB_iff {v : Nat} : metB s p v = true ↔ ∃ i, i < s.editions.length ∧ s.r i p = (v : Int) := by
 unfold metB
 rw [List.any_eq_true]
 exact ⟨fun ⟨i, hi, h⟩ => ⟨i, List.mem_range.1 hi, of_decide_eq_true h⟩, fun ⟨i, hi, h⟩ => ⟨i, List.mem_range.2 hi, decide_eq_true h⟩⟩
theorem met_edge (ht : IsTree l) {g : Nat → Int} {r : Nat} (hr : r < l.length) (hru : upN l r = -1) {v : Int} (hgr : g r ≠ v) : ∀ d i, i < l.length → reach l d i = true → g i = v → ∃ k, k < l.length ∧ g k = v ∧ chg l g k = 1 := by
 have huniq : ∀ k, k < l.length → upN l k = -1 → k = r := fun k hk hu => En k r hk hr hu hru (by rw [ht.one]; exact Int.le_refl _)
 intro d
 induction d with
 | zero => intro i hi h hg; have := huniq i hi (by simpa [reach] using h); subst this; exact absurd hg hgr
 | succ d ih =>
   intro i hi h hg
   by_cases h1 : upN l i = -1
   · have := huniq i hi h1; subst this; exact absurd hg hgr
   · obtain ⟨q, hq, hql⟩ := ht.in_.nat hi h1
     rw [D9 hq] at h
     by_cases h2 : g q = v
     · exact ih q hql h h2
     · exact ⟨i, hi, hg, by rw [chg_at hq, if_neg (by omega)]⟩
theorem need_le (ht : IsTree l) (hl : l.length = s.editions.length) : needN s p ≤ leastL s l p := by
 have hb := needN_bound (s := s) (p := p)
 refine le_least (by omega) hl fun g h1 h2 => ?_
 obtain ⟨r, -, hr, hru⟩ := root_at ht
 let e : Int → Int := fun v => sumN l.length fun k => if g k = v then chg l g k else 0
 have hsum : changesOf l g = e 1 + e 2 + e 3 := by
   show changesOf l g = sumN l.length _ + sumN l.length _ + sumN l.length _
   rw [← sumN_add, ← sumN_add]
   refine Ca fun k hk => ?_
   have := h1.val k hk
   have h3 : g k = 1 ∨ g k = 2 ∨ g k = 3 := by omega
   rcases h3 with h | h | h <;> simp [h]
 have hnn : ∀ v, 0 ≤ e v := fun v => sumN_nonneg fun k _ => by split; exact chg_bound.1; exact Int.le_refl _
 have hmet : ∀ v : Nat, 1 ≤ v → metB s p v = true → g r = v ∨ 1 ≤ e v := fun v hv hm => by
   by_cases hg : g r = v
   · exact .inl hg
   · right
     obtain ⟨i, hi, hri⟩ := metB_iff.1 hm
     have hfit := h1.fit i (by omega)
     unfold fitR at hfit
     obtain ⟨k, hk, hk1, hk2⟩ := met_edge ht hr hru hg _ i (by omega) (ht.reach i (by omega)) (by omega)
     have := sumN_mem (n := l.length) (i := k) (f := fun k => if g k = (v : Int) then chg l g k else 0) (fun k _ => by show 0 ≤ if g k = (v : Int) then chg l g k else 0; split; exact chg_bound.1; exact Int.le_refl _) hk
     simp only [if_pos hk1, hk2] at this
     exact this
 have hn : needN s p = max 0 ((if metB s p 1 = true then 1 else 0) + (if metB s p 2 = true then 1 else 0) + (if metB s p 3 = true then 1 else 0) - 1) := by
   have e : kindsN s p = (if metB s p 1 = true then 1 else 0) + (if metB s p 2 = true then 1 else 0) + (if metB s p 3 = true then 1 else 0) := by
     show ((0 + (if metB s p 1 = true then (1 : Int) else 0)) + (if metB s p 2 = true then 1 else 0)) + (if metB s p 3 = true then 1 else 0) = _
     rw [Int.zero_add]
   unfold needN
   rw [e]
 have a1 := hmet 1 (by omega)
 have a2 := hmet 2 (by omega)
 have a3 := hmet 3 (by omega)
 have n1 := hnn 1
 have n2 := hnn 2
 have n3 := hnn 3
 have hgv := h1.val r hr
 rw [hsum, hn]
 cases q1 : metB s p 1 <;> cases q2 : metB s p 2 <;> cases q3 : metB s p 3 <;> simp only [q1, q2, q3] at a1 a2 a3 <;> simp at a1 a2 a3 ⊢ <;> omega
theorem need_sub {b : Nat → Bool} {q : Nat} (hq : q < (selN b s.places.length).length) : needN (subS s b) q = needN s (selN b s.places.length)[q] := by
 have : ∀ v, metB (subS s b) q v = metB s (selN b s.places.length)[q] v := fun v => by
   rw [Bool.eq_iff_iff, metB_iff, metB_iff, sub_elen]
   constructor
   · rintro ⟨i, hi, h⟩; exact ⟨i, hi, by rw [← sub_r hi hq]; exact h⟩
   · rintro ⟨i, hi, h⟩; exact ⟨i, hi, by rw [sub_r hi hq]; exact h⟩
 unfold needN kindsN kindTo
 rw [Ca fun j _ => by rw [this (j + 1)]]
/-- What the places need, together. -/
def kindsS (s : Stm) : Int := sumN s.places.length (needN s)
theorem kinds_sub {b : Nat → Bool} : kindsS (subS s b) = sumN s.places.length fun p => if b p = true then needN s p else 0 := by
 unfold kindsS
 rw [← sum_sel (f := needN s), sub_plen]
 exact Ca fun q hq => by rw [need_sub hq, List.getElem?_eq_getElem hq]; rfl
theorem kinds_le (ht : IsTree l) (hl : l.length = s.editions.length) (hc : costL s l < 1000) : kindsS s ≤ costL s l := by
 rw [(cost_sum hc).1]
 exact sumN_le fun p _ => need_le ht hl
theorem kinds_best (h : bestsL s ≠ []) : kindsS s ≤ bestsM s := by
 obtain ⟨l, hl⟩ := List.exists_mem_of_ne_nil _ h
 obtain ⟨h1, h2, h3⟩ := Eb.1 hl
 obtain ⟨k1, k2, -⟩ := Cy.1 h1
 rw [← h2]; exact kinds_le k2 k1 h3
theorem clean_min {s : Stm} {xs : List (List Int)} : (cleanR s xs = none ↔ xs = []) ∧ ∀ b, cleanR s xs = some b → (∃ t ∈ xs, b = uncleanL s t) ∧ ∀ t ∈ xs, b.length ≤ (uncleanL s t).length := by
 induction xs using snoc_ind with
 | h0 => exact ⟨⟨fun _ => rfl, fun _ => rfl⟩, fun b h => by cases h⟩
 | h1 xs t ih =>
   rw [Eh]
   cases hc : cleanR s xs with
   | none =>
     have hx := ih.1.1 hc
     subst hx
     refine ⟨⟨fun h => (by cases h), fun h => (by simp at h)⟩, fun b h => ?_⟩
     simp only [cleanStep, Option.some.injEq] at h
     subst h
     exact ⟨⟨t, by simp, rfl⟩, fun t' ht' => by simp at ht'; subst ht'; exact Nat.le_refl _⟩
   | some c =>
     obtain ⟨⟨u, hu, rfl⟩, hmin⟩ := ih.2 c hc
     refine ⟨⟨fun h => ?_, fun h => by simp at h⟩, fun b h => ?_⟩
     · simp only [cleanStep] at h; split at h <;> cases h
     · simp only [cleanStep] at h
       split at h
       · rename_i hlt
         simp only [Option.some.injEq] at h
         subst h
         refine ⟨⟨t, by simp, rfl⟩, fun t' ht' => ?_⟩
         rcases List.mem_append.1 ht' with ht' | ht'
         · have := hmin t' ht'; omega
         · simp at ht'; subst ht'; exact Nat.le_refl _
       · rename_i hlt
         simp only [Option.some.injEq] at h
         subst h
         refine ⟨⟨u, by simp [hu], rfl⟩, fun t' ht' => ?_⟩
         rcases List.mem_append.1 ht' with ht' | ht'
         · exact hmin t' ht'
         · simp at ht'; subst ht'; omega
theorem unclean_mem {p : Nat} : p ∈ uncleanL s l ↔ p < s.places.length ∧ leastL s l p ≠ needN s p := by
 unfold uncleanL selN uncleanB
 rw [List.mem_filter, List.mem_range, decide_eq_true_eq]
def inNB (b : List Nat) (p : Nat) : Bool := decide (p ∈ b)
/-- Without the places of Clean some tree is clean. -/
theorem clean_rest (h0 : (checkT s).2.2 = 0) {b : List Nat} (hb : cleanR s (allTrees s) = some b) (hn : (selN (fun p => !(inNB b p)) s.places.length).length ≠ 0) : bestsL (subS s fun p => !(inNB b p)) ≠ [] ∧ bestsM (subS s fun p => !(inNB b p)) = kindsS (subS s fun p => !(inNB b p)) := by
 obtain ⟨⟨t, ht, rfl⟩, -⟩ := clean_min.2 b hb
 obtain ⟨h1, h2, h3⟩ := Cy.1 ht
 have hle : ∀ p, p < s.places.length → (!(inNB (uncleanL s t) p)) = true → leastL s t p = needN s p := fun p hp h => by
   unfold inNB at h
   rw [Bool.not_eq_true', decide_eq_false_iff_not, unclean_mem] at h
   exact Classical.not_not.1 fun k => h ⟨hp, k⟩
 obtain ⟨h4, h5⟩ := sub_cost h0 hn h1 h2 h3 fun p hp h => by have := hle p hp h; have := needN_bound (s := s) (p := p); omega
 have h6 : costL (subS s fun p => !(inNB (uncleanL s t) p)) t = kindsS (subS s fun p => !(inNB (uncleanL s t) p)) := by
   rw [h5, kinds_sub]
   exact Ca fun p hp => by
     by_cases h : (!(inNB (uncleanL s t) p)) = true
     · rw [if_pos h, if_pos h, hle p hp h]
     · rw [if_neg h, if_neg h]
 obtain ⟨h7, h8, -⟩ := best_least (s := subS s fun p => !(inNB (uncleanL s t) p)) (by rw [sub_elen]; exact h1) h2 h4
 refine ⟨h8, ?_⟩
 have := kinds_best h8
 omega
theorem sum_tight {n : Nat} {f g : Nat → Int} (h : ∀ i, i < n → f i ≤ g i) (hs : sumN n g ≤ sumN n f) : ∀ i, i < n → f i = g i := by
 induction n with
 | zero => intro i hi; omega
 | succ n ih =>
   have h1 := sumN_le (n := n) fun i hi => h i (by omega)
   have h2 := h n (by omega)
   simp only [sumN] at hs
   intro i hi
   by_cases hin : i = n
   · subst hin; omega
   · exact ih (fun i hi => h i (by omega)) (by omega) i (by omega)
/-- Without fewer places none is. -/
theorem clean_fewer (_h0 : (checkT s).2.2 = 0) {b o : List Nat} (hb : cleanR s (allTrees s) = some b) (ho : o.length < b.length) (_hn : (selN (fun p => !(inNB o p)) s.places.length).length ≠ 0) (hs : bestsL (subS s fun p => !(inNB o p)) ≠ []) : kindsS (subS s fun p => !(inNB o p)) < bestsM (subS s fun p => !(inNB o p)) := by
 have hle := kinds_best hs
 refine Classical.byContradiction fun he9 => ?_
 have he : kindsS (subS s fun p => !(inNB o p)) = bestsM (subS s fun p => !(inNB o p)) := by omega
 obtain ⟨t, ht⟩ := List.exists_mem_of_ne_nil _ hs
 obtain ⟨h1, h2, h3⟩ := Eb.1 ht
 obtain ⟨k1, k2, k3⟩ := Cy.1 h1
 rw [sub_elen] at k1
 rw [sub_fits k1 k2] at k3
 have h4 := (cost_sum h3).1
 rw [h2, ← he, sum_least k1 k2.in_, kinds_sub] at h4
 have h5 := sum_tight (n := s.places.length) (f := fun p => if (!(inNB o p)) = true then needN s p else 0) (g := fun p => if (!(inNB o p)) = true then leastL s t p else 0) (fun p _ => by split <;> first | exact need_le k2 k1 | exact Int.le_refl _) (by rw [h4]; exact Int.le_refl _)
 have hsub : uncleanL s t ⊆ o := fun p hp => by
   obtain ⟨q1, q2⟩ := unclean_mem.1 hp
   apply Classical.byContradiction
   intro hpo
   have := h5 p q1
   simp only [show (!(inNB o p)) = true by unfold inNB; simp [hpo], if_true] at this
   exact q2 this.symm
 have hnd : (uncleanL s t).Nodup := List.nodup_range.filter _
 have h6 := hnd.length_le_of_subset hsub
 have h7 := (clean_min.2 b hb).2 t (Cy.2 ⟨k1, k2, k3⟩)
 omega
end
end Go.Proofs.Ytccogmkhijgelaa
namespace Go.Proofs.Ytccogmkhijgelaa
section
variable {s : Stm} {p : Nat} {l : List Int}
end
theorem StmR.kind {F : Heap} {vp ve w : Go.Value} {ps : List (Go.Value × Edn)} {s : Stm} {p : Nat} (h : StmR F vp ve ps s) (hw : Sl F w 2 Plc.enc (oneS s p).places) : StmR F w ve ps (oneS s p) := ⟨hw, h.eds, h.rds, h.eqs⟩
/-- Editions that are laid one after another. -/
structure EdsR (F : Heap) (qs : List (Go.Value × Edn)) (es : List Edn) : Prop where
 rds : ∀ q ∈ qs, Ints F q.1 q.2.rd
 eqs : qs.map (·.2) = es
theorem EdsR.nil {F : Heap} : EdsR F [] [] := ⟨fun _ h => (by cases h), rfl⟩
theorem EdsR.mono {F F' : Heap} {qs : List (Go.Value × Edn)} {es : List Edn} (h : EdsR F qs es) (hF : F.le F') : EdsR F' qs es := ⟨fun q hq => (h.rds q hq).mono hF, h.eqs⟩
theorem EdsR.snoc {F : Heap} {qs : List (Go.Value × Edn)} {es : List Edn} (h : EdsR F qs es) {v : Go.Value} {x : Edn} (hv : Ints F v x.rd) : EdsR F (qs ++ [(v, x)]) (es ++ [x]) :=
 ⟨fun q hq => (by rcases List.mem_append.1 hq with hq | hq; exact h.rds q hq; simp at hq; subst hq; exact hv), by rw [List.map_append, h.eqs]; rfl⟩
theorem EdsR.len {F : Heap} {qs : List (Go.Value × Edn)} {es : List Edn} (h : EdsR F qs es) : qs.length = es.length := by rw [← h.eqs, List.length_map]
theorem EdsR.stm {F : Heap} {vp ve : Go.Value} {qs : List (Go.Value × Edn)} {s : Stm} (h : EdsR F qs s.editions) (hp : Sl F vp 2 Plc.enc s.places) (he : Sl F ve 4 edE qs) : StmR F vp ve qs s := ⟨hp, he, h.rds, h.eqs⟩
theorem take_map_snoc {α β : Type} {f : α → β} {l : List α} {k : Nat} (h : k < l.length) : (l.map f).take (k + 1) = (l.map f).take k ++ [f l[k]] := by
 rw [List.take_succ_eq_append_getElem (by simpa using h), List.getElem_map]
end Go.Proofs.Ytccogmkhijgelaa
namespace Go.Proofs.Ytccogmkhijgelaa
open Go.RowKit
theorem el_70 : ElemT Try.prog 70 2 24 (.agg #[.string ⟨#[]⟩, .int .i64 0]) := elemT_of (by kernel_rfl) rfl (by decide)
theorem sz_22 : SizeT Try.prog 22 1 := Cx (by kernel_rfl)
end Go.Proofs.Ytccogmkhijgelaa
namespace Go.Proofs.Ytccogmkhijgelaa
/-- The readings of a place that are known, as they are met. -/
def metTo (s : Stm) (p : Nat) : Nat → List Int
 | 0 => []
 | i + 1 => if 0 < s.r i p ∧ ¬ s.r i p ∈ metTo s p i then metTo s p i ++ [s.r i p] else metTo s p i
theorem metTo_yes {s : Stm} {p i : Nat} (h : 0 < s.r i p) (h2 : ¬ s.r i p ∈ metTo s p i) : metTo s p (i + 1) = metTo s p i ++ [s.r i p] := if_pos ⟨h, h2⟩
theorem metTo_no {s : Stm} {p i : Nat} (h : ¬ (0 < s.r i p ∧ ¬ s.r i p ∈ metTo s p i)) : metTo s p (i + 1) = metTo s p i := if_neg h
theorem metTo_mem {s : Stm} {p : Nat} {v : Int} : ∀ {i : Nat}, v ∈ metTo s p i ↔ 0 < v ∧ ∃ j, j < i ∧ s.r j p = v
 | 0 => by simp [metTo]
 | i + 1 => by
   have ih := metTo_mem (s := s) (p := p) (v := v) (i := i)
   by_cases h : 0 < s.r i p ∧ ¬ s.r i p ∈ metTo s p i
   · rw [metTo_yes h.1 h.2, List.mem_append, ih, List.mem_singleton]
     constructor
     · rintro (⟨h1, j, hj, h2⟩ | rfl)
       · exact ⟨h1, j, by omega, h2⟩
       · exact ⟨h.1, i, by omega, rfl⟩
     · rintro ⟨h1, j, hj, h2⟩
       by_cases hji : j = i
       · subst hji; exact .inr h2.symm
       · exact .inl ⟨h1, j, by omega, h2⟩
   · rw [metTo_no h, ih]
     constructor
     · rintro ⟨h1, j, hj, h2⟩; exact ⟨h1, j, by omega, h2⟩
     · rintro ⟨h1, j, hj, h2⟩
       refine ⟨h1, ?_⟩
       by_cases hji : j = i
       · subst hji
         have h3 : v ∈ metTo s p j := Classical.byContradiction fun h3 => h ⟨by omega, by rw [h2]; exact h3⟩
         exact ((metTo_mem (s := s) (p := p) (v := v) (i := j)).1 h3).2
       · exact ⟨j, by omega, h2⟩
def oneIf (P : Prop) [Decidable P] : Int := if P then 1 else 0
theorem metTo_count {s : Stm} {p : Nat} (hr : ∀ j, j < s.editions.length → 0 ≤ s.r j p ∧ s.r j p ≤ 3) : ∀ {i : Nat}, i ≤ s.editions.length → ((metTo s p i).length : Int) = oneIf ((1 : Int) ∈ metTo s p i) + oneIf ((2 : Int) ∈ metTo s p i) + oneIf ((3 : Int) ∈ metTo s p i)
 | 0, _ => by simp [metTo, oneIf]
 | i + 1, hi => by
   have ih := metTo_count hr (i := i) (by omega)
   by_cases h : 0 < s.r i p ∧ ¬ s.r i p ∈ metTo s p i
   · have hb := hr i (by omega)
     have hn := h.2
     rw [metTo_yes h.1 h.2]
     have h3 : s.r i p = 1 ∨ s.r i p = 2 ∨ s.r i p = 3 := by omega
     unfold oneIf at ih ⊢
     rw [List.length_append, List.length_singleton]
     rcases h3 with h3 | h3 | h3 <;> rw [h3] at hn ⊢ <;> simp only [List.mem_append, List.mem_singleton] <;> rw [if_neg hn] at ih <;> simp <;> omega
   · rw [metTo_no h]; exact ih
theorem met_len {s : Stm} {p : Nat} (hr : ∀ j, j < s.editions.length → 0 ≤ s.r j p ∧ s.r j p ≤ 3) : ((metTo s p s.editions.length).length : Int) = kindsN s p := by
 rw [metTo_count hr (Nat.le_refl _)]
 have e : ∀ v : Nat, 0 < v → oneIf ((v : Int) ∈ metTo s p s.editions.length) = if metB s p v = true then 1 else 0 := fun v hv => by
   unfold oneIf
   have : ((v : Int) ∈ metTo s p s.editions.length) ↔ metB s p v = true := by
     rw [metTo_mem, metB_iff]
     constructor
     · rintro ⟨-, j, hj, h⟩; exact ⟨j, hj, h⟩
     · rintro ⟨j, hj, h⟩; exact ⟨by omega, j, hj, h⟩
   by_cases h : metB s p v = true
   · rw [if_pos (this.2 h), if_pos h]
   · rw [if_neg (fun k => h (this.1 k)), if_neg h]
 have e1 := e 1 (by omega)
 have e2 := e 2 (by omega)
 have e3 := e 3 (by omega)
 have ek : kindsN s p = (if metB s p 1 = true then 1 else 0) + (if metB s p 2 = true then 1 else 0) + (if metB s p 3 = true then 1 else 0) := by
   show ((0 + (if metB s p 1 = true then (1 : Int) else 0)) + (if metB s p 2 = true then 1 else 0)) + (if metB s p 3 = true then 1 else 0) = _
   rw [Int.zero_add]
 rw [ek, ← e1, ← e2, ← e3]; rfl
theorem metTo_len {s : Stm} {p : Nat} : ∀ i, (metTo s p i).length ≤ i
 | 0 => Nat.le_refl _
 | i + 1 => by
   have := metTo_len (s := s) (p := p) i
   by_cases h : 0 < s.r i p ∧ ¬ s.r i p ∈ metTo s p i
   · rw [metTo_yes h.1 h.2, List.length_append, List.length_singleton]; omega
   · rw [metTo_no h]; omega
theorem kinds_bound {s : Stm} : ∀ k, 0 ≤ sumN k (needN s) ∧ sumN k (needN s) ≤ 2 * k
 | 0 => by simp [sumN]
 | k + 1 => by
   have := kinds_bound (s := s) k
   have := needN_bound (s := s) (p := k)
   simp only [sumN]
   push_cast
   omega
theorem has_nat {b : List Nat} {p : Nat} : decide (((p : Nat) : Int) ∈ b.map fun (n : Nat) => (n : Int)) = inNB b p := by
 unfold inNB
 rw [decide_eq_decide, List.mem_map]
 constructor
 · rintro ⟨a, ha, h⟩
   have h' : (a : Int) = (p : Int) := h
   have : a = p := by omega
   subst this; exact ha
 · exact fun h => ⟨p, h, rfl⟩
def outB (b : List Nat) (p : Nat) : Bool := !(inNB b p)
theorem outB_yes {b : List Nat} {p : Nat} (h : inNB b p = false) : outB b p = true := by unfold outB; rw [h]; rfl
theorem outB_no {b : List Nat} {p : Nat} (h : inNB b p = true) : outB b p = false := by unfold outB; rw [h]; rfl
theorem unclean_inc {s : Stm} {l : List Int} {i j : Nat} (hi : i < j) (hj : j < (uncleanL s l).length) : (uncleanL s l)[i] < (uncleanL s l)[j] := by
 have : (uncleanL s l).Pairwise (· < ·) := List.pairwise_lt_range.filter _
 exact List.pairwise_iff_getElem.1 this i j (by omega) hj hi
theorem allTrees_none {s : Stm} (h : allTrees s = []) : bestsL s = [] := by
 rw [List.eq_nil_iff_forall_not_mem]
 intro x hx
 have := (Eb.1 hx).1
 rw [h] at this; cases this
section
variable {s : Stm} {b o : List Nat}
theorem clean_rest' (h0 : (checkT s).2.2 = 0) (hb : cleanR s (allTrees s) = some b) (hn : (selN (outB b) s.places.length).length ≠ 0) : askedT (subS s (outB b)) = 0 ∧ bestsM (subS s (outB b)) = kindsS (subS s (outB b)) :=
 ⟨askedT_some (sub_check h0 hn) (clean_rest h0 hb hn).1, (clean_rest h0 hb hn).2⟩
theorem clean_fewer' (h0 : (checkT s).2.2 = 0) (hb : cleanR s (allTrees s) = some b) (ho : o.length < b.length) (hn : (selN (outB o) s.places.length).length ≠ 0) (ha : askedT (subS s (outB o)) = 0) : kindsS (subS s (outB o)) < bestsM (subS s (outB o)) :=
 clean_fewer h0 hb ho hn (askedT_ok ha).2
end
end Go.Proofs.Ytccogmkhijgelaa
namespace Go.Proofs.Ytccogmkhijgelaa
/-- A reading's other number. -/
def renV (w : Nat) (r : Int) : Int := 1 + (r + w) % 3
theorem renV_in {w : Nat} {r : Int} : 1 ≤ renV w r ∧ renV w r ≤ 3 := by unfold renV; omega
theorem renV_eq {w : Nat} {a b : Int} (ha : 1 ≤ a ∧ a ≤ 3) (hb : 1 ≤ b ∧ b ≤ 3) : renV w a = renV w b ↔ a = b := by unfold renV; omega
theorem renV_back {w : Nat} {a : Int} (ha : 1 ≤ a ∧ a ≤ 3) : renV (2 * w + 1) (renV w a) = a := by unfold renV; push_cast; omega
/-- The one stem is the other one, with a place numbered otherwise. -/
structure Ren (s s' : Stm) (p w : Nat) : Prop where
 pl : s'.places = s.places
 len : s'.editions.length = s.editions.length
 year : ∀ i, i < s.editions.length → (s'.ed i).lo = (s.ed i).lo ∧ (s'.ed i).hi = (s.ed i).hi
 same : ∀ i, i < s.editions.length → ∀ q, q ≠ p → s'.r i q = s.r i q
 zero : ∀ i, i < s.editions.length → s.r i p = 0 → s'.r i p = 0
 other : ∀ i, i < s.editions.length → s.r i p ≠ 0 → s'.r i p = renV w (s.r i p)
section
variable {s s' : Stm} {p w : Nat} {l : List Int}
theorem Ren.back (h : Ren s s' p w) (hv : ValidT s) (hp : p < s.places.length) : Ren s' s p (2 * w + 1) :=
 ⟨h.pl.symm, h.len.symm, fun i hi => by rw [h.len] at hi; exact ⟨(h.year i hi).1.symm, (h.year i hi).2.symm⟩, fun i hi q hq => by rw [h.len] at hi; exact (h.same i hi q hq).symm,
  fun i hi h0 => by
    rw [h.len] at hi
    by_cases hz : s.r i p = 0
    · exact hz
    · have := h.other i hi hz
      have := renV_in (w := w) (r := s.r i p)
      omega,
  fun i hi h0 => by
    rw [h.len] at hi
    by_cases hz : s.r i p = 0
    · exact absurd (h.zero i hi hz) h0
    · rw [h.other i hi hz, renV_back]
      have := hv.rd i p hi hp
      omega⟩
theorem Ren.free (h : Ren s s' p w) {q : Nat} : freeP s' q = freeP s q := by unfold freeP Stm.pl; rw [h.pl]
theorem changes_ren (hin : TreeIn l) {g : Nat → Int} (hg : ∀ i, i < l.length → 1 ≤ g i ∧ g i ≤ 3) : changesOf l (fun i => renV w (g i)) = changesOf l g := by
 unfold changesOf
 refine Ca fun i hi => ?_
 unfold chg
 by_cases hu : upN l i = -1
 · rw [if_pos hu, if_pos hu]
 · obtain ⟨q, hq, hql⟩ := hin.nat hi hu
   have e : (renV w (g (upN l i).toNat) = renV w (g i)) ↔ g (upN l i).toNat = g i := by
     rw [hq, Int.toNat_natCast]; exact renV_eq (hg q hql) (hg i hi)
   rw [if_neg hu, if_neg hu]
   by_cases h : g (upN l i).toNat = g i
   · rw [if_pos h, if_pos (e.2 h)]
   · rw [if_neg h, if_neg (fun k => h (e.1 k))]
theorem Ren.least_le (h : Ren s s' p w) (hf : freeP s p = true) (hl : l.length = s.editions.length) (hin : TreeIn l) : leastL s' l p ≤ leastL s l p := by
 refine le_least Dj.2 hl fun g h1 h2 => ?_
 rw [← changes_ren (w := w) hin h1.val]
 refine leastL_le hin (by rw [h.len]; exact hl) ⟨fun i _ => renV_in, fun i hi => ?_⟩ fun i hi hu => .inr (.inr (by rw [h.free]; exact hf))
 rcases h1.fit i hi with h3 | h3
 · exact .inl (h.zero i (by omega) h3)
 · by_cases hz : s.r i p = 0
   · exact .inl (h.zero i (by omega) hz)
   · exact .inr (by rw [h.other i (by omega) hz, h3])
theorem Ren.least (h : Ren s s' p w) (hv : ValidT s) (hp : p < s.places.length) (hf : freeP s p = true) (hl : l.length = s.editions.length) (hin : TreeIn l) (q : Nat) : leastL s' l q = leastL s l q := by
 by_cases hq : q = p
 · subst hq
   exact Int.le_antisymm (h.least_le hf hl hin) ((h.back hv hp).least_le (by rw [h.free]; exact hf) (by rw [h.len]; exact hl) hin)
 · refine (least_same hl (by rw [h.len]; exact hl) hin fun g => ?_).symm
   have hfr := h.free (q := q)
   constructor
   · rintro ⟨h1, h2⟩
     exact ⟨⟨h1.val, fun i hi => by have := h1.fit i hi; unfold fitR at this ⊢; rw [h.same i (by omega) q hq] at this; exact this⟩, fun i hi hu => by have := h2 i hi hu; rw [hfr] at this; exact this⟩
   · rintro ⟨h1, h2⟩
     exact ⟨⟨h1.val, fun i hi => by have := h1.fit i hi; unfold fitR at this ⊢; rw [h.same i (by omega) q hq]; exact this⟩, fun i hi hu => by have := h2 i hi hu; rw [hfr]; exact this⟩
theorem Ren.fits (h : Ren s s' p w) (ht : IsTree l) (hl : l.length = s.editions.length) : fitsT s' l = fitsT s l :=
 fits_years ht hl (by rw [h.len]; exact hl) fun i hi => h.year i (by omega)
theorem Ren.cost (h : Ren s s' p w) (hv : ValidT s) (hp : p < s.places.length) (hf : freeP s p = true) (hl : l.length = s.editions.length) (ht : IsTree l) : costL s' l = costL s l := by
 have h1 := h.fits ht hl
 unfold fitsT at h1
 unfold costL
 rw [h1, h.pl, show leastL s' l = leastL s l from funext fun q => h.least hv hp hf hl ht.in_ q]
theorem filter_same {α : Type} {f g : α → Bool} {l : List α} (h : ∀ x ∈ l, f x = g x) : l.filter f = l.filter g := by
 induction l with
 | nil => rfl
 | cons a l ih =>
   rw [List.filter_cons, List.filter_cons, h a List.mem_cons_self, ih fun x hx => h x (List.mem_cons_of_mem _ hx)]
theorem Ren.trees (h : Ren s s' p w) : allTrees s' = allTrees s := by
 unfold allTrees
 rw [h.len]
 refine filter_same fun x hx => ?_
 obtain ⟨t, rfl, hd, hin, hT⟩ := trees_mem.1 hx
 refine h.fits ?_ hd
 exact isTree_of (fun i hi => by have := hin i (by omega); rw [hd]; exact this) hT
theorem bestR_congr {top : Int} {c c' : List Int → Int} : ∀ {xs : List (List Int)}, (∀ x ∈ xs, c x = c' x) → bestR top c xs = bestR top c' xs := by
 intro xs
 induction xs using snoc_ind with
 | h0 => intro _; rfl
 | h1 xs t ih =>
   intro h
   rw [Du, Du, ih fun x hx => h x (by simp [hx])]
   unfold bestStep
   rw [h t (by simp)]
theorem Ren.best (h : Ren s s' p w) (hv : ValidT s) (hp : p < s.places.length) (hf : freeP s p = true) : bestR 1000 (costL s') (allTrees s') = bestR 1000 (costL s) (allTrees s) := by
 rw [h.trees]
 refine bestR_congr fun x hx => ?_
 obtain ⟨h1, h2, -⟩ := Cy.1 hx
 exact h.cost hv hp hf h1 h2
theorem Ren.met (h : Ren s s' p w) (hv : ValidT s) (hp : p < s.places.length) {v : Nat} (hv3 : 1 ≤ v ∧ v ≤ 3) : metB s' p (renV w v).toNat = metB s p v := by
 have hin := renV_in (w := w) (r := (v : Int))
 rw [Bool.eq_iff_iff, metB_iff, metB_iff, h.len]
 constructor
 · rintro ⟨i, hi, h1⟩
   by_cases hz : s.r i p = 0
   · rw [h.zero i hi hz] at h1; omega
   · rw [h.other i hi hz, Int.toNat_of_nonneg (by omega)] at h1
     have hrd := hv.rd i p hi hp
     exact ⟨i, hi, (renV_eq (by omega) (by omega)).1 h1⟩
 · rintro ⟨i, hi, h1⟩
   refine ⟨i, hi, ?_⟩
   rw [h.other i hi (by omega), h1, Int.toNat_of_nonneg (by omega)]
theorem Ren.kinds (h : Ren s s' p w) (hv : ValidT s) (hp : p < s.places.length) (q : Nat) : kindsN s' q = kindsN s q := by
 by_cases hq : q = p
 · subst hq
   have h1 := h.met hv hp (v := 1) (by omega)
   have h2 := h.met hv hp (v := 2) (by omega)
   have h3 := h.met hv hp (v := 3) (by omega)
   unfold kindsN kindTo
   simp only [sumN, Nat.zero_add, Nat.reduceAdd]
   rw [← h1, ← h2, ← h3]
   unfold renV
   rcases (show w % 3 = 0 ∨ w % 3 = 1 ∨ w % 3 = 2 by omega) with hw | hw | hw
   · rw [show (1 + (((1 : Nat) : Int) + w) % 3).toNat = 2 by omega, show (1 + (((2 : Nat) : Int) + w) % 3).toNat = 3 by omega, show (1 + (((3 : Nat) : Int) + w) % 3).toNat = 1 by omega]
     omega
   · rw [show (1 + (((1 : Nat) : Int) + w) % 3).toNat = 3 by omega, show (1 + (((2 : Nat) : Int) + w) % 3).toNat = 1 by omega, show (1 + (((3 : Nat) : Int) + w) % 3).toNat = 2 by omega]
     omega
   · rw [show (1 + (((1 : Nat) : Int) + w) % 3).toNat = 1 by omega, show (1 + (((2 : Nat) : Int) + w) % 3).toNat = 2 by omega, show (1 + (((3 : Nat) : Int) + w) % 3).toNat = 3 by omega]
 · have e : ∀ v, metB s' q v = metB s q v := fun v => by
     rw [Bool.eq_iff_iff, metB_iff, metB_iff, h.len]
     constructor
     · rintro ⟨i, hi, h1⟩; exact ⟨i, hi, by rw [← h.same i hi q hq]; exact h1⟩
     · rintro ⟨i, hi, h1⟩; exact ⟨i, hi, by rw [h.same i hi q hq]; exact h1⟩
   unfold kindsN kindTo
   exact Ca fun j _ => by rw [e]
theorem Ren.unclean (h : Ren s s' p w) (hv : ValidT s) (hp : p < s.places.length) (hf : freeP s p = true) (hl : l.length = s.editions.length) (ht : IsTree l) : uncleanL s' l = uncleanL s l := by
 unfold uncleanL
 rw [h.pl]
 refine congrArg (fun b => selN b s.places.length) (funext fun q => ?_)
 unfold uncleanB
 rw [h.least hv hp hf hl ht.in_ q]
 unfold needN
 rw [h.kinds hv hp q]
theorem Ren.clean (h : Ren s s' p w) (hv : ValidT s) (hp : p < s.places.length) (hf : freeP s p = true) : cleanR s' (allTrees s') = cleanR s (allTrees s) := by
 rw [h.trees]
 have key : ∀ (xs : List (List Int)), (∀ x ∈ xs, x ∈ allTrees s) → cleanR s' xs = cleanR s xs := fun xs => by
   induction xs using snoc_ind with
   | h0 => intro _; rfl
   | h1 xs t ih =>
     intro hx
     obtain ⟨h1, h2, -⟩ := Cy.1 (hx t (by simp))
     rw [Eh, Eh, ih fun x h => hx x (by simp [h])]
     unfold cleanStep
     rw [h.unclean hv hp hf h1 h2]
 exact key _ fun x hx => hx
theorem Ren.bests (h : Ren s s' p w) (hv : ValidT s) (hp : p < s.places.length) (hf : freeP s p = true) : bestsL s' = bestsL s ∧ bestsM s' = bestsM s := by
 unfold bestsL bestsM; rw [h.best hv hp hf]; exact ⟨rfl, rfl⟩
theorem Ren.bestTE (h : Ren s s' p w) (h0 : (checkT s).2.2 = 0) (h0' : (checkT s').2.2 = 0) (hp : p < s.places.length) (hf : freeP s p = true) : bestTE s' = bestTE s := by
 obtain ⟨h1, h2⟩ := h.bests (Cz h0) hp hf
 unfold Go.Proofs.Ytccogmkhijgelaa.bestTE askedT
 rw [h1, h2, h0, h0']
theorem Ren.cleanE (h : Ren s s' p w) (h0 : (checkT s).2.2 = 0) (h0' : (checkT s').2.2 = 0) (hp : p < s.places.length) (hf : freeP s p = true) : cleanE s' = cleanE s := by
 unfold Go.Proofs.Ytccogmkhijgelaa.cleanE
 rw [h.clean (Cz h0) hp hf, h0, h0']
end
theorem StmR.back {F : Heap} {vp ve w : Go.Value} {ps : List (Go.Value × Edn)} {s : Stm} (h : StmR F vp ve ps s) (hw : Sl F w 4 edE ps.reverse) : StmR F vp w ps.reverse (backS s) :=
 ⟨h.places, hw, fun p hp => h.rds p (List.mem_reverse.1 hp), by rw [List.map_reverse, h.eqs]; rfl⟩
end Go.Proofs.Ytccogmkhijgelaa
