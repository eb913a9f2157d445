/-
  StemLeast returns true of any stem and numbers, and leaves what it is handed as it was. No conditions.
-/
import Derived.Test.YtccogmkhijgelaaPad
import Derived.KernelRfl
namespace Go.Proofs.Ytccogmkhijgelaa
open Go.RowKit
theorem agg_128 : AggT Try.prog 128 3 := aggT_of (by kernel_rfl)
theorem bd_87 : Body Try.prog 87 := Bo (by kernel_rfl)
theorem el_64 : ElemT Try.prog 64 4 56 (.agg #[.string ⟨#[]⟩, .int .i64 0, .int .i64 0, .slice none 0 0]) := elemT_of (by kernel_rfl) rfl (by decide)
theorem sz_128 : SizeT Try.prog 128 3 := Cr (by kernel_rfl)
theorem sz_23 : SizeT Try.prog 23 1 := Cr (by kernel_rfl)
theorem sz_26 : SizeT Try.prog 26 1 := Cr (by kernel_rfl)
theorem src_eds {F : Heap} {v : Value} {ps : List (Value × Edn)} (h : Sl F v 4 edE ps) (hone : ∀ p ∈ ps, p.1.oneCell' = true) {H : List (Nat × Obj)} : Src ⟨F, H⟩ v ps.length (ps.flatMap edE) 4 := h.srcM edE_len fun p hp => edE_one (hone p hp)
theorem StmX.ones {F : Heap} {b kb : Nat} {vp ve : Value} {ps : List (Value × Edn)} {s : Stm} (hX : StmX F b vp ve (.map (some kb)) ps s) : ∀ u ∈ [vp, ve, .map (some kb)], u.oneCell' = true := by
 intro u hu
 simp only [List.mem_cons, List.not_mem_nil, or_false] at hu
 rcases hu with rfl | rfl | rfl
 · exact hX.r.places.plain.one
 · exact hX.r.eds.plain.one
 · rfl
set_option maxRecDepth 100000 in
theorem cloneEd_own {F : Heap} {v : Value} {ps : List (Value × Edn)} (h : Sl F v 4 edE ps) (hone : ∀ p ∈ ps, p.1.oneCell' = true) (hn : ps.length ≤ 1000) : OkN Try.prog 87 [v].toArray F fun u _F' Hn => Own 64 4 u ps.length (ps.flatMap edE) Hn := by
 obtain ⟨a0, c0, rfl, g1, g2, g3, g4⟩ := h.plain
 refine OkN.intro Try.func87 rfl Try.ntmps87 rfl fun w0 => ?_
 cases a0
 ·
  refine Af <| Ai fun ds => Aa rfl (Ae Ab) ?_
  refine Ah <| Ad <| Af <| Af <| Ai fun ds => Aa rfl (Ag (Ak rfl <| Aj rfl)) ?_
  refine Aa rfl (q_eqlNil Try.underlying23 (Ac) Ab) ?_
  refine Ah <| Ad <| Aq (Ac) rfl ?_
  refine Af <| Ai fun ds => Aa rfl (Ae Ab) ?_
  refine Ah <| Ad <| A3 <| A8 ?_
  refine D4 rfl (.tmp (Ac) .nil) (List.nil_sublist _) ?_
  obtain ⟨h0, -⟩ := g2 rfl
  have : ps = [] := List.eq_nil_of_length_eq_zero h0
  subst this
  exact Ec
 ·
  refine Af <| Ai fun ds => Aa rfl (Ae Ab) ?_
  refine Ah <| Ad <| Af <| Af <| Ai fun ds => Aa rfl (Ag (Ak rfl <| Aj rfl)) ?_
  refine Aa rfl (q_eqlNil Try.underlying23 (Ac) Ab) ?_
  refine Ah <| Ad <| Ao (Ac) rfl ?_
  refine Ay <| Ad <| Af <| Ai fun ds => Bh rfl (x_build0 B7 fun b1 hb1 nb1 => ?_)
  refine Aa rfl (Ag (A2 rfl <| Aj rfl)) ?_
  refine Bh rfl (Cq B7 el_64 (Ak rfl <| Ac) (own_box rfl) (Ac) (src_eds h hone) (by omega) (by omega) (.z) .box fun v2 R3 ho4 => ?_)
  have ho1 : Own 64 4 v2 ps.length (ps.flatMap edE) R3 := by simpa using ho4
  refine Aa rfl (Ae (Ac)) ?_
  refine Ah <| Ad <| A3 <| D4 rfl (.tmp (Ac) .nil) (List.sublist_append_left _ _) ?_
  exact ho1
def IntsR7 (F : Heap) (u : Value) (p : List Int × Int) : Prop := ∃ v, u = .tuple #[v, .int .i64 p.2] ∧ Ints F v p.1
theorem IntsR7.mono {F F' : Heap} {u : Value} {p : List Int × Int} (h : IntsR7 F u p) (hF : F.le F') : IntsR7 F' u p := by obtain ⟨v, h1, h2⟩ := h; exact ⟨v, h1, h2.mono hF⟩
set_option maxRecDepth 100000 in
theorem reading_top_ok {F : Heap} {vp ve : Value} {ps : List (Value × Edn)} {s : Stm} (hr : StmR F vp ve ps s) {v : Value} {l : List Int} (hl : Ints F v l) (z q : Int) : Ok Try.prog 35 [.agg #[vp, ve], v, .int .i64 z, .int .i64 q].toArray F fun u F' => IntsR7 F' u (readE s l z q) := by
 have hle0 : F.le F := Heap.le_refl _
 refine Ok.intro Try.func35 rfl Try.ntmps35 rfl fun w0 => ?_
 have hL := hl.plain.lt
 have hlen := hr.len
 have hL1 := hr.eds.plain.lt
 have hL2 := hr.places.plain.lt
 by_cases hok : treeErr s l = 0
 ·
  obtain ⟨hv, hll, ht⟩ := tree_ok hok
  have hne := hv.ne
  have hnp := hv.np
  have hl5 : l.length ≤ 5 := by omega
  have hcv := changes_costV (s := s) ht hv hll
  have hcb := costL_bound (s := s) (l := l)
  refine Af <| Ai fun ds => Bh rfl (B2 (Aj rfl) rfl fun b1 hb1 nb1 => ?_)
  refine Aa rfl (Ae Ab) ?_
  refine Aa rfl (Ae Ab) ?_
  refine Ah <| Ad <| Af <| Ai fun ds => Aa rfl (A9 B5 (Ar rfl <| Ac) rfl rfl (A5 0 rfl)) ?_
  refine Aa rfl (Ag (A2 rfl <| Aj rfl)) ?_
  refine Bh rfl (Dj bd_68 Az (.cons (Ak rfl <| Ac) (.cons (Ac) .nil)) (enter_ok hr hl hok) fun v2 F3 R6 hr4 hF5 => ?_)
  replace hr := hr.mono hF5
  replace hle0 := Heap.le_trans hle0 hF5
  obtain ⟨ba, kb, rfl, hX, rfl⟩ := hr4
  refine Aa rfl (Ag (Ac)) ?_
  refine Aa rfl (Ax (Ac) rfl) ?_
  refine Aa rfl (Ax (Ak rfl <| Ac) rfl) ?_
  refine Aa rfl (Ax (Ar rfl <| Ac) rfl) ?_
  refine Bh rfl (Ca Dv rfl fun b7 hb7 nb7 => ?_)
  refine Aa rfl (Ae (Ar rfl <| Ak rfl <| Ac)) ?_
  refine Ch (Cc D0 (Ak rfl <| Ac) (Ar rfl <| Ak rfl <| Ac) (i := 0) rfl rfl rfl rfl C5 (.here) ?_)
  refine Aa rfl (Ae (Ar rfl <| Ac)) ?_
  refine Ah <| Ad <| Af <| A0 <| Af <| Cb (i := 1) rfl hb1 (.next <| .here) fun F8 hF9 hz4 => ?_
  replace hr := hr.mono hF9
  replace hle0 := Heap.le_trans hle0 hF9
  replace hX := hX.mono hF9
  refine Cb (i := 0) rfl hb7 (.here) fun F10 hF11 hz11 => ?_
  replace hr := hr.mono hF11
  replace hle0 := Heap.le_trans hle0 hF11
  replace hX := hX.mono hF11
  replace hz4 := hF11 _ _ hz4
  refine Ai fun ds => Aa rfl (Ag (Ac)) ?_
  refine Aa rfl (B0 (Ac) Ab) ?_
  refine Aa rfl (Ae (Ac)) ?_
  refine Ah <| Ad <| Ao (Ac) (by decide) ?_
  by_cases h1 : inB 0 (s.editions.length - 1) z = true
  ·
   refine Af <| Ai fun ds => Aa rfl (Am Br (A7 rfl <| A2 rfl <| Ar rfl <| Ak rfl <| Ac)) ?_
   refine Aa rfl (Ap B1 (Ac) (CellF.own hz4 rfl).cell) ?_
   refine Aa rfl (Bk B7 (Ac) hr.eds.plain) ?_
   refine Aa rfl (q_sub (Ac) Ab rfl (by omega) (by omega)) ?_
   refine Aa rfl (Ag (A4 rfl <| A2 rfl <| Aj rfl)) ?_
   refine Bh rfl (B6 Bi C8 rfl (.cons (Ac) .nil) rfl rfl (by decide) (by simp [Value.oneCell']) fun b12 hb12 nb12 => ?_)
   refine B4 (i := 0) rfl hb12 .here fun F13 hF14 hz15 => ?_
   replace hr := hr.mono hF14
   replace hle0 := Heap.le_trans hle0 hF14
   replace hX := hX.mono hF14
   replace hz4 := hF14 _ _ hz4
   replace hz11 := hF14 _ _ hz11
   have hsl16 := Cu hz15
   refine Bw rfl (Ba Dw Az (.cons Ab (.cons (Ar rfl <| Ac) (.cons (Ac) .nil))) (Ce _ _ hsl16) (fun _ _ h => h)) ?_
   refine Aa rfl (Ag (Ac)) ?_
   refine As rfl rfl (Ac) (by simp [hlen, h1]) ?_
   refine Aa rfl (Am Ct (A4 rfl <| A2 rfl <| Ar rfl <| Ak rfl <| Ac)) ?_
   refine As rfl rfl (Ak rfl <| Ac) (by simp [hlen, h1]) ?_
   refine Aa rfl (Ap C1 (Ac) (CellF.own hz4 rfl).cell) ?_
   refine As rfl rfl (Ar rfl <| Ac) (by simp [hlen, h1]) ?_
   refine Aa rfl (Bk Db (Ac) hr.places.plain) ?_
   refine As rfl rfl (Ar rfl <| Ak rfl <| Ac) (by simp [hlen, h1]) ?_
   refine Aa rfl (q_sub (Ac) Ab rfl (by omega) (by omega)) ?_
   refine As rfl rfl (A2 rfl <| Ac) (by simp [hlen, h1]) ?_
   refine Aa rfl (Ag (A4 rfl <| A7 rfl <| A2 rfl <| Aj rfl)) ?_
   refine As rfl rfl (A2 rfl <| Ak rfl <| Ac) (by simp [hlen, h1]) ?_
   refine Bh rfl (B6 Bi C8 rfl (.cons (Ac) .nil) rfl rfl (by decide) (by simp [Value.oneCell']) fun b17 hb17 nb17 => ?_)
   refine B4 (i := 0) rfl hb17 .here fun F18 hF19 hz20 => ?_
   replace hr := hr.mono hF19
   replace hle0 := Heap.le_trans hle0 hF19
   replace hX := hX.mono hF19
   replace hz4 := hF19 _ _ hz4
   replace hz11 := hF19 _ _ hz11
   have hsl21 := Cu hz20
   refine As rfl rfl (A2 rfl <| Ar rfl <| Ac) (by simp [hlen, h1]) ?_
   refine Bw rfl (Ba Dw Az (.cons Ab (.cons (Ar rfl <| Ac) (.cons (Ac) .nil))) (Ce _ _ hsl21) (fun _ _ h => h)) ?_
   refine Aa rfl (Bb (A2 rfl <| Ar rfl <| Ak rfl <| Ac) (by simp [hlen, h1]) (Ac)) ?_
   refine Aa rfl (Ae (Ac)) ?_
   refine Ah <| Ad ?_
   by_cases h2 : inB 0 (s.places.length - 1) q = true
   ·
    have h12 : (inB 0 (s.editions.length - 1) z && inB 0 (s.places.length - 1) q) = true := by rw [h1, h2]; rfl
    obtain ⟨x, rfl, hx⟩ := inB_nat h1
    obtain ⟨p, rfl, hp⟩ := inB_nat h2
    have hxp : x < ps.length := by omega
    have hrx := hr.rd hxp
    have hpx : p < (s.ed x).rd.length := by rw [hv.rdl x hx]; exact hp
    have er := rdT_at hpx
    have hrdl := hv.rdl x hx
    have hrb9 := hv.rd x p hx hp
    have e1 := hr.at hxp
    refine Ao (Ac) (by simp [h2]) ?_
    by_cases hc : costL s l = 1000
    ·
     refine Af <| Ai fun ds => Aa rfl (Ag (A4 rfl <| A2 rfl <| Ak rfl <| Ac)) ?_
     refine Aa rfl (A9 Bz (A4 rfl <| A2 rfl <| Ar rfl <| Ak rfl <| Ac) rfl rfl (Cs hz11)) ?_
     refine WL_order (.cons (.here) <| .nil) ?_
     refine Bh rfl (x_callM bd_69 Az (.cons (Ak rfl <| Ac) (.cons (Ac) .nil)) rfl (changes_ok hX ht hll hv KnownT.nil) fun v26 F27 H30 hr28 hF29 => ?_)
     obtain ⟨es2, rfl, rfl, hK2⟩ := hr28
     refine Aa rfl (Bx (Ac) Ab) ?_
     refine Aa rfl (Ae (Ac)) ?_
     refine Ah <| Ad <| Aq (Ac) (by rw [hcv]; unfold costV; rw [if_pos hc]; rfl) ?_
     refine Af <| Ai fun ds => Aa rfl (Ae Ab) ?_
     refine Aa rfl (Ae Ab) ?_
     refine Ah <| Ad <| A3 <| Bg (A8 ?_)
     refine Aw rfl (.tmp (Ak rfl <| Ac) (.tmp (Ac) .nil)) ?_
     rw [readE_bad (readErr_3 hok h12 hc) (by decide)]
     exact ⟨_, rfl, Sl.nil⟩
    ·
     have hre := readErr_0 hok h12 hc
     refine Af <| Ai fun ds => Aa rfl (Ag (A4 rfl <| A2 rfl <| Ak rfl <| Ac)) ?_
     refine Aa rfl (A9 Bz (A4 rfl <| A2 rfl <| Ar rfl <| Ak rfl <| Ac) rfl rfl (Cs hz11)) ?_
     refine WL_order (.cons (.here) <| .nil) ?_
     refine Bh rfl (x_callM bd_69 Az (.cons (Ak rfl <| Ac) (.cons (Ac) .nil)) rfl (changes_ok hX ht hll hv KnownT.nil) fun v35 F36 H39 hr37 hF38 => ?_)
     replace hr := hr.mono hF38
     replace hle0 := Heap.le_trans hle0 hF38
     replace hX := hX.mono hF38
     replace hrx := hrx.mono hF38
     replace hz4 := hF38 _ _ hz4
     replace hz11 := hF38 _ _ hz11
     obtain ⟨es2, rfl, rfl, hK2⟩ := hr37
     refine Aa rfl (Bx (Ac) Ab) ?_
     refine Aa rfl (Ae (Ac)) ?_
     refine Ah <| Ad <| Ao (Ac) (by rw [hcv]; unfold costV; rw [if_neg hc]; exact decide_eq_false (by omega)) ?_
     refine Ay <| Bc <| Ad <| Af <| Ai fun ds => Aa rfl (Ag (A4 rfl <| A7 rfl <| Ar rfl <| Ac)) ?_
     refine Aa rfl (A9 Bz (A4 rfl <| A7 rfl <| A2 rfl <| Ac) rfl rfl (Cs hz11)) ?_
     refine Aa rfl (Ag (Bn rfl <| A7 rfl <| Aj rfl)) ?_
     refine Bw rfl (Ba bd_82 Az (.cons (Ar rfl <| Ac) (.cons (Ak rfl <| Ac) (.cons (Ac) .nil))) (Dr hX ht hll hv hp) (fun _ _ h => h)) ?_
     refine Aa rfl (Ae (Ac)) ?_
     refine Ah <| Ad <| Af <| Ai fun ds => Aa rfl (Am Br (Bn rfl <| A7 rfl <| Ar rfl <| Ac)) ?_
     refine Aa rfl (Ap B1 (Ac) (CellF.own hz4 rfl).cell) ?_
     refine Aa rfl (Ag (Bn rfl <| A7 rfl <| A2 rfl <| Ak rfl <| Aj rfl)) ?_
     refine Aa rfl (Be (k := x) B7 (Ak rfl <| Ac) hr.eds.plain (Ac) rfl hxp) ?_
     refine Aa rfl (Bt Cd (Ac)) ?_
     refine Aa rfl (Ap Cg (Ac) (hr.eds.cell hxp rfl)) ?_
     refine Aa rfl (Ag (Bn rfl <| A4 rfl <| Ak rfl <| Aj rfl)) ?_
     refine Aa rfl (Be (k := p) Bi (Ak rfl <| Ac) hrx.plain (Ac) rfl hpx) ?_
     refine Aa rfl (Ap Bm (Ac) (hrx.cell1 hpx rfl)) ?_
     refine Aa rfl (Ae (Ac)) ?_
     refine Ah <| Ad <| Af <| Af <| Ai fun ds => Aa rfl (Ag Ab) ?_
     refine Ah <| Ad <| A0 <| Bu [8, 14, 15, 62, 63, 64, 65, 66, 67, 68, 69, 70, 71, 72, 73, 74, 75, 76, 77, 78, 79, 80, 81, 82, 83, 84, 85, 86, 87, 88, 89, 90, 91, 92, 93, 94, 95, 96, 97, 98, 99, 100, 101, 102, 103, 104, 105, 106, 107, 108, 109, 110, 111, 112, 113, 114, 115, 116, 117, 118, 119, 120, 121] (fun m e σ => ∃ G, F36.le G ∧ ∃ k : Nat, m + k = 3 ∧ e 62 = .int .i64 (k : Int) ∧ ∃ v8 R8, e 8 = v8 ∧ Own 3 1 v8 (readTo s l x p k).length ((readTo s l x p k).flatMap intE) R8 ∧ σ = ⟨G, (kb, mapO es2) :: R8⟩) (3) ?_ ?_
     · exact ⟨_, Heap.le_refl _, 0, by omega, (Ac), _, _, (Bn rfl <| A4 rfl <| A2 rfl <| Ac), Own.nil, rfl⟩
     ·
      rintro m e _ ⟨G, hFG, k, hm, hs62, v8, R8, hs8, ho, rfl⟩; have hrl := readTo_len (s := s) (l := l) (x := x) (p := p) (k := k); replace hr := hr.mono hFG; replace hX := hX.mono hFG; replace hrx := hrx.mono hFG; replace hz4 := hFG _ _ hz4; replace hz11 := hFG _ _ hz11; have hle0 := Heap.le_trans hle0 hFG
      by_cases hlt : k < 3
      ·
       refine Af <| Ai fun ds => Aa rfl (Bs (At rfl hs62) Ab) ?_
       refine Ah <| Ad <| Af <| Aq (Ac) (by first | rfl | exact decide_eq_true (by omega)) ?_
       by_cases hk0 : 0 < s.r x p
       ·
        refine Ay <| Ad <| Af <| A0 <| Af <| Ai fun ds => Aa rfl (Ag (Ak rfl <| At rfl hs62)) ?_
        refine Aa rfl (Ae (Ac)) ?_
        refine Ah <| Ad <| Af <| Af <| Ai fun ds => Aa rfl (Ag (Ar rfl <| Ak rfl <| Al rfl <| Ak rfl <| Ac)) ?_
        refine Aa rfl (C7 (Ac) Ab) ?_
        refine Aa rfl (Ag (Ac)) ?_
        refine As rfl rfl (Ac) (by rw [er]; exact decide_eq_true hk0) ?_
        refine Aa rfl (Ag (A2 rfl <| Ar rfl <| Al rfl <| Ak rfl <| Ac)) ?_
        refine As rfl rfl (Ak rfl <| Ac) (by rw [er]; exact decide_eq_true hk0) ?_
        refine Aa rfl (Ag (A2 rfl <| Ac)) ?_
        refine As rfl rfl (Ar rfl <| Ac) (by rw [er]; exact decide_eq_true hk0) ?_
        refine Aa rfl (Bv (Ac) Ab rfl (by omega) (by omega)) ?_
        refine As rfl rfl (Ar rfl <| Ak rfl <| Ac) (by rw [er]; exact decide_eq_true hk0) ?_
        refine Aa rfl (B0 (Ar rfl <| Ac) (Ac)) ?_
        refine Aa rfl (A1 (A2 rfl <| Ac) (by rw [er]; exact decide_eq_true hk0) (Ac)) ?_
        refine Ah <| Ad ?_
        by_cases hke : s.r x p = (k : Int) + 1
        ·
         have hkn : (decide (s.r x p = 0) || decide (s.r x p = (k : Int) + 1)) = true := by rw [decide_eq_true hke]; simp
         refine Ao (Ac) (by rw [er]; exact decide_eq_false (fun h => h hke)) ?_
         have hvm := setS_valid (v := (k : Int) + 1) hv hx hp (by omega)
         refine Ay <| Ad <| Af <| Ai fun ds => Aa rfl (Ag (A7 rfl <| Ar rfl <| Ak rfl <| Al rfl <| Bn rfl <| A7 rfl <| Ar rfl <| Ac)) ?_
         refine Aa rfl (By (Ac)) ?_
         refine Aa rfl (A9 agg_128 (Ac) rfl rfl (Cs hX.blk)) ?_
         refine Bh rfl (Ca zr_128 rfl fun b41 hb41 nb41 => ?_)
         refine Ch (Cc sz_128 (Ac) (Ak rfl <| Ac) (i := 0) rfl rfl rfl rfl hX.ones (.here) ?_)
         refine Ah <| Ad <| Af <| Ai fun ds => Aa rfl (Ag (A7 rfl <| A2 rfl <| Ar rfl <| Ak rfl <| Al rfl <| Bn rfl <| A7 rfl <| Ar rfl <| Ac)) ?_
         refine Aa rfl (By (Ac)) ?_
         refine Aa rfl (Am B8 (Ac)) ?_
         refine Aa rfl (Am Br (Ac)) ?_
         refine Aa rfl (Ap B1 (Ac) (CellF.own hX.blk rfl).cell) ?_
         refine Bh rfl (x_callNf bd_87 Az (.cons (Ac) .nil) (cloneEd_own hX.r.eds hX.r.one (by omega)) fun v42 F43 R46 hr44 hF45 => ?_)
         replace hX := hX.mono hF45
         replace hrx := hrx.mono hF45
         replace hFG := Heap.le_trans hFG hF45
         replace hle0 := Heap.le_trans hle0 hF45
         replace hz11 := hF45 _ _ hz11
         have hoE := hr44
         refine Aa rfl (Am B8 (A2 rfl <| Ar rfl <| Ac)) ?_
         refine Aa rfl (Am Br (Ac)) ?_
         refine WL_orderB (.one (.skip <| .here) <| .one (.skip <| .here) <| .blk (.lastS) <| .lastb (.last)) ?_
         refine Ch (Ci sz_23 (Ac) (Ar rfl <| Ac) (i := 0) rfl (.next <| .here) (Own.one hoE) (.here) ?_)
         refine Ah <| Ad <| Af ?_
         have hleS := hle0
         refine Cy (.inl rfl) (fun _ _ h => h) (.cons_cons _ <| .cons_cons _ <| .refl _) [16] (by kernel_rfl) fun ds => ?_
         refine A6 0 rfl (by kernel_rfl) (by kernel_rfl) (by kernel_rfl) (by kernel_rfl) rfl rfl (fun _ h => h.drop (.cons_cons _ <| .cons_cons _ <| .refl _)) (fun _ _ _ h => h) (Am B8 (A7 rfl <| Ac)) ?_
         refine A6 1 rfl (by kernel_rfl) (by kernel_rfl) (by kernel_rfl) (by kernel_rfl) rfl rfl (fun _ h => h.drop (.cons_cons _ <| .cons_cons _ <| .refl _)) (fun _ _ _ h => h) (Am Br (Ac)) ?_
         refine A6 2 rfl (by kernel_rfl) (by kernel_rfl) (by kernel_rfl) (by kernel_rfl) rfl rfl (fun _ h => h.drop (.cons_cons _ <| .cons_cons _ <| .refl _)) (fun _ _ _ h => h) (Ap B1 (Ac) (Cell.own 0 rfl rfl)) ?_
         refine A6 3 rfl (by kernel_rfl) (by kernel_rfl) (by kernel_rfl) (by kernel_rfl) rfl rfl (fun _ h => h.drop (.cons_cons _ <| .cons_cons _ <| .refl _)) (fun _ _ _ h => h) (Ag (A4 rfl <| A7 rfl <| Ar rfl <| Al rfl <| Bn rfl <| A4 rfl <| A2 rfl <| Ar rfl <| Aj rfl)) ?_
         refine A6 4 rfl (by kernel_rfl) (by kernel_rfl) (by kernel_rfl) (by kernel_rfl) rfl rfl (fun _ h => h.drop (.cons_cons _ <| .cons_cons _ <| .refl _)) (fun _ _ _ h => h) (Ag (A4 rfl <| A7 rfl <| Ar rfl <| Ak rfl <| Al rfl <| Bn rfl <| A7 rfl <| Ar rfl <| Ac)) ?_
         refine A6 5 rfl (by kernel_rfl) (by kernel_rfl) (by kernel_rfl) (by kernel_rfl) rfl rfl (fun _ h => h.drop (.cons_cons _ <| .cons_cons _ <| .refl _)) (fun _ _ _ h => h) (By (Ac)) ?_
         refine A6 6 rfl (by kernel_rfl) (by kernel_rfl) (by kernel_rfl) (by kernel_rfl) rfl rfl (fun _ h => h.drop (.cons_cons _ <| .cons_cons _ <| .refl _)) (fun _ _ _ h => h) (Am B8 (Ac)) ?_
         refine A6 7 rfl (by kernel_rfl) (by kernel_rfl) (by kernel_rfl) (by kernel_rfl) rfl rfl (fun _ h => h.drop (.cons_cons _ <| .cons_cons _ <| .refl _)) (fun _ _ _ h => h) (Am Br (Ac)) ?_
         refine A6 8 rfl (by kernel_rfl) (by kernel_rfl) (by kernel_rfl) (by kernel_rfl) rfl rfl (fun _ h => h.drop (.cons_cons _ <| .cons_cons _ <| .refl _)) (fun _ _ _ h => h) (Ap B1 (Ac) (CellF.own hX.blk rfl).cell) ?_
         refine A6 9 rfl (by kernel_rfl) (by kernel_rfl) (by kernel_rfl) (by kernel_rfl) rfl rfl (fun _ h => h.drop (.cons_cons _ <| .cons_cons _ <| .refl _)) (fun _ _ _ h => h) (Ag (Bn rfl <| Al rfl <| Bn rfl <| A4 rfl <| A2 rfl <| Ar rfl <| Aj rfl)) ?_
         refine A6 10 rfl (by kernel_rfl) (by kernel_rfl) (by kernel_rfl) (by kernel_rfl) rfl rfl (fun _ h => h.drop (.cons_cons _ <| .cons_cons _ <| .refl _)) (fun _ _ _ h => h) (Be (k := x) B7 (Ak rfl <| Ac) hX.r.eds.plain (Ac) rfl hxp) ?_
         refine A6 11 rfl (by kernel_rfl) (by kernel_rfl) (by kernel_rfl) (by kernel_rfl) rfl rfl (fun _ h => h.drop (.cons_cons _ <| .cons_cons _ <| .refl _)) (fun _ _ _ h => h) (Bt Cd (Ac)) ?_
         refine A6 12 rfl (by kernel_rfl) (by kernel_rfl) (by kernel_rfl) (by kernel_rfl) rfl rfl (fun _ h => h.drop (.cons_cons _ <| .cons_cons _ <| .refl _)) (fun _ _ _ h => h) (Ap Cg (Ac) (hX.r.eds.cell hxp rfl)) ?_
         refine WX_x 13 rfl (by kernel_rfl) rfl (x_callNf bd_76 Az (.cons (Ac) .nil) (cloneInt_own hrx (by omega)) fun v47 F48 R51 hr49 hF50 => ⟨fun _ _ _ h => (h.drop (List.sublist_append_of_sublist_right <| .cons_cons _ <| .cons_cons _ <| .refl _)).weak hF50 hleS, ?_⟩)
         replace hX := hX.mono hF50
         replace hFG := Heap.le_trans hFG hF50
         replace hz11 := hF50 _ _ hz11
         have hoR := hr49
         refine A6 14 rfl (by kernel_rfl) (by kernel_rfl) (by kernel_rfl) (by kernel_rfl) rfl rfl (fun _ h => (h.drop (List.sublist_append_of_sublist_right <| .cons_cons _ <| .cons_cons _ <| .refl _)).weak hF50 hleS) (fun _ _ _ h => h) (Be (k := x) B7 (A7 rfl <| Ar rfl <| Ak rfl <| Ac) (hoE.plain (by omega)) (A7 rfl <| Ar rfl <| Ac) rfl hxp) ?_
         refine A6 15 rfl (by kernel_rfl) (by kernel_rfl) (by kernel_rfl) (by kernel_rfl) rfl rfl (fun _ h => (h.drop (List.sublist_append_of_sublist_right <| .cons_cons _ <| .cons_cons _ <| .refl _)).weak hF50 hleS) (fun _ _ _ h => h) (Bt Cd (Ac)) ?_
         refine WX_orderB (.one (.skip <| .here) <| .one (.skip <| .here) <| .blk (.skip <| .here) <| .blk (.lastS) <| .lastb (.last)) ?_
         refine WX_x0 16 rfl (by kernel_rfl) (x_storeR sz_26 (Ac) (Ar rfl <| Ac) hoE (by rw [Ed edE_len]; omega) (Own.one hoR) (.s <| .s <| .k <| .z) .more fun R52 ho53 => ⟨(fun h => nomatch h), ?_⟩)
         have hoE2 := ed_own_set (e := (s.ed x).setR p ((k : Int) + 1)) ho53 hxp (by rw [e1]; rfl) (by rw [e1]; rfl) (by rw [e1]; rfl)
         refine C3 (by kernel_rfl) ?_ _
         refine Ad <| Af <| Ai fun ds => Aa rfl (Am B8 (A4 rfl <| A7 rfl <| Ac)) ?_
         refine Aa rfl (Am Br (Ac)) ?_
         refine Aa rfl (Ap B1 (Ac) (Cell.own 0 rfl rfl)) ?_
         refine Aa rfl (Ag (Bn rfl <| A7 rfl <| Ar rfl <| Al rfl <| Bn rfl <| A4 rfl <| A2 rfl <| Ar rfl <| Aj rfl)) ?_
         refine Aa rfl (Be (k := x) B7 (Ak rfl <| Ac) (hoE2.plain (by rw [List.length_set]; omega)) (Ac) rfl (by simp; omega)) ?_
         refine Aa rfl (Bt Cd (Ac)) ?_
         refine Aa rfl (Ap Cg (Ac) (own_cell hoE2 (fun p hp => .tail _ (.tail _ (List.mem_append_right _ (List.mem_append_left _ hp)))) (ed_set_get hxp))) ?_
         refine Aa rfl (Ag (Bn rfl <| A7 rfl <| A2 rfl <| Ar rfl <| Al rfl <| Bn rfl <| A4 rfl <| A2 rfl <| Ar rfl <| Aj rfl)) ?_
         refine Aa rfl (Ag (Bn rfl <| A7 rfl <| A2 rfl <| Ac)) ?_
         refine Aa rfl (Bv (Ac) Ab rfl (by omega) (by omega)) ?_
         refine Aa rfl (Be (k := p) Bi (Ar rfl <| Ak rfl <| Ac) (hoR.plain (by omega)) (Ar rfl <| Ac) rfl hpx) ?_
         refine Ch (x_storeR sz_3 (Ac) (Ak rfl <| Ac) hoR (by rw [Ed (enc := intE) (s := 1) (fun _ => rfl)]; omega) rfl (.s <| .s <| .k <| .k <| .z) .last fun R54 ho55 => ?_)
         have hoR2 := ho55
         rw [show p * 1 = p * 1 + 0 from rfl, int_flat_set hpx] at hoR2
         replace hoR2 := hoR2.to (k' := ((s.ed x).rd.set p ((k : Int) + 1)).length) (by simp)
         refine Ah <| Ad <| Af <| Cw (σ := ⟨_, _⟩) (by rfl) hoR2 (.s <| .s <| .k <| .k <| .z) .last fun F56 hF57 hz58 => ?_
         replace hX := hX.mono hF57
         replace hFG := Heap.le_trans hFG hF57
         replace hz11 := hF57 _ _ hz11
         refine WC_pickB (.one (.here) <| .one (.here) <| .blk (.here) <| .lastb (.here)) ?_
         have hrn := hoR2.sl (fun _ => rfl) hz58 (by simp; omega)
         refine Cw (σ := ⟨_, _⟩) (by rfl) hoE2 (.s <| .s <| .k <| .z) .last fun F59 hF60 hz61 => ?_
         replace hX := hX.mono hF60
         replace hFG := Heap.le_trans hFG hF60
         replace hrn := hrn.mono hF60
         replace hz11 := hF60 _ _ hz11
         refine WC_pickB (.one (.here) <| .one (.here) <| .lastb (.here)) ?_
         have hen := hoE2.sl (fun _ => rfl) hz61 (by simp; omega)
         refine Cb (i := 0) rfl hb41 (.here) fun F62 hF63 hz15 => ?_
         replace hX := hX.mono hF63
         replace hFG := Heap.le_trans hFG hF63
         replace hrn := hrn.mono hF63
         replace hen := hen.mono hF63
         replace hz11 := hF63 _ _ hz11
         have hXm : StmX _ _ _ _ _ _ (setS s x p ((k : Int) + 1)) := ⟨hX.r.set hen hrn, hz15⟩
         by_cases hpl : decide (placeN (setS s x p ((k : Int) + 1)) l p = placeN s l p) = true
         ·
          have hrb : readB s l x p k = true := by unfold readB; rw [hkn, hpl]; rfl
          refine Ai fun ds => Aa rfl (A9 Bz (Bn rfl <| A4 rfl <| Ar rfl <| Al rfl <| Bn rfl <| A7 rfl <| Ar rfl <| Ak rfl <| Ac) rfl rfl (Cs hz11)) ?_
          refine Aa rfl (Ag (Bn rfl <| A4 rfl <| Ar rfl <| Ak rfl <| Al rfl <| Bn rfl <| A4 rfl <| A2 rfl <| Ar rfl <| Aj rfl)) ?_
          refine Bw rfl (Ba bd_82 Az (.cons (Bn rfl <| A2 rfl <| Ak rfl <| Ac) (.cons (Ak rfl <| Ac) (.cons (Ac) .nil))) (Dr hXm ht (by rw [setS_len]; exact hll) hvm hp) (fun _ _ h => h)) ?_
          refine Aa rfl (Ag (Bn rfl <| A4 rfl <| A2 rfl <| Ak rfl <| Al rfl <| A7 rfl <| Ar rfl <| Ak rfl <| Ac)) ?_
          refine Aa rfl (Bx (Ak rfl <| Ac) (Ac)) ?_
          refine Ah <| Ad <| Aq (Ac) hpl ?_
          refine Ai fun ds => Aa rfl (Ag (Bn rfl <| A4 rfl <| A2 rfl <| Ar rfl <| Ak rfl <| At rfl hs8)) ?_
          refine Aa rfl (Ag (Bn rfl <| A4 rfl <| A2 rfl <| Ak rfl <| Ac)) ?_
          refine Aa rfl (Bv (Ac) Ab rfl (by omega) (by omega)) ?_
          refine Bh rfl (B6 Bi C8 rfl (.cons (Ac) .nil) rfl rfl (by decide) (by simp [Value.oneCell']) fun b64 hb64 nb64 => ?_)
          refine B4 (i := 0) rfl hb64 .here fun F65 hF66 hz67 => ?_
          replace hFG := Heap.le_trans hFG hF66
          have hsl68 := Cu hz67
          refine Bh rfl (Cq Bi el_3 (Ar rfl <| Ak rfl <| Ac) ho (Ac) hsl68.srcInt (by simp only [List.length_singleton]; omega) (by simp only [List.length_singleton]; omega) (.s <| .z) .last fun v69 R70 ho71 => ?_)
          have ho2 := ho71.snoc (x := (k : Int) + 1) rfl rfl
          refine Aa rfl (Ae (Ac)) ?_
          refine Ah <| Bc <| Ad <| Ai fun ds => Aa rfl (Bv (Bn rfl <| A4 rfl <| A7 rfl <| A2 rfl <| Ak rfl <| At rfl hs62) Ab rfl (by omega) (by omega)) ?_
          refine Aa rfl (Ag (Ac)) ?_
          refine Ah <| Ad ⟨_, m - 1, Off.eq (ou32 rfl <| C9 rfl <| Dy rfl <| ou4 rfl <| ou2 rfl <| D7 rfl <| Bf), by omega, ?_⟩
          exact ⟨_, hFG, k + 1, by omega, (Ac), _, _, (Ar rfl <| Ac), by rw [readTo_succ, if_pos hrb]; exact ho2, rfl⟩
         ·
          replace hpl : decide (placeN (setS s x p ((k : Int) + 1)) l p = placeN s l p) = false := by simpa using hpl
          have hrb : readB s l x p k = false := by unfold readB; rw [hpl]; simp
          refine Ai fun ds => Aa rfl (A9 Bz (Bn rfl <| A4 rfl <| Ar rfl <| Al rfl <| Bn rfl <| A7 rfl <| Ar rfl <| Ak rfl <| Ac) rfl rfl (Cs hz11)) ?_
          refine Aa rfl (Ag (Bn rfl <| A4 rfl <| Ar rfl <| Ak rfl <| Al rfl <| Bn rfl <| A4 rfl <| A2 rfl <| Ar rfl <| Aj rfl)) ?_
          refine Bw rfl (Ba bd_82 Az (.cons (Bn rfl <| A2 rfl <| Ak rfl <| Ac) (.cons (Ak rfl <| Ac) (.cons (Ac) .nil))) (Dr hXm ht (by rw [setS_len]; exact hll) hvm hp) (fun _ _ h => h)) ?_
          refine Aa rfl (Ag (Bn rfl <| A4 rfl <| A2 rfl <| Ak rfl <| Al rfl <| A7 rfl <| Ar rfl <| Ak rfl <| Ac)) ?_
          refine Aa rfl (Bx (Ak rfl <| Ac) (Ac)) ?_
          refine Ah <| Ad <| Ao (Ac) hpl ?_
          refine Ay <| Bc <| Ad <| Ai fun ds => Aa rfl (Bv (Bn rfl <| A4 rfl <| A2 rfl <| Ar rfl <| Ak rfl <| At rfl hs62) Ab rfl (by omega) (by omega)) ?_
          refine Aa rfl (Ag (Ac)) ?_
          refine Ah <| Ad ⟨_, m - 1, Off.eq (ou32 rfl <| C9 rfl <| Dy rfl <| D7 rfl <| Bf), by omega, ?_⟩
          exact ⟨_, hFG, k + 1, by omega, (Ac), _, _, (Bn rfl <| A4 rfl <| A7 rfl <| Ak rfl <| At rfl hs8), by rw [readTo_succ, if_neg (by rw [hrb]; simp)]; exact ho, rfl⟩
        ·
         have hrb : readB s l x p k = false := by unfold readB; rw [decide_eq_false (show ¬ s.r x p = 0 by omega), decide_eq_false (show ¬ s.r x p = (k : Int) + 1 by omega)]; rfl
         refine Aq (Ac) (by rw [er]; exact decide_eq_true hke) ?_
         refine Bq ?_
         refine Bd (Bj ?_)
         refine Ad <| Ai fun ds => Aa rfl (Bv (A7 rfl <| Ar rfl <| Ak rfl <| At rfl hs62) Ab rfl (by omega) (by omega)) ?_
         refine Aa rfl (Ag (Ac)) ?_
         refine Ah <| Ad ⟨_, m - 1, Off.eq (Dy rfl <| ou4 rfl <| D7 rfl <| Bf), by omega, ?_⟩
         exact ⟨_, hFG, k + 1, by omega, (Ac), _, _, (A7 rfl <| A2 rfl <| Ak rfl <| At rfl hs8), by rw [readTo_succ, if_neg (by rw [hrb]; simp)]; exact ho, rfl⟩
       ·
        have hkn : (decide (s.r x p = 0) || decide (s.r x p = (k : Int) + 1)) = true := by rw [decide_eq_true (show s.r x p = 0 by omega)]; rfl
        refine Ay <| Ad <| Af <| A0 <| Af <| Ai fun ds => Aa rfl (Ag (Ak rfl <| At rfl hs62)) ?_
        refine Aa rfl (Ae (Ac)) ?_
        refine Ah <| Ad <| Af <| Af <| Ai fun ds => Aa rfl (Ag (Ar rfl <| Ak rfl <| Al rfl <| Ak rfl <| Ac)) ?_
        refine Aa rfl (C7 (Ac) Ab) ?_
        refine Aa rfl (Ag (Ac)) ?_
        refine Au rfl rfl (Ac) (.inl (congrArg Value.bool (by rw [er]; exact decide_eq_false hk0))) rfl ?_
        refine Au rfl rfl (Ak rfl <| Ac) (.inl (congrArg Value.bool (by rw [er]; exact decide_eq_false hk0))) rfl ?_
        refine Au rfl rfl (Ar rfl <| Ac) (.inl (congrArg Value.bool (by rw [er]; exact decide_eq_false hk0))) rfl ?_
        refine Au rfl rfl (Ar rfl <| Ak rfl <| Ac) (.inl (congrArg Value.bool (by rw [er]; exact decide_eq_false hk0))) rfl ?_
        refine Aa rfl (Bb (A2 rfl <| Ac) (by rw [er]; exact decide_eq_false hk0) Ab) ?_
        refine Ah <| Ad <| Ao (Ac) rfl ?_
        have hvm := setS_valid (v := (k : Int) + 1) hv hx hp (by omega)
        refine Ay <| Ad <| Af <| Ai fun ds => Aa rfl (Ag (A7 rfl <| Ar rfl <| Ak rfl <| Al rfl <| Bn rfl <| A7 rfl <| Ar rfl <| Ac)) ?_
        refine Aa rfl (By (Ac)) ?_
        refine Aa rfl (A9 agg_128 (Ac) rfl rfl (Cs hX.blk)) ?_
        refine Bh rfl (Ca zr_128 rfl fun b72 hb72 nb72 => ?_)
        refine Ch (Cc sz_128 (Ac) (Ak rfl <| Ac) (i := 0) rfl rfl rfl rfl hX.ones (.here) ?_)
        refine Ah <| Ad <| Af <| Ai fun ds => Aa rfl (Ag (A7 rfl <| A2 rfl <| Ar rfl <| Ak rfl <| Al rfl <| Bn rfl <| A7 rfl <| Ar rfl <| Ac)) ?_
        refine Aa rfl (By (Ac)) ?_
        refine Aa rfl (Am B8 (Ac)) ?_
        refine Aa rfl (Am Br (Ac)) ?_
        refine Aa rfl (Ap B1 (Ac) (CellF.own hX.blk rfl).cell) ?_
        refine Bh rfl (x_callNf bd_87 Az (.cons (Ac) .nil) (cloneEd_own hX.r.eds hX.r.one (by omega)) fun v73 F74 R77 hr75 hF76 => ?_)
        replace hX := hX.mono hF76
        replace hrx := hrx.mono hF76
        replace hFG := Heap.le_trans hFG hF76
        replace hle0 := Heap.le_trans hle0 hF76
        replace hz11 := hF76 _ _ hz11
        have hoE := hr75
        refine Aa rfl (Am B8 (A2 rfl <| Ar rfl <| Ac)) ?_
        refine Aa rfl (Am Br (Ac)) ?_
        refine WL_orderB (.one (.skip <| .here) <| .one (.skip <| .here) <| .blk (.lastS) <| .lastb (.last)) ?_
        refine Ch (Ci sz_23 (Ac) (Ar rfl <| Ac) (i := 0) rfl (.next <| .here) (Own.one hoE) (.here) ?_)
        refine Ah <| Ad <| Af ?_
        have hleS := hle0
        refine Cy (.inl rfl) (fun _ _ h => h) (.cons_cons _ <| .cons_cons _ <| .refl _) [16] (by kernel_rfl) fun ds => ?_
        refine A6 0 rfl (by kernel_rfl) (by kernel_rfl) (by kernel_rfl) (by kernel_rfl) rfl rfl (fun _ h => h.drop (.cons_cons _ <| .cons_cons _ <| .refl _)) (fun _ _ _ h => h) (Am B8 (A7 rfl <| Ac)) ?_
        refine A6 1 rfl (by kernel_rfl) (by kernel_rfl) (by kernel_rfl) (by kernel_rfl) rfl rfl (fun _ h => h.drop (.cons_cons _ <| .cons_cons _ <| .refl _)) (fun _ _ _ h => h) (Am Br (Ac)) ?_
        refine A6 2 rfl (by kernel_rfl) (by kernel_rfl) (by kernel_rfl) (by kernel_rfl) rfl rfl (fun _ h => h.drop (.cons_cons _ <| .cons_cons _ <| .refl _)) (fun _ _ _ h => h) (Ap B1 (Ac) (Cell.own 0 rfl rfl)) ?_
        refine A6 3 rfl (by kernel_rfl) (by kernel_rfl) (by kernel_rfl) (by kernel_rfl) rfl rfl (fun _ h => h.drop (.cons_cons _ <| .cons_cons _ <| .refl _)) (fun _ _ _ h => h) (Ag (A4 rfl <| A7 rfl <| Ar rfl <| Al rfl <| Bn rfl <| A4 rfl <| A2 rfl <| Ar rfl <| Aj rfl)) ?_
        refine A6 4 rfl (by kernel_rfl) (by kernel_rfl) (by kernel_rfl) (by kernel_rfl) rfl rfl (fun _ h => h.drop (.cons_cons _ <| .cons_cons _ <| .refl _)) (fun _ _ _ h => h) (Ag (A4 rfl <| A7 rfl <| Ar rfl <| Ak rfl <| Al rfl <| Bn rfl <| A7 rfl <| Ar rfl <| Ac)) ?_
        refine A6 5 rfl (by kernel_rfl) (by kernel_rfl) (by kernel_rfl) (by kernel_rfl) rfl rfl (fun _ h => h.drop (.cons_cons _ <| .cons_cons _ <| .refl _)) (fun _ _ _ h => h) (By (Ac)) ?_
        refine A6 6 rfl (by kernel_rfl) (by kernel_rfl) (by kernel_rfl) (by kernel_rfl) rfl rfl (fun _ h => h.drop (.cons_cons _ <| .cons_cons _ <| .refl _)) (fun _ _ _ h => h) (Am B8 (Ac)) ?_
        refine A6 7 rfl (by kernel_rfl) (by kernel_rfl) (by kernel_rfl) (by kernel_rfl) rfl rfl (fun _ h => h.drop (.cons_cons _ <| .cons_cons _ <| .refl _)) (fun _ _ _ h => h) (Am Br (Ac)) ?_
        refine A6 8 rfl (by kernel_rfl) (by kernel_rfl) (by kernel_rfl) (by kernel_rfl) rfl rfl (fun _ h => h.drop (.cons_cons _ <| .cons_cons _ <| .refl _)) (fun _ _ _ h => h) (Ap B1 (Ac) (CellF.own hX.blk rfl).cell) ?_
        refine A6 9 rfl (by kernel_rfl) (by kernel_rfl) (by kernel_rfl) (by kernel_rfl) rfl rfl (fun _ h => h.drop (.cons_cons _ <| .cons_cons _ <| .refl _)) (fun _ _ _ h => h) (Ag (Bn rfl <| Al rfl <| Bn rfl <| A4 rfl <| A2 rfl <| Ar rfl <| Aj rfl)) ?_
        refine A6 10 rfl (by kernel_rfl) (by kernel_rfl) (by kernel_rfl) (by kernel_rfl) rfl rfl (fun _ h => h.drop (.cons_cons _ <| .cons_cons _ <| .refl _)) (fun _ _ _ h => h) (Be (k := x) B7 (Ak rfl <| Ac) hX.r.eds.plain (Ac) rfl hxp) ?_
        refine A6 11 rfl (by kernel_rfl) (by kernel_rfl) (by kernel_rfl) (by kernel_rfl) rfl rfl (fun _ h => h.drop (.cons_cons _ <| .cons_cons _ <| .refl _)) (fun _ _ _ h => h) (Bt Cd (Ac)) ?_
        refine A6 12 rfl (by kernel_rfl) (by kernel_rfl) (by kernel_rfl) (by kernel_rfl) rfl rfl (fun _ h => h.drop (.cons_cons _ <| .cons_cons _ <| .refl _)) (fun _ _ _ h => h) (Ap Cg (Ac) (hX.r.eds.cell hxp rfl)) ?_
        refine WX_x 13 rfl (by kernel_rfl) rfl (x_callNf bd_76 Az (.cons (Ac) .nil) (cloneInt_own hrx (by omega)) fun v78 F79 R82 hr80 hF81 => ⟨fun _ _ _ h => (h.drop (List.sublist_append_of_sublist_right <| .cons_cons _ <| .cons_cons _ <| .refl _)).weak hF81 hleS, ?_⟩)
        replace hX := hX.mono hF81
        replace hFG := Heap.le_trans hFG hF81
        replace hz11 := hF81 _ _ hz11
        have hoR := hr80
        refine A6 14 rfl (by kernel_rfl) (by kernel_rfl) (by kernel_rfl) (by kernel_rfl) rfl rfl (fun _ h => (h.drop (List.sublist_append_of_sublist_right <| .cons_cons _ <| .cons_cons _ <| .refl _)).weak hF81 hleS) (fun _ _ _ h => h) (Be (k := x) B7 (A7 rfl <| Ar rfl <| Ak rfl <| Ac) (hoE.plain (by omega)) (A7 rfl <| Ar rfl <| Ac) rfl hxp) ?_
        refine A6 15 rfl (by kernel_rfl) (by kernel_rfl) (by kernel_rfl) (by kernel_rfl) rfl rfl (fun _ h => (h.drop (List.sublist_append_of_sublist_right <| .cons_cons _ <| .cons_cons _ <| .refl _)).weak hF81 hleS) (fun _ _ _ h => h) (Bt Cd (Ac)) ?_
        refine WX_orderB (.one (.skip <| .here) <| .one (.skip <| .here) <| .blk (.skip <| .here) <| .blk (.lastS) <| .lastb (.last)) ?_
        refine WX_x0 16 rfl (by kernel_rfl) (x_storeR sz_26 (Ac) (Ar rfl <| Ac) hoE (by rw [Ed edE_len]; omega) (Own.one hoR) (.s <| .s <| .k <| .z) .more fun R83 ho84 => ⟨(fun h => nomatch h), ?_⟩)
        have hoE2 := ed_own_set (e := (s.ed x).setR p ((k : Int) + 1)) ho84 hxp (by rw [e1]; rfl) (by rw [e1]; rfl) (by rw [e1]; rfl)
        refine C3 (by kernel_rfl) ?_ _
        refine Ad <| Af <| Ai fun ds => Aa rfl (Am B8 (A4 rfl <| A7 rfl <| Ac)) ?_
        refine Aa rfl (Am Br (Ac)) ?_
        refine Aa rfl (Ap B1 (Ac) (Cell.own 0 rfl rfl)) ?_
        refine Aa rfl (Ag (Bn rfl <| A7 rfl <| Ar rfl <| Al rfl <| Bn rfl <| A4 rfl <| A2 rfl <| Ar rfl <| Aj rfl)) ?_
        refine Aa rfl (Be (k := x) B7 (Ak rfl <| Ac) (hoE2.plain (by rw [List.length_set]; omega)) (Ac) rfl (by simp; omega)) ?_
        refine Aa rfl (Bt Cd (Ac)) ?_
        refine Aa rfl (Ap Cg (Ac) (own_cell hoE2 (fun p hp => .tail _ (.tail _ (List.mem_append_right _ (List.mem_append_left _ hp)))) (ed_set_get hxp))) ?_
        refine Aa rfl (Ag (Bn rfl <| A7 rfl <| A2 rfl <| Ar rfl <| Al rfl <| Bn rfl <| A4 rfl <| A2 rfl <| Ar rfl <| Aj rfl)) ?_
        refine Aa rfl (Ag (Bn rfl <| A7 rfl <| A2 rfl <| Ac)) ?_
        refine Aa rfl (Bv (Ac) Ab rfl (by omega) (by omega)) ?_
        refine Aa rfl (Be (k := p) Bi (Ar rfl <| Ak rfl <| Ac) (hoR.plain (by omega)) (Ar rfl <| Ac) rfl hpx) ?_
        refine Ch (x_storeR sz_3 (Ac) (Ak rfl <| Ac) hoR (by rw [Ed (enc := intE) (s := 1) (fun _ => rfl)]; omega) rfl (.s <| .s <| .k <| .k <| .z) .last fun R85 ho86 => ?_)
        have hoR2 := ho86
        rw [show p * 1 = p * 1 + 0 from rfl, int_flat_set hpx] at hoR2
        replace hoR2 := hoR2.to (k' := ((s.ed x).rd.set p ((k : Int) + 1)).length) (by simp)
        refine Ah <| Ad <| Af <| Cw (σ := ⟨_, _⟩) (by rfl) hoR2 (.s <| .s <| .k <| .k <| .z) .last fun F87 hF88 hz89 => ?_
        replace hX := hX.mono hF88
        replace hFG := Heap.le_trans hFG hF88
        replace hz11 := hF88 _ _ hz11
        refine WC_pickB (.one (.here) <| .one (.here) <| .blk (.here) <| .lastb (.here)) ?_
        have hrn := hoR2.sl (fun _ => rfl) hz89 (by simp; omega)
        refine Cw (σ := ⟨_, _⟩) (by rfl) hoE2 (.s <| .s <| .k <| .z) .last fun F90 hF91 hz92 => ?_
        replace hX := hX.mono hF91
        replace hFG := Heap.le_trans hFG hF91
        replace hrn := hrn.mono hF91
        replace hz11 := hF91 _ _ hz11
        refine WC_pickB (.one (.here) <| .one (.here) <| .lastb (.here)) ?_
        have hen := hoE2.sl (fun _ => rfl) hz92 (by simp; omega)
        refine Cb (i := 0) rfl hb72 (.here) fun F93 hF94 hz15 => ?_
        replace hX := hX.mono hF94
        replace hFG := Heap.le_trans hFG hF94
        replace hrn := hrn.mono hF94
        replace hen := hen.mono hF94
        replace hz11 := hF94 _ _ hz11
        have hXm : StmX _ _ _ _ _ _ (setS s x p ((k : Int) + 1)) := ⟨hX.r.set hen hrn, hz15⟩
        by_cases hpl : decide (placeN (setS s x p ((k : Int) + 1)) l p = placeN s l p) = true
        ·
         have hrb : readB s l x p k = true := by unfold readB; rw [hkn, hpl]; rfl
         refine Ai fun ds => Aa rfl (A9 Bz (Bn rfl <| A4 rfl <| Ar rfl <| Al rfl <| Bn rfl <| A7 rfl <| Ar rfl <| Ak rfl <| Ac) rfl rfl (Cs hz11)) ?_
         refine Aa rfl (Ag (Bn rfl <| A4 rfl <| Ar rfl <| Ak rfl <| Al rfl <| Bn rfl <| A4 rfl <| A2 rfl <| Ar rfl <| Aj rfl)) ?_
         refine Bw rfl (Ba bd_82 Az (.cons (Bn rfl <| A2 rfl <| Ak rfl <| Ac) (.cons (Ak rfl <| Ac) (.cons (Ac) .nil))) (Dr hXm ht (by rw [setS_len]; exact hll) hvm hp) (fun _ _ h => h)) ?_
         refine Aa rfl (Ag (Bn rfl <| A4 rfl <| A2 rfl <| Ak rfl <| Al rfl <| A7 rfl <| Ar rfl <| Ak rfl <| Ac)) ?_
         refine Aa rfl (Bx (Ak rfl <| Ac) (Ac)) ?_
         refine Ah <| Ad <| Aq (Ac) hpl ?_
         refine Ai fun ds => Aa rfl (Ag (Bn rfl <| A4 rfl <| A2 rfl <| Ar rfl <| Ak rfl <| At rfl hs8)) ?_
         refine Aa rfl (Ag (Bn rfl <| A4 rfl <| A2 rfl <| Ak rfl <| Ac)) ?_
         refine Aa rfl (Bv (Ac) Ab rfl (by omega) (by omega)) ?_
         refine Bh rfl (B6 Bi C8 rfl (.cons (Ac) .nil) rfl rfl (by decide) (by simp [Value.oneCell']) fun b95 hb95 nb95 => ?_)
         refine B4 (i := 0) rfl hb95 .here fun F96 hF97 hz98 => ?_
         replace hFG := Heap.le_trans hFG hF97
         have hsl99 := Cu hz98
         refine Bh rfl (Cq Bi el_3 (Ar rfl <| Ak rfl <| Ac) ho (Ac) hsl99.srcInt (by simp only [List.length_singleton]; omega) (by simp only [List.length_singleton]; omega) (.s <| .z) .last fun v100 R101 ho102 => ?_)
         have ho2 := ho102.snoc (x := (k : Int) + 1) rfl rfl
         refine Aa rfl (Ae (Ac)) ?_
         refine Ah <| Bc <| Ad <| Ai fun ds => Aa rfl (Bv (Bn rfl <| A4 rfl <| A7 rfl <| A2 rfl <| Ak rfl <| At rfl hs62) Ab rfl (by omega) (by omega)) ?_
         refine Aa rfl (Ag (Ac)) ?_
         refine Ah <| Ad ⟨_, m - 1, Off.eq (ou32 rfl <| C9 rfl <| Dy rfl <| ou4 rfl <| ou2 rfl <| D7 rfl <| Bf), by omega, ?_⟩
         exact ⟨_, hFG, k + 1, by omega, (Ac), _, _, (Ar rfl <| Ac), by rw [readTo_succ, if_pos hrb]; exact ho2, rfl⟩
        ·
         replace hpl : decide (placeN (setS s x p ((k : Int) + 1)) l p = placeN s l p) = false := by simpa using hpl
         have hrb : readB s l x p k = false := by unfold readB; rw [hpl]; simp
         refine Ai fun ds => Aa rfl (A9 Bz (Bn rfl <| A4 rfl <| Ar rfl <| Al rfl <| Bn rfl <| A7 rfl <| Ar rfl <| Ak rfl <| Ac) rfl rfl (Cs hz11)) ?_
         refine Aa rfl (Ag (Bn rfl <| A4 rfl <| Ar rfl <| Ak rfl <| Al rfl <| Bn rfl <| A4 rfl <| A2 rfl <| Ar rfl <| Aj rfl)) ?_
         refine Bw rfl (Ba bd_82 Az (.cons (Bn rfl <| A2 rfl <| Ak rfl <| Ac) (.cons (Ak rfl <| Ac) (.cons (Ac) .nil))) (Dr hXm ht (by rw [setS_len]; exact hll) hvm hp) (fun _ _ h => h)) ?_
         refine Aa rfl (Ag (Bn rfl <| A4 rfl <| A2 rfl <| Ak rfl <| Al rfl <| A7 rfl <| Ar rfl <| Ak rfl <| Ac)) ?_
         refine Aa rfl (Bx (Ak rfl <| Ac) (Ac)) ?_
         refine Ah <| Ad <| Ao (Ac) hpl ?_
         refine Ay <| Bc <| Ad <| Ai fun ds => Aa rfl (Bv (Bn rfl <| A4 rfl <| A2 rfl <| Ar rfl <| Ak rfl <| At rfl hs62) Ab rfl (by omega) (by omega)) ?_
         refine Aa rfl (Ag (Ac)) ?_
         refine Ah <| Ad ⟨_, m - 1, Off.eq (ou32 rfl <| C9 rfl <| Dy rfl <| D7 rfl <| Bf), by omega, ?_⟩
         exact ⟨_, hFG, k + 1, by omega, (Ac), _, _, (Bn rfl <| A4 rfl <| A7 rfl <| Ak rfl <| At rfl hs8), by rw [readTo_succ, if_neg (by rw [hrb]; simp)]; exact ho, rfl⟩
      ·
       refine Af <| Ai fun ds => Aa rfl (Bs (At rfl hs62) Ab) ?_
       refine Ah <| Ad <| Af <| Ao (Ac) (by first | rfl | exact decide_eq_false (by omega)) ?_
       obtain rfl : k = 3 := by omega
       refine Cw (σ := ⟨_, _⟩) (by rfl) ho (.s <| .z) .last fun F103 hF104 hz105 => ?_
       have hn8 := ho.sl (fun _ => rfl) hz105 (by have := readTo_len (s := s) (l := l) (x := x) (p := p) (k := 3); omega)
       refine Bq ?_
       refine Bd <| Bd <| Bj <| Ad <| Af <| Ai fun ds => Aa rfl (Ag (Ak rfl <| At rfl hs8)) ?_
       refine Aa rfl (Ae (Ac)) ?_
       refine Aa rfl (Ae Ab) ?_
       refine Ah <| Ad <| A3 <| Aw rfl (.tmp (Ak rfl <| Ac) (.tmp (Ac) .nil)) ?_
       rw [readE_ok hre, Int.toNat_natCast, Int.toNat_natCast]
       exact ⟨_, rfl, hn8⟩
   ·
    replace h2 : inB 0 (s.places.length - 1) q = false := by simpa using h2
    refine Aq (Ac) (by simp [h2]) ?_
    refine Af <| Ai fun ds => Aa rfl (Ae Ab) ?_
    refine Aa rfl (Ae Ab) ?_
    refine Ah <| Ad <| A3 <| Bg (A8 ?_)
    refine Aw rfl (.tmp (Ak rfl <| Ac) (.tmp (Ac) .nil)) ?_
    rw [readE_bad (readErr_2 hok (by rw [h1, h2]; rfl)) (by decide)]
    exact ⟨_, rfl, Sl.nil⟩
  ·
   replace h1 : inB 0 (s.editions.length - 1) z = false := by simpa using h1
   refine Af <| Ai fun ds => Aa rfl (Am Br (A7 rfl <| A2 rfl <| Ar rfl <| Ak rfl <| Ac)) ?_
   refine Aa rfl (Ap B1 (Ac) (CellF.own hz4 rfl).cell) ?_
   refine Aa rfl (Bk B7 (Ac) hr.eds.plain) ?_
   refine Aa rfl (q_sub (Ac) Ab rfl (by omega) (by omega)) ?_
   refine Aa rfl (Ag (A4 rfl <| A2 rfl <| Aj rfl)) ?_
   refine Bh rfl (B6 Bi C8 rfl (.cons (Ac) .nil) rfl rfl (by decide) (by simp [Value.oneCell']) fun b106 hb106 nb106 => ?_)
   refine B4 (i := 0) rfl hb106 .here fun F107 hF108 hz109 => ?_
   have hsl110 := Cu hz109
   refine Bw rfl (Ba Dw Az (.cons Ab (.cons (Ar rfl <| Ac) (.cons (Ac) .nil))) (Ce _ _ hsl110) (fun _ _ h => h)) ?_
   refine Aa rfl (Ag (Ac)) ?_
   refine Au rfl rfl (Ac) (.inl (congrArg Value.bool (by simp [hlen, h1]))) rfl ?_
   refine Au rfl rfl (Ak rfl <| Ac) (.inl (congrArg Value.bool (by simp [hlen, h1]))) rfl ?_
   refine Au rfl rfl (Ar rfl <| Ac) (.inl (congrArg Value.bool (by simp [hlen, h1]))) rfl ?_
   refine Au rfl rfl (Ar rfl <| Ak rfl <| Ac) (.inl (congrArg Value.bool (by simp [hlen, h1]))) rfl ?_
   refine Au rfl rfl (A2 rfl <| Ac) (.inl (congrArg Value.bool (by simp [hlen, h1]))) rfl ?_
   refine Au rfl rfl (A2 rfl <| Ak rfl <| Ac) (.inl (congrArg Value.bool (by simp [hlen, h1]))) rfl ?_
   refine Au rfl rfl (A2 rfl <| Ar rfl <| Ac) (.inl (congrArg Value.bool (by simp [hlen, h1]))) rfl ?_
   refine Aa rfl (A1 (A2 rfl <| Ar rfl <| Ak rfl <| Ac) (by simp [hlen, h1]) Ab) ?_
   refine Aa rfl (Ae (Ac)) ?_
   refine Ah <| Ad <| Aq (Ac) rfl ?_
   refine Af <| Ai fun ds => Aa rfl (Ae Ab) ?_
   refine Aa rfl (Ae Ab) ?_
   refine Ah <| Ad <| A3 <| Bg (A8 ?_)
   refine Aw rfl (.tmp (Ak rfl <| Ac) (.tmp (Ac) .nil)) ?_
   rw [readE_bad (readErr_2 hok (by rw [h1]; rfl)) (by decide)]
   exact ⟨_, rfl, Sl.nil⟩
 ·
  refine Af <| Ai fun ds => Bh rfl (B2 (Aj rfl) rfl fun b111 hb111 nb111 => ?_)
  refine Aa rfl (Ae Ab) ?_
  refine Aa rfl (Ae Ab) ?_
  refine Ah <| Ad <| Af <| Ai fun ds => Aa rfl (A9 B5 (Ar rfl <| Ac) rfl rfl (A5 0 rfl)) ?_
  refine Aa rfl (Ag (A2 rfl <| Aj rfl)) ?_
  refine Bh rfl (Cj bd_68 Az (.cons (Ak rfl <| Ac) (.cons (Ac) .nil)) (enter_bad hr hl hok) fun v112 F113 hr114 hF115 => ?_)
  obtain ⟨l2, rfl⟩ := hr114
  refine Aa rfl (Ag (Ac)) ?_
  refine Aa rfl (Ax (Ac) rfl) ?_
  refine Aa rfl (Ax (Ak rfl <| Ac) rfl) ?_
  refine Aa rfl (Ax (Ar rfl <| Ac) rfl) ?_
  refine Bh rfl (Ca Dv rfl fun b116 hb116 nb116 => ?_)
  refine Aa rfl (Ae (Ar rfl <| Ak rfl <| Ac)) ?_
  refine Ch (Cc D0 (Ak rfl <| Ac) (Ar rfl <| Ak rfl <| Ac) (i := 0) rfl rfl rfl rfl C5 (.here) ?_)
  refine Aa rfl (Ae (Ar rfl <| Ac)) ?_
  refine Ah <| Ad <| Af <| A0 <| Af <| Ai fun ds => Aa rfl (Ag (Ac)) ?_
  refine Aa rfl (B0 (Ac) Ab) ?_
  refine Aa rfl (Ae (Ac)) ?_
  refine Ah <| Ad <| Aq (Ac) (decide_eq_true hok) ?_
  refine Af <| Ai fun ds => Aa rfl (Ag (Ar rfl <| Ak rfl <| Ac)) ?_
  refine Aa rfl (Ae Ab) ?_
  refine Aa rfl (Ae (Ak rfl <| Ac)) ?_
  refine Ah <| Ad <| A3 <| Bg (A8 ?_)
  refine Aw rfl (.tmp (Ak rfl <| Ac) (.tmp (Ac) .nil)) ?_
  rw [readE_bad (readErr_1 hok) hok]
  exact ⟨_, rfl, Sl.nil⟩
end Go.Proofs.Ytccogmkhijgelaa
namespace Go.Proofs.Ytccogmkhijgelaa
open Go.RowKit
theorem zr_119 : ZeroT Try.prog 119 (.nilFunc) := Cz (by kernel_rfl)
theorem zr_26 : ZeroT Try.prog 26 (.slice none 0 0) := Cz (by kernel_rfl)
theorem zr_4 : ZeroT Try.prog 4 (.bool false) := Cz (by kernel_rfl)
theorem bd_84 : Body Try.prog 84 := Bo (by kernel_rfl)
theorem one_119 : OneT Try.prog 119 := Dl (by kernel_rfl)
theorem one_4 : OneT Try.prog 4 := Dl (by kernel_rfl)
theorem sz_119 : SizeT Try.prog 119 1 := Cr (by kernel_rfl)
theorem sz_4 : SizeT Try.prog 4 1 := Cr (by kernel_rfl)
theorem setTo_succ {s : Stm} {p k : Nat} : setTo s p (k + 1) = setTo s p k ||| 2 ^ (s.r k p).toNat := rfl
theorem kindTo_succ {s : Stm} {p k : Nat} : kindTo s p (k + 1) = kindTo s p k + if metB s p (k + 1) = true then 1 else 0 := rfl
theorem cleanS_none {s : Stm} {xs : List (List Int)} {t : List Int} (h : cleanR s xs = none) : cleanR s (xs ++ [t]) = some (uncleanL s t) := by rw [cleanR_snoc, h]; rfl
theorem cleanS_yes {s : Stm} {xs : List (List Int)} {t : List Int} {b : List Nat} (h : cleanR s xs = some b) (h2 : (uncleanL s t).length < b.length ∨ ((uncleanL s t).length = b.length ∧ cmpL (uncleanL s t) b < 0)) : cleanR s (xs ++ [t]) = some (uncleanL s t) := by rw [cleanR_snoc, h]; exact if_pos h2
theorem cleanS_no {s : Stm} {xs : List (List Int)} {t : List Int} {b : List Nat} (h : cleanR s xs = some b) (h2 : ¬ ((uncleanL s t).length < b.length ∨ ((uncleanL s t).length = b.length ∧ cmpL (uncleanL s t) b < 0))) : cleanR s (xs ++ [t]) = some b := by rw [cleanR_snoc, h]; exact if_neg h2
theorem bit_met {s : Stm} {p j : Nat} (hv : ValidT s) (hp : p < s.places.length) : (setTo s p s.editions.length / 2 ^ (j + 1) &&& 1 : Nat) = if metB s p (j + 1) = true then 1 else 0 := by
 have h := setTo_bit (v := j + 1) (fun i hi => (hv.rd i p hi hp).1) (Nat.le_refl s.editions.length)
 rw [Nat.testBit_eq_decide_div_mod_eq] at h
 rw [Nat.and_one_is_mod]
 unfold metB
 rw [← h]
 by_cases h2 : setTo s p s.editions.length / 2 ^ (j + 1) % 2 = 1
 · rw [if_pos (decide_eq_true h2)]; exact h2
 · rw [if_neg (by simpa using h2)]; omega
theorem opt_or {α : Type} (o : Option α) : o = none ∨ ∃ b, o = some b := by cases o with | none => exact .inl rfl | some b => exact .inr ⟨b, rfl⟩
theorem pow_le8T {n : Nat} (h : n ≤ 3) : 2 ^ n ≤ 8 := by
 have : n = 0 ∨ n = 1 ∨ n = 2 ∨ n = 3 := by omega
 rcases this with rfl | rfl | rfl | rfl <;> decide
set_option maxRecDepth 100000 in
theorem clean_top_ok {F : Heap} {vp ve : Value} {ps : List (Value × Edn)} {s : Stm} (hr : StmR F vp ve ps s) : Ok Try.prog 33 [.agg #[vp, ve]].toArray F fun u F' => NatsR F' u (cleanE s) := by
 have hle0 : F.le F := Heap.le_refl _
 refine Ok.intro Try.func33 rfl Try.ntmps33 rfl fun w0 => ?_
 have hL1 := hr.eds.plain.lt
 have hL2 := hr.places.plain.lt
 have hlen := hr.len
 by_cases h0 : (checkT s).2.2 = 0
 ·
  have hv := Dh h0
  have hne := hv.ne
  have hnp := hv.np
  refine Af <| Ai fun ds => Bh rfl (B2 (Aj rfl) rfl fun b1 hb1 nb1 => ?_)
  refine Bh rfl (Ca zr_26 rfl fun b2 hb2 nb2 => ?_)
  refine Aa rfl (Ae Ab) ?_
  refine Ah <| Ad <| Af <| Ai fun ds => Aa rfl (A9 B5 (Ar rfl <| Ac) rfl rfl (A5 1 rfl)) ?_
  refine Bh rfl (Dj bd_65 Az (.cons (Ac) .nil) (open_ok hr h0) fun v3 F4 R7 hr5 hF6 => ?_)
  replace hr := hr.mono hF6
  obtain ⟨ba, kb, rfl, hX, rfl⟩ := hr5
  refine Aa rfl (Ag (Ac)) ?_
  refine Aa rfl (Ax (Ac) rfl) ?_
  refine Aa rfl (Ax (Ak rfl <| Ac) rfl) ?_
  refine Aa rfl (Ae (Ak rfl <| Ac)) ?_
  refine Aa rfl (Ae (Ak rfl <| Ac)) ?_
  refine Ah <| Ad <| Af <| Af <| Ai fun ds => Aa rfl (Ag (Ac)) ?_
  refine Aa rfl (B0 (Ac) Ab) ?_
  refine Ah <| Ad <| Ao (Ac) (by decide) ?_
  refine Ay <| Ad <| Af <| Ai fun ds => Bh rfl (Ca zr_26 rfl fun b8 hb8 nb8 => ?_)
  refine Ah <| Ad <| Af <| Af <| Ai fun ds => Aa rfl (Am Ct (A7 rfl <| A2 rfl <| Ac)) ?_
  refine Aa rfl (Ap C1 (Ac) (Cell.own 2 rfl rfl)) ?_
  refine Aa rfl (Bk Db (Ac) hr.places.plain) ?_
  refine Aa rfl (Ag Ab) ?_
  refine Ah <| Ad <| A0 <| Bu [6, 7, 9, 10, 11, 29, 30, 31, 32, 33, 34, 35, 36, 37, 38, 39, 40, 41, 42, 43, 44, 45, 46, 47, 48, 49, 50, 51, 52, 53, 54, 55, 56, 57, 58, 59, 60, 61, 62, 63, 64] (fun m e σ => ∃ p : Nat, m + p = s.places.length ∧ e 29 = .int .i64 (p : Int) ∧ ∃ v5 R5, Own 3 1 v5 (iL (needN s) p).length ((iL (needN s) p).flatMap intE) R5 ∧ σ = ⟨F4, (b8, bx 26 [v5]) :: (b2, bx 26 [.slice none 0 0]) :: (b1, bx 25 [vp, ve]) :: (kb, mapO []) :: R5⟩) (s.places.length) ?_ ?_
  · exact ⟨0, by omega, (Ac), _, [], Ec, rfl⟩
  ·
   rintro m e _ ⟨p, hm, hs29, v5, R5, ho, rfl⟩; have hil9 := C0 (f := needN s) (n := p)
   by_cases hp : p < s.places.length
   ·
    refine Af <| Ai fun ds => Aa rfl (Bs (At rfl hs29) (Al rfl <| Ak rfl <| Ac)) ?_
    refine Ah <| Ad <| Af <| Aq (Ac) (by first | rfl | exact decide_eq_true (by omega)) ?_
    refine Ay <| Ad <| Af <| A0 <| Af <| Ai fun ds => Aa rfl (Ag (Ak rfl <| At rfl hs29)) ?_
    refine Aa rfl (Ae (Ac)) ?_
    refine Ah <| Ad <| Af <| Ai fun ds => Aa rfl (Ae Ab) ?_
    refine Ah <| Ad <| Af <| Af <| Ai fun ds => Aa rfl (Am Br (A2 rfl <| Al rfl <| A4 rfl <| Ac)) ?_
    refine Aa rfl (Ap B1 (Ac) (Cell.own 2 rfl rfl)) ?_
    refine Aa rfl (Bk B7 (Ac) hr.eds.plain) ?_
    refine Aa rfl (Ag Ab) ?_
    refine Ah <| Ad <| A0 <| Bu [7, 9, 35, 36, 37, 38, 39, 40, 41, 42, 43, 44, 45, 46, 47] (fun m e σ => ∃ i : Nat, m + i = ps.length ∧ e 35 = .int .i64 (i : Int) ∧ e 7 = .int .i64 ((setTo s p i : Nat) : Int) ∧ σ = ⟨F4, (b8, bx 26 [v5]) :: (b2, bx 26 [.slice none 0 0]) :: (b1, bx 25 [vp, ve]) :: (kb, mapO []) :: R5⟩) (ps.length) ?_ ?_
    · exact ⟨0, by omega, (Ac), (A2 rfl <| Ac), rfl⟩
    ·
     rintro m1 e1 _ ⟨i, hm1, ht35, ht7, rfl⟩
     by_cases hli : i < ps.length
     ·
      have hil : i < s.editions.length := by omega
      have hri := hr.rd hli
      have hpi : p < (s.ed i).rd.length := by rw [hv.rdl i hil]; exact hp
      have er := rdT_at hpi
      have hrb := hv.rd i p hil hp
      have hst := setTo_lt (s := s) (p := p) (fun i hi => hv.rd i p hi hp) (k := i) (by omega)
      have hp8 := pow_le8T (n := (s.r i p).toNat) (by omega)
      refine Af <| Ai fun ds => Aa rfl (Bs (At rfl ht35) (Al rfl <| Ak rfl <| Ac)) ?_
      refine Ah <| Ad <| Af <| Aq (Ac) (by first | rfl | exact decide_eq_true (by omega)) ?_
      refine Ay <| Ad <| Af <| A0 <| Af <| Ai fun ds => Aa rfl (Be (k := i) B7 (Ak rfl <| Al rfl <| Ar rfl <| Ac) hr.eds.plain (Ak rfl <| At rfl ht35) rfl hli) ?_
      refine Aa rfl (A9 agg_64 (Ac) rfl rfl (hr.eds.whole hli)) ?_
      refine Bh rfl (Ca zr_64 rfl fun b11 hb11 nb11 => ?_)
      refine Ch (Cc sz_64 (Ac) (Ak rfl <| Ac) (i := 0) rfl rfl rfl rfl (edE_one (hr.one _ (List.getElem_mem hli))) (.here) ?_)
      refine Ah <| Ad <| Ai fun ds => Aa rfl (Ag (A2 rfl <| At rfl ht7)) ?_
      refine Aa rfl (Am Cd (Ak rfl <| Ac)) ?_
      refine Aa rfl (Ap Cg (Ac) (Cell.own 0 rfl rfl)) ?_
      refine Aa rfl (Ag (A2 rfl <| Ar rfl <| Ak rfl <| Al rfl <| A2 rfl <| Ak rfl <| Ac)) ?_
      refine Aa rfl (Be (k := p) Bi (Ak rfl <| Ac) hri.plain (Ac) rfl hpi) ?_
      refine Aa rfl (Ap Bm (Ac) (hri.cell1 hpi rfl)) ?_
      refine Aa rfl (q_shl Ab (Ac) (k := (s.r i p).toNat) (by rw [er]; omega) (by omega) (show (1 : Int) * 2 ^ (s.r i p).toNat = ((2 ^ (s.r i p).toNat : Nat) : Int) by simp) (Int.le_trans (by decide) (Int.natCast_nonneg _)) (by omega)) ?_
      refine Aa rfl (q_or (A2 rfl <| Ar rfl <| Ac) (Ac) (m := setTo s p i) (k := 2 ^ (s.r i p).toNat) rfl rfl (by omega) (by omega) rfl) ?_
      refine Aa rfl (Ae (Ac)) ?_
      refine Ah <| Bc <| Ad <| Dg (fun _ _ h => h.drop (.cons _ <| .cons_cons _ <| .cons_cons _ <| .cons_cons _ <| .cons_cons _ <| .refl _)) ?_
      refine Ai fun ds => Aa rfl (Bv (A7 rfl <| A2 rfl <| Ak rfl <| At rfl ht35) Ab rfl (by omega) (by omega)) ?_
      refine Aa rfl (Ag (Ac)) ?_
      refine Ah <| Ad ⟨_, m1 - 1, Off.eq (Dy rfl <| ou4 rfl <| ou2 rfl <| D7 rfl <| Bf), by omega, ?_⟩
      exact ⟨i + 1, by omega, (Ac), ((Ar rfl <| Ac)).trans (by rw [setTo_succ]), rfl⟩
     ·
      refine Af <| Ai fun ds => Aa rfl (Bs (At rfl ht35) (Al rfl <| Ak rfl <| Ac)) ?_
      refine Ah <| Ad <| Af <| Ao (Ac) (by first | rfl | exact decide_eq_false (by omega)) ?_
      obtain rfl : i = ps.length := by omega
      have hst := setTo_lt (s := s) (p := p) (fun i hi => hv.rd i p hi hp) (k := ps.length) (by omega)
      refine Bq ?_
      refine Bd <| Bd <| Bj <| Ad <| Af <| Ai fun ds => Aa rfl (Ae Ab) ?_
      refine Ah <| Ad <| Af <| Af <| Ai fun ds => Aa rfl (Ag Ab) ?_
      refine Ah <| Ad <| A0 <| Bu [10, 11, 48, 49, 50, 51, 52, 53, 54, 55, 56, 57, 58] (fun m e σ => ∃ j : Nat, m + j = 3 ∧ e 48 = .int .i64 (j : Int) ∧ e 10 = .int .i64 (-1 + kindTo s p j) ∧ σ = ⟨F4, (b8, bx 26 [v5]) :: (b2, bx 26 [.slice none 0 0]) :: (b1, bx 25 [vp, ve]) :: (kb, mapO []) :: R5⟩) (3) ?_ ?_
      · exact ⟨0, rfl, (Ac), (Ak rfl <| Ac), rfl⟩
      ·
       rintro m2 e2 _ ⟨j, hm2, hu48, hu10, rfl⟩
       by_cases hl3 : j < 3
       ·
        have hkb := kindTo_bound (s := s) (p := p) j
        have hbt : (setTo s p ps.length / 2 ^ (j + 1) &&& 1 : Nat) = (if metB s p (j + 1) = true then 1 else 0 : Nat) := by have h9 := bit_met (j := j) hv hp; rw [← hlen] at h9; exact h9
        refine Af <| Ai fun ds => Aa rfl (Bs (At rfl hu48) Ab) ?_
        refine Ah <| Ad <| Af <| Aq (Ac) (by first | rfl | exact decide_eq_true (by omega)) ?_
        refine Ay <| Ad <| Af <| A0 <| Af <| Ai fun ds => Aa rfl (Ag (Ak rfl <| At rfl hu48)) ?_
        refine Aa rfl (Ae (Ac)) ?_
        refine Ah <| Ad <| Ai fun ds => Aa rfl (Ag (Ar rfl <| Ak rfl <| At rfl hu10)) ?_
        refine Aa rfl (Ag (A2 rfl <| Al rfl <| Ar rfl <| Ak rfl <| At rfl ht7)) ?_
        refine Aa rfl (Ag (Ar rfl <| Ac)) ?_
        refine Aa rfl (Bv (Ac) Ab rfl (by omega) (by omega)) ?_
        refine Aa rfl (q_shr (Ar rfl <| Ac) (Ac) (k := j + 1) (by omega) (by show j + 1 < 64; omega) (shr_nat (m := setTo s p ps.length))) ?_
        refine Aa rfl (q_and (Ac) Ab (m := setTo s p ps.length / 2 ^ (j + 1)) (k := 1) rfl rfl (by have := Nat.div_le_self (setTo s p ps.length) (2 ^ (j + 1)); omega) (by omega) rfl) ?_
        refine Aa rfl (Bv (A2 rfl <| Ak rfl <| Ac) (Ac) rfl (by rw [hbt]; split <;> omega) (by rw [hbt]; split <;> omega)) ?_
        refine Aa rfl (Ae (Ac)) ?_
        refine Ah <| Bc <| Ad <| Ai fun ds => Aa rfl (Bv (A7 rfl <| Ar rfl <| Ak rfl <| At rfl hu48) Ab rfl (by omega) (by omega)) ?_
        refine Aa rfl (Ag (Ac)) ?_
        refine Ah <| Ad ⟨_, m2 - 1, Off.eq (Dy rfl <| ou4 rfl <| D7 rfl <| Bf), by omega, ?_⟩
        refine ⟨j + 1, by omega, (Ac), ((Ar rfl <| Ac)).trans ?_, rfl⟩
        rw [kindTo_succ, hbt]; congr 1; split <;> omega
       ·
        refine Af <| Ai fun ds => Aa rfl (Bs (At rfl hu48) Ab) ?_
        refine Ah <| Ad <| Af <| Ao (Ac) (by first | rfl | exact decide_eq_false (by omega)) ?_
        obtain rfl : j = 3 := by omega
        have hkb := kindTo_bound (s := s) (p := p) 3
        refine Bq ?_
        refine Bd <| Bd <| Bj <| Ad <| Ai fun ds => Aa rfl (Ap Cg (Ak rfl <| Al rfl <| Ar rfl <| Ak rfl <| Al rfl <| A7 rfl <| Al rfl <| A2 rfl <| Ac) (Cell.own 0 rfl rfl)) ?_
        refine Aa rfl (Ag (Ar rfl <| At rfl hu10)) ?_
        refine Aa rfl (q_max2 Ab (Ac)) ?_
        refine Bh rfl (B6 Bi C8 rfl (.cons (Ac) .nil) rfl rfl (by decide) (by simp [Value.oneCell']) fun b13 hb13 nb13 => ?_)
        refine Bh rfl (Cq Bi el_3 (Ar rfl <| Ak rfl <| Ac) ho (Ac) (Dk (s := 1) 0 rfl rfl (by simp [Value.oneCell'])) (by omega) (by omega) (.s <| .s <| .s <| .s <| .s <| .z) .last fun v14 R15 ho16 => ?_)
        have ho2 : Own 3 1 v14 (iL (needN s) (p + 1)).length ((iL (needN s) (p + 1)).flatMap intE) R15 := by have h9 := ho16; rw [iL_succ]; exact h9.snoc (x := needN s p) rfl (by unfold needN kindsN intE; congr 2; omega)
        refine Ch (Ci sz_26 (A2 rfl <| Ar rfl <| Al rfl <| Ar rfl <| Ak rfl <| Al rfl <| A7 rfl <| Al rfl <| A2 rfl <| Ac) (Ac) (i := 1) rfl (.here) (Own.one ho2) (.next <| .here) ?_)
        refine Ah <| Bc <| Ad <| Dg (fun _ _ h => h.drop (.cons _ <| .cons_cons _ <| .cons_cons _ <| .cons_cons _ <| .cons_cons _ <| .refl _)) ?_
        refine Ai fun ds => Aa rfl (Bv (A2 rfl <| Ar rfl <| Al rfl <| Ar rfl <| Ak rfl <| Al rfl <| A7 rfl <| At rfl hs29) Ab rfl (by omega) (by omega)) ?_
        refine Aa rfl (Ag (Ac)) ?_
        refine Ah <| Ad ⟨_, m - 1, Off.eq (Dy rfl <| off_in rfl <| ou2 rfl <| D7 rfl <| off_in rfl <| Dy rfl <| Bf), by omega, ?_⟩
        refine ⟨p + 1, by omega, (Ac), _, _, ho2, rfl⟩
   ·
    refine Af <| Ai fun ds => Aa rfl (Bs (At rfl hs29) (Al rfl <| Ak rfl <| Ac)) ?_
    refine Ah <| Ad <| Af <| Ao (Ac) (by first | rfl | exact decide_eq_false (by omega)) ?_
    obtain rfl : p = s.places.length := by omega
    refine Cw (σ := ⟨_, _⟩) (by rfl) ho (.s <| .s <| .s <| .s <| .z) .last fun F17 hF18 hz19 => ?_
    replace hX := hX.mono hF18
    have hnd := ho.sl (fun _ => rfl) hz19 (by rw [C0]; omega)
    refine Cb (i := 0) rfl hb8 (.here) fun F20 hF21 hz5 => ?_
    replace hX := hX.mono hF21
    replace hnd := hnd.mono hF21
    refine Bq ?_
    refine Bd <| Bd <| Bj <| Ad <| Af <| Ai fun ds => Bh rfl (Ca zr_4 rfl fun b22 hb22 nb22 => ?_)
    refine Ch (Ci sz_4 (Ac) Ab (i := 0) rfl (.here) rfl (.here) ?_)
    refine Ah <| Ad <| Af <| Ai fun ds => Aa rfl (Ag (Ar rfl <| Al rfl <| A7 rfl <| Ac)) ?_
    refine Aa rfl (q_makeFunc2 (.cons (Ac) .nil) .nil) ?_
    refine Bh rfl (Ca zr_119 rfl fun b23 hb23 nb23 => ?_)
    refine Ch (Ci sz_119 (Ac) (Ak rfl <| Ac) (i := 0) rfl (.here) rfl (.here) ?_)
    refine Ah <| Ad <| Af <| Af <| Cb (i := 0) rfl hb23 (.here) fun F24 hF25 hz13 => ?_
    replace hX := hX.mono hF25
    replace hnd := hnd.mono hF25
    replace hz5 := hF25 _ _ hz5
    refine Ai fun ds => Aa rfl (Ag (A2 rfl <| Ak rfl <| Al rfl <| A7 rfl <| Ac)) ?_
    refine Bh rfl (Cj bd_83 Az (.cons (Ac) .nil) (trees_ok hX) fun v26 F27 hr28 hF29 => ?_)
    replace hX := hX.mono hF29
    replace hnd := hnd.mono hF29
    replace hz5 := hF29 _ _ hz5
    replace hz13 := hF29 _ _ hz13
    obtain ⟨dz, rfl, hzd⟩ := hr28
    refine Ah <| Ad <| A0 <| WC_rangeG rfl (Ac) (bd_116) (trees1_iter hX hv hzd) (Heap.le_refl _) (fun pre G H => ∃ v2, Nats G v2 ((cleanR s pre).getD []) ∧ H = [(b22, bx 4 [.bool (cleanR s pre).isSome]), (b2, bx 26 [v2]), (b1, bx 25 [vp, ve]), (kb, mapO [])]) (fun _ _ _ => False) (fun _ _ _ _ hF h => by obtain ⟨v, h1, h2⟩ := h; exact ⟨v, h1.mono hF, h2⟩) (fun _ _ _ _ _ h => h) ⟨_, Sl.nil, rfl⟩ (fun L D fn tm pre x rest G H1 vs hxs hle hJ hA => ?_) (fun _ _ _ _ h => h.elim) (fun F2 H1 hF2 hJ => ?_)
    ·
     replace hX := hX.mono hle
     replace hnd := hnd.mono hle
     replace hz5 := hle _ _ hz5
     replace hz13 := hle _ _ hz13
     obtain ⟨v2, hv2, rfl⟩ := hJ
     obtain rfl : vs = [treeV x] := hA
     have hxm : x ∈ allTrees s := by rw [hxs]; simp
     obtain ⟨hll, ht, -⟩ := Eg.1 hxm
     refine ⟨rfl, rfl, fun w1 => ?_⟩
     refine WC_eq (e' := (upd _ 69 (treeV x))) rfl rfl ?_
     refine B9 (.inr (by kernel_rfl)) (fun _ _ h => h) fun ds => ?_
     refine Bh rfl (Ca Dv rfl fun b30 hb30 nb30 => ?_)
     refine WL_order (.cons (.next <| .here) <| .cons (.next <| .here) <| .cons (.here) <| .cons (.here) <| .cons (.here) <| .cons (.here) <| .cons (.here) <| .nil) ?_
     refine Ch (Cc D0 (Ac) (Ak rfl <| Ac) (i := 2) rfl rfl rfl rfl C5 (.next <| .next <| .here) ?_)
     refine Ah <| Ad ⟨_, rfl, ?_⟩
     refine A0 <| Af <| WC_name (i := 0) rfl (fun _ => .here) fun oL hoL => ?_
     refine B9 (.inr (by kernel_rfl)) (fun _ _ h => h) fun ds => ?_
     refine Aa rfl (Ae Ab) ?_
     refine Ah <| Ad <| Af <| Af <| B9 (.inr (by kernel_rfl)) (fun _ _ h => h) fun ds => ?_
     refine Aa rfl (Ap Cg (A7 rfl <| Ar rfl <| Al rfl <| A2 rfl <| Ac) (CellF.own hz5 rfl).cell) ?_
     refine Aa rfl (Bk Bi (Ac) hnd.plain) ?_
     refine Aa rfl (Ag Ab) ?_
     refine Ah <| Ad <| A0 <| Bu [15, 16, 17, 72, 73, 74, 75, 76, 77, 78, 79, 80, 81, 82, 83, 84, 85, 86, 87] (fun m e σ => ∃ q : Nat, m + q = s.places.length ∧ e 72 = .int .i64 (q : Int) ∧ ∃ v15 R15, e 15 = v15 ∧ Own 3 1 v15 (selN (uncleanB s x) q).length ((selN (uncleanB s x) q).flatMap natE) R15 ∧ σ = ⟨G, (L, oL) :: (D, openO) :: (b30, bx 100 (treeC x)) :: (b22, bx 4 [.bool (cleanR s pre).isSome]) :: (b2, bx 26 [v2]) :: (b1, bx 25 [vp, ve]) :: (kb, mapO []) :: R15⟩) (s.places.length) ?_ ?_
     · exact ⟨0, by omega, (Ac), _, _, (Ar rfl <| Ak rfl <| Ac), Own.nil, rfl⟩
     ·
      rintro m e _ ⟨q, hm, hs72, v15, R15, hs15, ho, rfl⟩; have hsl := D3 (p := (uncleanB s x)) (k := q)
      by_cases hlq : q < s.places.length
      ·
       refine Af <| B9 (.inr (by kernel_rfl)) (fun _ _ h => h) fun ds => ?_
       refine Aa rfl (Bs (At rfl hs72) (Al rfl <| Ak rfl <| Ac)) ?_
       refine Ah <| Ad <| Af <| Aq (Ac) (by first | rfl | exact decide_eq_true (by omega)) ?_
       have hnq : (iL (needN s) s.places.length)[q]'(by rw [C0]; exact hlq) = needN s q := iL_at _
       have hup := unclean_place ht hv hll (p := q)
       by_cases hub : uncleanB s x q = true
       ·
        refine Ay <| Ad <| Af <| A0 <| Af <| B9 (.inr (by kernel_rfl)) (fun _ _ h => h) fun ds => ?_
        refine Aa rfl (Ag (Ak rfl <| At rfl hs72)) ?_
        refine Aa rfl (Be (k := q) Bi (Ar rfl <| Al rfl <| Ar rfl <| Ac) hnd.plain (Ar rfl <| At rfl hs72) rfl (by rw [C0]; exact hlq)) ?_
        refine Aa rfl (Ap Bm (Ac) (hnd.cell1 (by rw [C0]; exact hlq) rfl)) ?_
        refine Aa rfl (Ae (Ar rfl <| Ac)) ?_
        refine Aa rfl (Ae (Ak rfl <| Ac)) ?_
        refine Ah <| Ad <| Af <| B9 (.inr (by kernel_rfl)) (fun _ _ h => h) fun ds => ?_
        refine Aa rfl (Ap one_119 (A2 rfl <| Ar rfl <| Al rfl <| A7 rfl <| Ac) (CellF.own hz13 rfl).cell) ?_
        refine Aa rfl (A9 Bz (A2 rfl <| Ar rfl <| Ak rfl <| Al rfl <| A2 rfl <| Ac) rfl rfl (A5 2 rfl)) ?_
        refine Aa rfl (Ag (Ar rfl <| Ak rfl <| Ac)) ?_
        refine Bw rfl (q_callF bd_82 (Ar rfl <| Ac) (.cons (Ak rfl <| Ac) (.cons (Ac) .nil)) (Dr hX ht hll hv hlq) (fun _ _ h => h)) ?_
        refine Aa rfl (Ag (A2 rfl <| Ac)) ?_
        refine Aa rfl (B0 (Ak rfl <| Ac) (Ac)) ?_
        refine Ah <| Ad <| Aq (Ac) (decide_eq_true (by rw [hnq]; exact hup.2 hub)) ?_
        refine B9 (.inr (by kernel_rfl)) (fun _ _ h => h) fun ds => ?_
        refine Aa rfl (Ag (A7 rfl <| A2 rfl <| At rfl hs15)) ?_
        refine Aa rfl (Ag (A7 rfl <| Ac)) ?_
        refine Bh rfl (B6 Bi C8 rfl (.cons (Ac) .nil) rfl rfl (by decide) (by simp [Value.oneCell']) fun b32 hb32 nb32 => ?_)
        refine Bh rfl (Cq Bi el_3 (Ar rfl <| Ac) ho (Ac) (Dk (s := 1) 0 rfl rfl (by simp [Value.oneCell'])) (by omega) (by omega) (.s <| .s <| .s <| .s <| .s <| .s <| .s <| .s <| .z) .last fun v33 R34 ho35 => ?_)
        have ho2 := ho35.snoc (x := q) rfl rfl
        refine Aa rfl (Ae (Ac)) ?_
        refine Ah <| Bc <| Ad <| Dg (fun _ _ h => h.drop (.cons _ <| .cons_cons _ <| .cons_cons _ <| .cons_cons _ <| .cons_cons _ <| .cons_cons _ <| .cons_cons _ <| .cons_cons _ <| .refl _)) ?_
        refine B9 (.inr (by kernel_rfl)) (fun _ _ h => h) fun ds => ?_
        refine Aa rfl (Bv (A4 rfl <| Ak rfl <| At rfl hs72) Ab rfl (by omega) (by omega)) ?_
        refine Aa rfl (Ag (Ac)) ?_
        refine Ah <| Ad ⟨_, m - 1, Off.eq (C9 rfl <| ou2 rfl <| D7 rfl <| Bf), by omega, ?_⟩
        exact ⟨q + 1, by omega, (Ac), _, _, (Ar rfl <| Ac), by rw [D2, if_pos hub]; exact ho2, rfl⟩
       ·
        replace hub : uncleanB s x q = false := by simpa using hub
        refine Ay <| Ad <| Af <| A0 <| Af <| B9 (.inr (by kernel_rfl)) (fun _ _ h => h) fun ds => ?_
        refine Aa rfl (Ag (Ak rfl <| At rfl hs72)) ?_
        refine Aa rfl (Be (k := q) Bi (Ar rfl <| Al rfl <| Ar rfl <| Ac) hnd.plain (Ar rfl <| At rfl hs72) rfl (by rw [C0]; exact hlq)) ?_
        refine Aa rfl (Ap Bm (Ac) (hnd.cell1 (by rw [C0]; exact hlq) rfl)) ?_
        refine Aa rfl (Ae (Ar rfl <| Ac)) ?_
        refine Aa rfl (Ae (Ak rfl <| Ac)) ?_
        refine Ah <| Ad <| Af <| B9 (.inr (by kernel_rfl)) (fun _ _ h => h) fun ds => ?_
        refine Aa rfl (Ap one_119 (A2 rfl <| Ar rfl <| Al rfl <| A7 rfl <| Ac) (CellF.own hz13 rfl).cell) ?_
        refine Aa rfl (A9 Bz (A2 rfl <| Ar rfl <| Ak rfl <| Al rfl <| A2 rfl <| Ac) rfl rfl (A5 2 rfl)) ?_
        refine Aa rfl (Ag (Ar rfl <| Ak rfl <| Ac)) ?_
        refine Bw rfl (q_callF bd_82 (Ar rfl <| Ac) (.cons (Ak rfl <| Ac) (.cons (Ac) .nil)) (Dr hX ht hll hv hlq) (fun _ _ h => h)) ?_
        refine Aa rfl (Ag (A2 rfl <| Ac)) ?_
        refine Aa rfl (B0 (Ak rfl <| Ac) (Ac)) ?_
        refine Ah <| Ad <| Ao (Ac) (decide_eq_false (by rw [hnq]; exact fun h => by rw [hup.1 h] at hub; cases hub)) ?_
        refine Ay <| Bc <| Ad <| B9 (.inr (by kernel_rfl)) (fun _ _ h => h) fun ds => ?_
        refine Aa rfl (Bv (A7 rfl <| A2 rfl <| At rfl hs72) Ab rfl (by omega) (by omega)) ?_
        refine Aa rfl (Ag (Ac)) ?_
        refine Ah <| Ad ⟨_, m - 1, Off.eq (Dy rfl <| ou4 rfl <| ou2 rfl <| Bf), by omega, ?_⟩
        exact ⟨q + 1, by omega, (Ac), _, _, (A7 rfl <| A2 rfl <| Ar rfl <| At rfl hs15), by rw [D2, if_neg (by rw [hub]; simp)]; exact ho, rfl⟩
      ·
       refine Af <| B9 (.inr (by kernel_rfl)) (fun _ _ h => h) fun ds => ?_
       refine Aa rfl (Bs (At rfl hs72) (Al rfl <| Ak rfl <| Ac)) ?_
       refine Ah <| Ad <| Af <| Ao (Ac) (by first | rfl | exact decide_eq_false (by omega)) ?_
       obtain rfl : q = s.places.length := by omega
       refine WC_freezeRM (σ := ⟨_, _⟩) (by intro m hm; simp [keys] at hm ⊢; rcases hm with h | h | h | h | h | h <;> simp [h]) ho (.s <| .s <| .s <| .s <| .s <| .s <| .s <| .z) .last fun F36 hF37 hz38 => ?_
       replace hle := hle.mono hF37
       replace hv2 := hv2.mono hF37
       have hl15 := ho.sl (fun _ => rfl) hz38 (by omega)
       change Nats _ _ (uncleanL s x) at hl15
       rcases opt_or (cleanR s pre) with hcs | ⟨bb, hcs⟩
       ·
        refine Bq ?_
        refine Bd <| Bd <| Bj <| Ad <| Af <| B9 (.inr (by kernel_rfl)) (fun _ _ h => h) fun ds => ?_
        refine Aa rfl (Ap one_4 (Ak rfl <| Al rfl <| A7 rfl <| Ar rfl <| Ak rfl <| Ac) (Cell.own 3 rfl rfl)) ?_
        refine Aa rfl (Cl (Ac)) ?_
        refine Aa rfl (Ag (Ac)) ?_
        refine Au rfl rfl (Ac) (.inl (congrArg Value.bool (by rw [hcs]; rfl))) rfl ?_
        refine Au rfl rfl (Ak rfl <| Ac) (.inl (congrArg Value.bool (by rw [hcs]; rfl))) rfl ?_
        refine Au rfl rfl (Ar rfl <| Ac) (.inl (congrArg Value.bool (by rw [hcs]; rfl))) rfl ?_
        refine Au rfl rfl (Ar rfl <| Ak rfl <| Ac) (.inl (congrArg Value.bool (by rw [hcs]; rfl))) rfl ?_
        refine Au rfl rfl (A2 rfl <| Ac) (.inl (congrArg Value.bool (by rw [hcs]; rfl))) rfl ?_
        refine Aa rfl (A1 (A2 rfl <| Ak rfl <| Ac) (by rw [hcs]; rfl) Ab) ?_
        refine Aa rfl (Ag (Ac)) ?_
        refine Au rfl rfl (Ac) (.inl (congrArg Value.bool rfl)) rfl ?_
        refine Au rfl rfl (Ak rfl <| Ac) (.inl (congrArg Value.bool rfl)) rfl ?_
        refine Au rfl rfl (Ar rfl <| Ac) (.inl (congrArg Value.bool rfl)) rfl ?_
        refine Au rfl rfl (Ar rfl <| Ak rfl <| Ac) (.inl (congrArg Value.bool rfl)) rfl ?_
        refine Au rfl rfl (A2 rfl <| Ac) (.inl (congrArg Value.bool rfl)) rfl ?_
        refine Au rfl rfl (A2 rfl <| Ak rfl <| Ac) (.inl (congrArg Value.bool rfl)) rfl ?_
        refine Au rfl rfl (Ac) (.inr rfl) rfl ?_
        refine Au rfl rfl (Ak rfl <| Ac) (.inr rfl) rfl ?_
        refine Au rfl rfl (Ar rfl <| Ac) (.inr rfl) rfl ?_
        refine Au rfl rfl (Ar rfl <| Ak rfl <| Ac) (.inr rfl) rfl ?_
        refine Au rfl rfl (A7 rfl <| Ar rfl <| Ac) (.inl (congrArg Value.bool rfl)) rfl ?_
        refine Aa rfl (A1 (A7 rfl <| Ar rfl <| Ak rfl <| Ac) rfl Ab) ?_
        refine Ah <| Ad <| Aq (Ac) rfl ?_
        subst hoL
        refine B9 (.inr (by kernel_rfl)) (fun _ _ h => h) fun ds => ?_
        refine Aa rfl (Ag (A4 rfl <| A2 rfl <| Ar rfl <| Ak rfl <| At rfl hs15)) ?_
        refine Ch (Ci sz_26 (A4 rfl <| A7 rfl <| Al rfl <| A7 rfl <| A2 rfl <| Ak rfl <| Al rfl <| A7 rfl <| A2 rfl <| Ar rfl <| Ak rfl <| Ac) (Ac) (i := 4) rfl (.here) (by first | rfl | exact hl15.plain.one) (.next <| .next <| .next <| .next <| .here) ?_)
        refine Ch (Ci sz_4 (A4 rfl <| A7 rfl <| Al rfl <| A7 rfl <| Ar rfl <| Ak rfl <| Ac) Ab (i := 3) rfl (.here) (by first | rfl | exact hl15.plain.one) (.next <| .next <| .next <| .here) ?_)
        refine Ah <| Bc ?_
        refine Ea (.one (.here) <| .one (.here) <| .one (.next <| .here) <| .one (.next <| .here) <| .one (.next <| .here) <| .one (.next <| .here) <| .nil) ?_
        refine .inl ⟨rfl, _, rfl, hle, ?_⟩
        exact ⟨_, by rw [cleanS_none hcs]; exact hl15, by rw [cleanS_none hcs]; first | done | rfl⟩
       ·
        have hv2b := hv2
        rw [hcs] at hv2b
        replace hv2b : Nats _ v2 bb := hv2b
        have hbl := hv2b.plain.lt
        refine Bq ?_
        refine Bd <| Bd <| Bj <| Ad <| Af <| B9 (.inr (by kernel_rfl)) (fun _ _ h => h) fun ds => ?_
        refine Aa rfl (Ap one_4 (Ak rfl <| Al rfl <| A7 rfl <| Ar rfl <| Ak rfl <| Ac) (Cell.own 3 rfl rfl)) ?_
        refine Aa rfl (Cl (Ac)) ?_
        refine Aa rfl (Ag (Ac)) ?_
        refine As rfl rfl (Ac) (by rw [hcs]; rfl) ?_
        refine Aa rfl (Ag (A2 rfl <| At rfl hs15)) ?_
        refine As rfl rfl (Ak rfl <| Ac) (by rw [hcs]; rfl) ?_
        refine Aa rfl (Bk Bi (Ac) hl15.plain) ?_
        refine As rfl rfl (Ar rfl <| Ac) (by rw [hcs]; rfl) ?_
        refine Aa rfl (Ap Cg (A2 rfl <| Ar rfl <| Al rfl <| A7 rfl <| A2 rfl <| Ak rfl <| Al rfl <| A7 rfl <| A2 rfl <| Ar rfl <| Ak rfl <| Ac) (Cell.own 4 rfl rfl)) ?_
        refine As rfl rfl (Ar rfl <| Ak rfl <| Ac) (by rw [hcs]; rfl) ?_
        refine Aa rfl (Bk Bi (Ac) hv2.plain) ?_
        refine As rfl rfl (A2 rfl <| Ac) (by rw [hcs]; rfl) ?_
        refine Aa rfl (Bs (Ar rfl <| Ac) (Ac)) ?_
        refine Aa rfl (Bb (A2 rfl <| Ak rfl <| Ac) (by rw [hcs]; rfl) (Ac)) ?_
        refine Aa rfl (Ag (Ac)) ?_
        by_cases h1 : (uncleanL s x).length < bb.length
        ·
         refine Au rfl rfl (Ac) (.inl (congrArg Value.bool (decide_eq_true (by rw [hcs]; show (_ : Int) < (bb.length : Int); omega)))) rfl ?_
         refine Au rfl rfl (Ak rfl <| Ac) (.inl (congrArg Value.bool (decide_eq_true (by rw [hcs]; show (_ : Int) < (bb.length : Int); omega)))) rfl ?_
         refine Au rfl rfl (Ar rfl <| Ac) (.inl (congrArg Value.bool (decide_eq_true (by rw [hcs]; show (_ : Int) < (bb.length : Int); omega)))) rfl ?_
         refine Au rfl rfl (Ar rfl <| Ak rfl <| Ac) (.inl (congrArg Value.bool (decide_eq_true (by rw [hcs]; show (_ : Int) < (bb.length : Int); omega)))) rfl ?_
         refine Au rfl rfl (A2 rfl <| Ac) (.inl (congrArg Value.bool (decide_eq_true (by rw [hcs]; show (_ : Int) < (bb.length : Int); omega)))) rfl ?_
         refine Au rfl rfl (A2 rfl <| Ak rfl <| Ac) (.inl (congrArg Value.bool (decide_eq_true (by rw [hcs]; show (_ : Int) < (bb.length : Int); omega)))) rfl ?_
         refine Au rfl rfl (Ac) (.inr rfl) rfl ?_
         refine Au rfl rfl (Ak rfl <| Ac) (.inr rfl) rfl ?_
         refine Au rfl rfl (Ar rfl <| Ac) (.inr rfl) rfl ?_
         refine Au rfl rfl (Ar rfl <| Ak rfl <| Ac) (.inr rfl) rfl ?_
         refine Au rfl rfl (A7 rfl <| Ar rfl <| Ac) (.inl (congrArg Value.bool (decide_eq_true (by rw [hcs]; show (_ : Int) < (bb.length : Int); omega)))) rfl ?_
         refine Aa rfl (A1 (A7 rfl <| Ar rfl <| Ak rfl <| Ac) (decide_eq_true (by rw [hcs]; show (_ : Int) < (bb.length : Int); omega)) Ab) ?_
         refine Ah <| Ad <| Aq (Ac) rfl ?_
         subst hoL
         refine B9 (.inr (by kernel_rfl)) (fun _ _ h => h) fun ds => ?_
         refine Aa rfl (Ag (A4 rfl <| A2 rfl <| Ar rfl <| Ak rfl <| At rfl hs15)) ?_
         refine Ch (Ci sz_26 (A4 rfl <| A7 rfl <| Al rfl <| A7 rfl <| A2 rfl <| Ak rfl <| Al rfl <| A7 rfl <| A2 rfl <| Ar rfl <| Ak rfl <| Ac) (Ac) (i := 4) rfl (.here) (by first | rfl | exact hl15.plain.one) (.next <| .next <| .next <| .next <| .here) ?_)
         refine Ch (Ci sz_4 (A4 rfl <| A7 rfl <| Al rfl <| A7 rfl <| Ar rfl <| Ak rfl <| Ac) Ab (i := 3) rfl (.here) (by first | rfl | exact hl15.plain.one) (.next <| .next <| .next <| .here) ?_)
         refine Ah <| Bc ?_
         refine Ea (.one (.here) <| .one (.here) <| .one (.next <| .here) <| .one (.next <| .here) <| .one (.next <| .here) <| .one (.next <| .here) <| .nil) ?_
         refine .inl ⟨rfl, _, rfl, hle, ?_⟩
         exact ⟨_, by rw [cleanS_yes hcs (.inl h1)]; exact hl15, by rw [cleanS_yes hcs (.inl h1)]; first | done | rfl⟩
        ·
         refine As rfl rfl (Ac) (decide_eq_false (by rw [hcs]; show ¬ (_ : Int) < (bb.length : Int); omega)) ?_
         refine Aa rfl (Ag (A7 rfl <| Ar rfl <| Ak rfl <| At rfl hs15)) ?_
         refine As rfl rfl (Ak rfl <| Ac) (decide_eq_false (by rw [hcs]; show ¬ (_ : Int) < (bb.length : Int); omega)) ?_
         refine Aa rfl (Bk Bi (Ac) hl15.plain) ?_
         refine As rfl rfl (Ar rfl <| Ac) (decide_eq_false (by rw [hcs]; show ¬ (_ : Int) < (bb.length : Int); omega)) ?_
         refine Aa rfl (Ap Cg (A7 rfl <| A2 rfl <| Ak rfl <| Al rfl <| A7 rfl <| A2 rfl <| Ak rfl <| Al rfl <| A7 rfl <| A2 rfl <| Ar rfl <| Ak rfl <| Ac) (Cell.own 4 rfl rfl)) ?_
         refine As rfl rfl (Ar rfl <| Ak rfl <| Ac) (decide_eq_false (by rw [hcs]; show ¬ (_ : Int) < (bb.length : Int); omega)) ?_
         refine Aa rfl (Bk Bi (Ac) hv2.plain) ?_
         refine As rfl rfl (A2 rfl <| Ac) (decide_eq_false (by rw [hcs]; show ¬ (_ : Int) < (bb.length : Int); omega)) ?_
         refine Aa rfl (Bx (Ar rfl <| Ac) (Ac)) ?_
         refine As rfl rfl (A2 rfl <| Ak rfl <| Ac) (decide_eq_false (by rw [hcs]; show ¬ (_ : Int) < (bb.length : Int); omega)) ?_
         refine Aa rfl (Ag (Ac)) ?_
         by_cases h2 : (uncleanL s x).length = bb.length
         ·
          refine As rfl rfl (Ac) (decide_eq_true (by rw [hcs]; show (_ : Int) = (bb.length : Int); omega)) ?_
          refine Aa rfl (Ag (A4 rfl <| Ak rfl <| At rfl hs15)) ?_
          refine As rfl rfl (Ak rfl <| Ac) (decide_eq_true (by rw [hcs]; show (_ : Int) = (bb.length : Int); omega)) ?_
          refine Aa rfl (Ap Cg (A4 rfl <| Ar rfl <| Al rfl <| A7 rfl <| A2 rfl <| Ak rfl <| Al rfl <| A7 rfl <| A2 rfl <| Ar rfl <| Ak rfl <| Ac) (Cell.own 4 rfl rfl)) ?_
          refine As rfl rfl (Ar rfl <| Ac) (decide_eq_true (by rw [hcs]; show (_ : Int) = (bb.length : Int); omega)) ?_
          refine Bw rfl (Ba bd_84 Az (.cons (Ak rfl <| Ac) (.cons (Ac) .nil)) (compare_ok hl15 hv2) (fun _ _ h => h)) ?_
          refine As rfl rfl (Ar rfl <| Ak rfl <| Ac) (decide_eq_true (by rw [hcs]; show (_ : Int) = (bb.length : Int); omega)) ?_
          refine Aa rfl (Bs (Ac) Ab) ?_
          refine As rfl rfl (A7 rfl <| Ar rfl <| Ac) (decide_eq_false (by rw [hcs]; show ¬ (_ : Int) < (bb.length : Int); omega)) ?_
          refine Aa rfl (A1 (A2 rfl <| Ac) (decide_eq_true (by rw [hcs]; show (_ : Int) = (bb.length : Int); omega)) (Ac)) ?_
          refine Aa rfl (Bb (A7 rfl <| Ar rfl <| Ak rfl <| Ac) (decide_eq_false (by rw [hcs]; show ¬ (_ : Int) < (bb.length : Int); omega)) (Ac)) ?_
          refine Ah <| Ad ?_
          by_cases h3 : cmpL (uncleanL s x) bb < 0
          ·
           refine Aq (Ac) (by rw [hcs]; exact decide_eq_true h3) ?_
           subst hoL
           refine B9 (.inr (by kernel_rfl)) (fun _ _ h => h) fun ds => ?_
           refine Aa rfl (Ag (A4 rfl <| A2 rfl <| Ar rfl <| Ak rfl <| At rfl hs15)) ?_
           refine Ch (Ci sz_26 (A4 rfl <| A7 rfl <| Al rfl <| A7 rfl <| A2 rfl <| Ak rfl <| Al rfl <| A7 rfl <| A2 rfl <| Ar rfl <| Ak rfl <| Ac) (Ac) (i := 4) rfl (.here) (by first | rfl | exact hl15.plain.one) (.next <| .next <| .next <| .next <| .here) ?_)
           refine Ch (Ci sz_4 (A4 rfl <| A7 rfl <| Al rfl <| A7 rfl <| Ar rfl <| Ak rfl <| Ac) Ab (i := 3) rfl (.here) (by first | rfl | exact hl15.plain.one) (.next <| .next <| .next <| .here) ?_)
           refine Ah <| Bc ?_
           refine Ea (.one (.here) <| .one (.here) <| .one (.next <| .here) <| .one (.next <| .here) <| .one (.next <| .here) <| .one (.next <| .here) <| .nil) ?_
           refine .inl ⟨rfl, _, rfl, hle, ?_⟩
           exact ⟨_, by rw [cleanS_yes hcs (.inr ⟨h2, h3⟩)]; exact hl15, by rw [cleanS_yes hcs (.inr ⟨h2, h3⟩)]; first | done | rfl⟩
          ·
           refine Ao (Ac) (by rw [hcs]; exact decide_eq_false h3) ?_
           subst hoL
           refine Ay <| Bc ?_
           refine Ea (.one (.here) <| .one (.here) <| .one (.next <| .here) <| .one (.next <| .here) <| .one (.next <| .here) <| .one (.next <| .here) <| .nil) ?_
           refine .inl ⟨rfl, _, rfl, hle, ?_⟩
           exact ⟨_, by rw [cleanS_no hcs (fun h => h.elim h1 (fun h => h3 h.2))]; exact hv2b, by rw [cleanS_no hcs (fun h => h.elim h1 (fun h => h3 h.2)), hcs]; first | done | rfl⟩
         ·
          refine Au rfl rfl (Ac) (.inl (congrArg Value.bool (decide_eq_false (by rw [hcs]; show ¬ (_ : Int) = (bb.length : Int); omega)))) rfl ?_
          refine Au rfl rfl (Ak rfl <| Ac) (.inl (congrArg Value.bool (decide_eq_false (by rw [hcs]; show ¬ (_ : Int) = (bb.length : Int); omega)))) rfl ?_
          refine Au rfl rfl (Ar rfl <| Ac) (.inl (congrArg Value.bool (decide_eq_false (by rw [hcs]; show ¬ (_ : Int) = (bb.length : Int); omega)))) rfl ?_
          refine Au rfl rfl (Ar rfl <| Ak rfl <| Ac) (.inl (congrArg Value.bool (decide_eq_false (by rw [hcs]; show ¬ (_ : Int) = (bb.length : Int); omega)))) rfl ?_
          refine As rfl rfl (A7 rfl <| Ar rfl <| Ac) (decide_eq_false (by rw [hcs]; show ¬ (_ : Int) < (bb.length : Int); omega)) ?_
          refine Aa rfl (Bb (A2 rfl <| Ac) (decide_eq_false (by rw [hcs]; show ¬ (_ : Int) = (bb.length : Int); omega)) Ab) ?_
          refine Aa rfl (Bb (A7 rfl <| Ar rfl <| Ak rfl <| Ac) (decide_eq_false (by rw [hcs]; show ¬ (_ : Int) < (bb.length : Int); omega)) (Ac)) ?_
          refine Ah <| Ad <| Ao (Ac) rfl ?_
          subst hoL
          refine Ay <| Bc ?_
          refine Ea (.one (.here) <| .one (.here) <| .one (.next <| .here) <| .one (.next <| .here) <| .one (.next <| .here) <| .one (.next <| .here) <| .nil) ?_
          refine .inl ⟨rfl, _, rfl, hle, ?_⟩
          exact ⟨_, by rw [cleanS_no hcs (fun h => h.elim h1 (fun h => h2 h.1))]; exact hv2b, by rw [cleanS_no hcs (fun h => h.elim h1 (fun h => h2 h.1)), hcs]; first | done | rfl⟩
    obtain ⟨v2, hv2, rfl⟩ := hJ
    refine Bc <| Ad ?_
    rcases opt_or (cleanR s (allTrees s)) with hcs | ⟨bb, hcs⟩
    ·
     refine Af <| Af <| Ai fun ds => Aa rfl (Ap one_4 (A2 rfl <| Ak rfl <| Ac) (Cell.own 0 rfl rfl)) ?_
     refine Aa rfl (Cl (Ac)) ?_
     refine Ah <| Ad <| Aq (Ac) (by rw [hcs]; rfl) ?_
     refine Af <| Ai fun ds => Ch (Ci sz_26 (A7 rfl <| Ak rfl <| Al rfl <| A7 rfl <| A2 rfl <| Ar rfl <| Ak rfl <| Ac) Ab (i := 1) rfl (.here) rfl (.next <| .here) ?_)
     refine Aa rfl (Ae Ab) ?_
     refine Ah <| Ad <| A3 <| A8 ?_
     refine Aw rfl (.one Cg (A7 rfl <| Ar rfl <| Al rfl <| A7 rfl <| A2 rfl <| Ar rfl <| Ak rfl <| Ac) (Cell.own 1 rfl rfl) (.tmp (Ac) .nil)) ?_
     rw [cleanE_none h0 hcs]
     exact ⟨_, rfl, Sl.nil⟩
    ·
     refine Af <| Af <| Ai fun ds => Aa rfl (Ap one_4 (A2 rfl <| Ak rfl <| Ac) (Cell.own 0 rfl rfl)) ?_
     refine Aa rfl (Cl (Ac)) ?_
     refine Ah <| Ad <| Ao (Ac) (by rw [hcs]; rfl) ?_
     refine Ay <| Ad <| Af <| Ai fun ds => Aa rfl (Ap Cg (A7 rfl <| Ak rfl <| Al rfl <| A7 rfl <| A2 rfl <| Ar rfl <| Ak rfl <| Ac) (Cell.own 1 rfl rfl)) ?_
     refine Ch (Ci sz_26 (A7 rfl <| Ar rfl <| Al rfl <| A7 rfl <| A2 rfl <| Ar rfl <| Ak rfl <| Ac) (Ac) (i := 1) rfl (.here) hv2.plain.one (.next <| .here) ?_)
     refine Aa rfl (Ae Ab) ?_
     refine Ah <| Ad <| A3 <| Aw rfl (.one Cg (A7 rfl <| Ar rfl <| Ak rfl <| Al rfl <| A7 rfl <| A2 rfl <| Ar rfl <| Ak rfl <| Ac) (Cell.own 1 rfl rfl) (.tmp (Ac) .nil)) ?_
     rw [cleanE_some h0 hcs]
     rw [hcs] at hv2
     exact ⟨_, rfl, hv2⟩
 ·
  refine Af <| Ai fun ds => Bh rfl (B2 (Aj rfl) rfl fun b39 hb39 nb39 => ?_)
  refine Bh rfl (Ca zr_26 rfl fun b40 hb40 nb40 => ?_)
  refine Aa rfl (Ae Ab) ?_
  refine Ah <| Ad <| Af <| Ai fun ds => Aa rfl (A9 B5 (Ar rfl <| Ac) rfl rfl (A5 1 rfl)) ?_
  refine Bw rfl (Ba bd_65 Az (.cons (Ac) .nil) (open_bad hr h0) (fun _ _ h => h)) ?_
  refine Aa rfl (Ag (Ac)) ?_
  refine Aa rfl (Ax (Ac) rfl) ?_
  refine Aa rfl (Ax (Ak rfl <| Ac) rfl) ?_
  refine Aa rfl (Ae (Ak rfl <| Ac)) ?_
  refine Aa rfl (Ae (Ak rfl <| Ac)) ?_
  refine Ah <| Ad <| Af <| Af <| Ai fun ds => Aa rfl (Ag (Ac)) ?_
  refine Aa rfl (B0 (Ac) Ab) ?_
  refine Ah <| Ad <| Aq (Ac) (decide_eq_true h0) ?_
  refine Af <| Ai fun ds => Aa rfl (Ag (Ar rfl <| Ac)) ?_
  refine Ch (Ci sz_26 (A7 rfl <| Ar rfl <| Ak rfl <| Ac) Ab (i := 0) rfl (.here) rfl (.here) ?_)
  refine Aa rfl (Ae (Ac)) ?_
  refine Ah <| Ad <| A3 <| A8 ?_
  refine Aw rfl (.one Cg (A7 rfl <| A2 rfl <| Ac) (Cell.own 0 rfl rfl) (.tmp (Ac) .nil)) ?_
  rw [cleanE_bad h0]
  exact ⟨_, rfl, Sl.nil⟩
end Go.Proofs.Ytccogmkhijgelaa
namespace Go.Proofs.Ytccogmkhijgelaa
open Go.RowKit
def plA : Plc := ⟨⟨#[97]⟩, 0⟩
def plB : Plc := ⟨⟨#[98]⟩, 1⟩
def plC : Plc := ⟨⟨#[99]⟩, 0⟩
def edQ1 : Edn := ⟨⟨#[113, 49]⟩, 1600, 1600, [1, 1, 1]⟩
def edQ2 : Edn := ⟨⟨#[113, 50]⟩, 1605, 1610, [2, 1, 1]⟩
def edF1 : Edn := ⟨⟨#[102, 49]⟩, 1623, 1623, [2, 2, 1]⟩
def edQ3 : Edn := ⟨⟨#[113, 51]⟩, 1608, 1630, [0, 1, 2]⟩
def stemX : Stm := ⟨[plA, plB, plC], [edQ1, edQ2, edF1, edQ3]⟩
def bestX : List Int := [-1, 0, 1, 0]
def starX : List Int := [-1, 0, 0, 0]
def lineX : List Int := [-1, 0, 1, 2]
def twoX : List Int := [-1, 0, 1, 1]
theorem ev_p1 : apartE stemX 0 2 = ([0, 1], 0) := by kernel_rfl
theorem ev_c1 : changesE stemX starX = (4, 0) := by kernel_rfl
theorem ev_c2 : changesE stemX lineX = (0, 9) := by kernel_rfl
theorem ev_y1 : yearsE stemX twoX = ([(1600, 1600), (1605, 1610), (1623, 1623), (1608, 1630)], 0) := by kernel_rfl
theorem ev_b1 : bestTE stemX = (bestX, 3, 2, 0) := by kernel_rfl
theorem ev_f1 : firstTE stemX = ([0], 0) := by kernel_rfl
theorem ev_m1 : fromE stemX 1 2 = (1, 0) := by kernel_rfl
theorem ev_r1 : readE stemX bestX 3 0 = ([1], 0) := by kernel_rfl
theorem ev_l1 : cleanE stemX = ([], 0) := by kernel_rfl
theorem ev_s1 : secE stemX starX 2 = (1, 1, 0) := by kernel_rfl
theorem ev_s2 : secE stemX bestX 2 = (0, 0, 8) := by kernel_rfl
end Go.Proofs.Ytccogmkhijgelaa
namespace Go.Proofs.Ytccogmkhijgelaa
open Go.RowKit
theorem zr_25 : ZeroT Try.prog 25 (.agg #[.slice none 0 0, .slice none 0 0]) := Cz (by kernel_rfl)
theorem bd_20 : Body Try.prog 20 := Bo (by kernel_rfl)
theorem bd_21 : Body Try.prog 21 := Bo (by kernel_rfl)
theorem bd_23 : Body Try.prog 23 := Bo (by kernel_rfl)
theorem bd_25 : Body Try.prog 25 := Bo (by kernel_rfl)
theorem bd_26 : Body Try.prog 26 := Bo (by kernel_rfl)
theorem bd_27 : Body Try.prog 27 := Bo (by kernel_rfl)
theorem bd_29 : Body Try.prog 29 := Bo (by kernel_rfl)
theorem bd_31 : Body Try.prog 31 := Bo (by kernel_rfl)
theorem bd_33 : Body Try.prog 33 := Bo (by kernel_rfl)
theorem bd_35 : Body Try.prog 35 := Bo (by kernel_rfl)
theorem bd_37 : Body Try.prog 37 := Bo (by kernel_rfl)
theorem bd_39 : Body Try.prog 39 := Bo (by kernel_rfl)
theorem bd_95 : Body Try.prog 95 := Bo (by kernel_rfl)
theorem bt_25 : BuildT Try.prog 25 [.slice none 0 0, .slice none 0 0] [(0, 1), (1, 1)] := buildT_of zr_25 (by kernel_rfl) (by decide)
theorem bt_60 : BuildT Try.prog 60 [.int .i64 0, .int .i64 0] [(0, 1), (1, 1)] := buildT_of zr_60 (by kernel_rfl) (by decide)
theorem bt_64 : BuildT Try.prog 64 [.string ⟨#[]⟩, .int .i64 0, .int .i64 0, .slice none 0 0] [(0, 1), (1, 2), (3, 1)] := buildT_of zr_64 (by kernel_rfl) (by decide)
theorem bt_70 : BuildT Try.prog 70 [.string ⟨#[]⟩, .int .i64 0] [(0, 1), (1, 1)] := buildT_of zr_70 (by kernel_rfl) (by decide)
theorem sz_25 : SizeT Try.prog 25 2 := Cr (by kernel_rfl)
theorem ints_box3 {F : Heap} {b T : Nat} {x y z : Int} (h : F b = some (bx T [.int .i64 x, .int .i64 y, .int .i64 z])) : Ints F (.slice (some ⟨b, 0, none⟩) 3 3) [x, y, z] :=
 sl_box (xs := [x, y, z]) h rfl rfl (fun _ => rfl) (by decide)
theorem ints_box4 {F : Heap} {b T : Nat} {x y z w : Int} (h : F b = some (bx T [.int .i64 x, .int .i64 y, .int .i64 z, .int .i64 w])) : Ints F (.slice (some ⟨b, 0, none⟩) 4 4) [x, y, z, w] :=
 sl_box (xs := [x, y, z, w]) h rfl rfl (fun _ => rfl) (by decide)
theorem plcX_box3 {F : Heap} {b T : Nat} (h : F b = some (bx T [.string ⟨#[97]⟩, .int .i64 0, .string ⟨#[98]⟩, .int .i64 1, .string ⟨#[99]⟩, .int .i64 0])) : Sl F (.slice (some ⟨b, 0, none⟩) 3 3) 2 Plc.enc [plA, plB, plC] :=
 sl_box (xs := [plA, plB, plC]) h rfl rfl (fun _ => rfl) (by decide)
theorem ednX_box4 {F : Heap} {b T : Nat} {v1 v2 v3 v4 : Value} (h : F b = some (bx T [.string ⟨#[113, 49]⟩, .int .i64 1600, .int .i64 1600, v1, .string ⟨#[113, 50]⟩, .int .i64 1605, .int .i64 1610, v2, .string ⟨#[102, 49]⟩, .int .i64 1623, .int .i64 1623, v3, .string ⟨#[113, 51]⟩, .int .i64 1608, .int .i64 1630, v4])) : Sl F (.slice (some ⟨b, 0, none⟩) 4 4) 4 edE [(v1, edQ1), (v2, edQ2), (v3, edF1), (v4, edQ3)] :=
 sl_box (xs := [(v1, edQ1), (v2, edQ2), (v3, edF1), (v4, edQ3)]) h rfl rfl (fun _ => rfl) (by decide)
theorem spansX_box4 {F : Heap} {b T : Nat} (h : F b = some (bx T [.int .i64 1600, .int .i64 1600, .int .i64 1605, .int .i64 1610, .int .i64 1623, .int .i64 1623, .int .i64 1608, .int .i64 1630])) : Sl F (.slice (some ⟨b, 0, none⟩) 4 4) 2 spanE [(1600, 1600), (1605, 1610), (1623, 1623), (1608, 1630)] :=
 sl_box (xs := ([(1600, 1600), (1605, 1610), (1623, 1623), (1608, 1630)] : List (Int × Int))) h rfl rfl (fun _ => rfl) (by decide)
set_option maxRecDepth 100000 in
theorem printed_ok {F : Heap} (nm : ByteArray) (lo hi a b c : Int) : Ok Try.prog 95 [.string nm, .int .i64 lo, .int .i64 hi, .int .i64 a, .int .i64 b, .int .i64 c].toArray F fun u F' => ∃ v, u = .agg #[.string nm, .int .i64 lo, .int .i64 hi, v] ∧ Ints F' v [a, b, c] := by
 refine Ok.intro Try.func95 rfl Try.ntmps95 rfl fun w0 => ?_
 refine Af <| Ai fun ds => Bh rfl (Ca zr_64 rfl fun b1 hb1 nb1 => ?_)
 refine Ah <| Ad <| Af <| Ai fun ds => Aa rfl (Ag (Ak rfl <| Aj rfl)) ?_
 refine Aa rfl (Ag (Ar rfl <| Aj rfl)) ?_
 refine Aa rfl (Ag (Ar rfl <| Ak rfl <| Aj rfl)) ?_
 refine Aa rfl (Eb bt_60 (.cons (Ak rfl <| Ac) rfl (.cons (Ac) rfl .nil)) (.cons rfl rfl (Nat.le_of_ble_eq_true rfl) (.cons (.here) .nil) (.cons rfl rfl (Nat.le_of_ble_eq_true rfl) (.cons (.next <| .here) .nil) .nil))) ?_
 refine Aa rfl (Ag (A2 rfl <| Ak rfl <| Aj rfl)) ?_
 refine Aa rfl (Ag (A2 rfl <| Ar rfl <| Aj rfl)) ?_
 refine Aa rfl (Ag (A2 rfl <| Ar rfl <| Ak rfl <| Aj rfl)) ?_
 refine Bh rfl (B6 Bi C8 rfl (.cons (Ar rfl <| Ac) (.cons (Ak rfl <| Ac) (.cons (Ac) .nil))) rfl rfl (by decide) (by simp [Value.oneCell']) fun b2 hb2 nb2 => ?_)
 refine B4 (i := 0) rfl hb2 .here fun F3 hF4 hz5 => ?_
 have hsl6 := ints_box3 hz5
 refine Aa rfl (Eb bt_64 (.cons (A2 rfl <| Ar rfl <| Ak rfl <| Ac) rfl (.cons (A2 rfl <| Ac) rfl (.cons (Ac) rfl .nil))) (.cons rfl rfl (Nat.le_of_ble_eq_true rfl) (.cons (.here) .nil) (.cons rfl rfl (Nat.le_of_ble_eq_true rfl) (.cons (.next <| .here) (.cons (.next <| .next <| .here) .nil)) (.cons rfl rfl (Nat.le_of_ble_eq_true rfl) (.cons (.next <| .next <| .next <| .here) .nil) .nil)))) ?_
 refine Ch (Cc sz_64 (A7 rfl <| Ak rfl <| Ac) (Ac) (i := 0) rfl rfl rfl rfl (by simp [Value.oneCell']) (.here) ?_)
 refine Ah <| Ad <| A3 <| Aw rfl (.agg agg_64 (A7 rfl <| Ak rfl <| Ac) rfl rfl (A5 0 rfl) .nil) ?_
 exact ⟨_, rfl, hsl6⟩
set_option maxRecDepth 100000 in
theorem stemX_ok {F : Heap} : Ok Try.prog 39 [].toArray F fun u F' => ∃ vp ve ps, u = .agg #[vp, ve] ∧ StmR F' vp ve ps stemX := by
 refine Ok.intro Try.func39 rfl Try.ntmps39 rfl fun w0 => ?_
 refine Af <| Ai fun ds => Bh rfl (Ca zr_25 rfl fun b1 hb1 nb1 => ?_)
 refine Ah <| Ad <| Af <| Ai fun ds => Aa rfl (Eb bt_70 (.cons Ab rfl .nil) (.cons rfl rfl (Nat.le_of_ble_eq_true rfl) (.cons (.here) .nil) .nil)) ?_
 refine Aa rfl (Eb bt_70 (.cons Ab rfl (.cons Ab rfl .nil)) (.cons rfl rfl (Nat.le_of_ble_eq_true rfl) (.cons (.here) .nil) (.cons rfl rfl (Nat.le_of_ble_eq_true rfl) (.cons (.next <| .here) .nil) .nil))) ?_
 refine Aa rfl (Eb bt_70 (.cons Ab rfl .nil) (.cons rfl rfl (Nat.le_of_ble_eq_true rfl) (.cons (.here) .nil) .nil)) ?_
 refine Bh rfl (x_buildN (offs := [(0, 2), (2, 2), (4, 2)]) (zl := [.string ⟨#[]⟩, .int .i64 0, .string ⟨#[]⟩, .int .i64 0, .string ⟨#[]⟩, .int .i64 0]) Db zr_70 rfl (.cons (Ar rfl <| Ac) rfl (.cons (Ak rfl <| Ac) rfl (.cons (Ac) rfl .nil))) (by intro i p h; rcases i with _ | _ | _ | i <;> simp at h <;> subst h <;> rfl) (.cons rfl rfl (Nat.le_of_ble_eq_true rfl) (.cons (.here) (.cons (.next <| .here) .nil)) (.cons rfl rfl (Nat.le_of_ble_eq_true rfl) (.cons (.next <| .next <| .here) (.cons (.next <| .next <| .next <| .here) .nil)) (.cons rfl rfl (Nat.le_of_ble_eq_true rfl) (.cons (.next <| .next <| .next <| .next <| .here) (.cons (.next <| .next <| .next <| .next <| .next <| .here) .nil)) .nil))) (by decide) (by decide) fun b2 hb2 nb2 => ?_)
 refine B4 (i := 0) rfl hb2 .here fun F3 hF4 hz5 => ?_
 have hsl6 := plcX_box3 hz5
 refine Bh rfl (Cj bd_95 Az (.cons Ab (.cons Ab (.cons Ab (.cons Ab (.cons Ab (.cons Ab .nil)))))) (printed_ok _ _ _ _ _ _) fun v7 F8 hr9 hF10 => ?_)
 replace hsl6 := hsl6.mono hF10
 obtain ⟨vq1, rfl, hq1⟩ := hr9
 refine Bh rfl (Cj bd_95 Az (.cons Ab (.cons Ab (.cons Ab (.cons Ab (.cons Ab (.cons Ab .nil)))))) (printed_ok _ _ _ _ _ _) fun v11 F12 hr13 hF14 => ?_)
 replace hsl6 := hsl6.mono hF14
 replace hq1 := hq1.mono hF14
 obtain ⟨vq2, rfl, hq2⟩ := hr13
 refine Bh rfl (Cj bd_95 Az (.cons Ab (.cons Ab (.cons Ab (.cons Ab (.cons Ab (.cons Ab .nil)))))) (printed_ok _ _ _ _ _ _) fun v15 F16 hr17 hF18 => ?_)
 replace hsl6 := hsl6.mono hF18
 replace hq1 := hq1.mono hF18
 replace hq2 := hq2.mono hF18
 obtain ⟨vf1, rfl, hf1⟩ := hr17
 refine Bh rfl (Cj bd_95 Az (.cons Ab (.cons Ab (.cons Ab (.cons Ab (.cons Ab (.cons Ab .nil)))))) (printed_ok _ _ _ _ _ _) fun v19 F20 hr21 hF22 => ?_)
 replace hsl6 := hsl6.mono hF22
 replace hq1 := hq1.mono hF22
 replace hq2 := hq2.mono hF22
 replace hf1 := hf1.mono hF22
 obtain ⟨vq3, rfl, hq3⟩ := hr21
 refine Bh rfl (x_buildN (offs := [(0, 4), (4, 4), (8, 4), (12, 4)]) (zl := [.string ⟨#[]⟩, .int .i64 0, .int .i64 0, .slice none 0 0, .string ⟨#[]⟩, .int .i64 0, .int .i64 0, .slice none 0 0, .string ⟨#[]⟩, .int .i64 0, .int .i64 0, .slice none 0 0, .string ⟨#[]⟩, .int .i64 0, .int .i64 0, .slice none 0 0]) B7 zr_64 rfl (.cons (Ar rfl <| Ak rfl <| Ac) rfl (.cons (Ar rfl <| Ac) rfl (.cons (Ak rfl <| Ac) rfl (.cons (Ac) rfl .nil)))) (by intro i p h; rcases i with _ | _ | _ | _ | i <;> simp at h <;> subst h <;> rfl) (.cons rfl rfl (Nat.le_of_ble_eq_true rfl) (.cons (.here) (.cons (.next <| .here) (.cons (.next <| .next <| .here) (.cons (.next <| .next <| .next <| .here) .nil)))) (.cons rfl rfl (Nat.le_of_ble_eq_true rfl) (.cons (.next <| .next <| .next <| .next <| .here) (.cons (.next <| .next <| .next <| .next <| .next <| .here) (.cons (.next <| .next <| .next <| .next <| .next <| .next <| .here) (.cons (.next <| .next <| .next <| .next <| .next <| .next <| .next <| .here) .nil)))) (.cons rfl rfl (Nat.le_of_ble_eq_true rfl) (.cons (.next <| .next <| .next <| .next <| .next <| .next <| .next <| .next <| .here) (.cons (.next <| .next <| .next <| .next <| .next <| .next <| .next <| .next <| .next <| .here) (.cons (.next <| .next <| .next <| .next <| .next <| .next <| .next <| .next <| .next <| .next <| .here) (.cons (.next <| .next <| .next <| .next <| .next <| .next <| .next <| .next <| .next <| .next <| .next <| .here) .nil)))) (.cons rfl rfl (Nat.le_of_ble_eq_true rfl) (.cons (.next <| .next <| .next <| .next <| .next <| .next <| .next <| .next <| .next <| .next <| .next <| .next <| .here) (.cons (.next <| .next <| .next <| .next <| .next <| .next <| .next <| .next <| .next <| .next <| .next <| .next <| .next <| .here) (.cons (.next <| .next <| .next <| .next <| .next <| .next <| .next <| .next <| .next <| .next <| .next <| .next <| .next <| .next <| .here) (.cons (.next <| .next <| .next <| .next <| .next <| .next <| .next <| .next <| .next <| .next <| .next <| .next <| .next <| .next <| .next <| .here) .nil)))) .nil)))) (by decide) (by decide) fun b23 hb23 nb23 => ?_)
 refine B4 (i := 0) rfl hb23 .here fun F24 hF25 hz26 => ?_
 replace hsl6 := hsl6.mono hF25
 replace hq1 := hq1.mono hF25
 replace hq2 := hq2.mono hF25
 replace hf1 := hf1.mono hF25
 replace hq3 := hq3.mono hF25
 have hsl27 := ednX_box4 hz26
 refine Aa rfl (Eb bt_25 (.cons (A2 rfl <| Ak rfl <| Ac) rfl (.cons (Ac) rfl .nil)) (.cons rfl rfl (Nat.le_of_ble_eq_true rfl) (.cons (.here) .nil) (.cons rfl rfl (Nat.le_of_ble_eq_true rfl) (.cons (.next <| .here) .nil) .nil))) ?_
 refine Ch (Cc sz_25 (A7 rfl <| Ar rfl <| Ac) (Ac) (i := 0) rfl rfl rfl rfl (by simp [Value.oneCell']) (.here) ?_)
 refine Ah <| Ad <| A3 <| Aw rfl (.agg B5 (A7 rfl <| Ar rfl <| Ac) rfl rfl (A5 0 rfl) .nil) ?_
 refine ⟨_, _, [(vq1, edQ1), (vq2, edQ2), (vf1, edF1), (vq3, edQ3)], rfl, ⟨hsl6, hsl27, ?_, rfl⟩⟩
 intro p hp
 simp only [List.mem_cons, List.not_mem_nil, or_false] at hp
 rcases hp with rfl | rfl | rfl | rfl
 · exact hq1
 · exact hq2
 · exact hf1
 · exact hq3
set_option maxRecDepth 100000 in
theorem awake_ok {F : Heap} : Ok Try.prog 26 [].toArray F fun u _ => u = .bool true := by
 refine Ok.intro Try.func26 rfl Try.ntmps26 rfl fun w0 => ?_
 refine Af <| Ai fun ds => Aa rfl (Ae Ab) ?_
 refine Ah <| Ad <| Af <| Ai fun ds => Bh rfl (Cj bd_39 Az .nil stemX_ok fun v1 F2 hr3 hF4 => ?_)
 obtain ⟨vp, ve, ps, rfl, hr⟩ := hr3
 refine Bh rfl (Ca zr_25 rfl fun b5 hb5 nb5 => ?_)
 refine Ch (Cc sz_25 (Ac) (Ak rfl <| Ac) (i := 0) rfl rfl rfl rfl hr.ones (.here) ?_)
 refine Ah <| Ad <| Af <| Ai fun ds => Bh rfl (B6 Bi C8 rfl (.cons Ab (.cons Ab (.cons Ab (.cons Ab .nil)))) rfl rfl (by decide) (by simp [Value.oneCell']) fun b6 hb6 nb6 => ?_)
 refine B4 (i := 0) rfl hb6 .here fun F7 hF8 hz9 => ?_
 replace hr := hr.mono hF8
 have hsl10 := ints_box4 hz9
 refine Aa rfl (Ae (Ac)) ?_
 refine Ah <| Ad <| Af <| Ai fun ds => Aa rfl (A9 B5 (Ar rfl <| Ac) rfl rfl (A5 0 rfl)) ?_
 refine Bh rfl (Cj bd_18 Az (.cons (Ac) (.cons Ab (.cons Ab .nil))) ((apart_top_ok hr 0 2).mono fun u F2 _ h => (by rw [ev_p1] at h; exact h : ∃ ws, u = .tuple #[ws, .int .i64 0] ∧ Nats F2 ws [0, 1])) fun v11 F12 hr13 hF14 => ?_)
 replace hr := hr.mono hF14
 replace hsl10 := hsl10.mono hF14
 obtain ⟨hq1_, rfl, hq1⟩ := hr13
 refine Aa rfl (Ag (Ac)) ?_
 refine Aa rfl (Ax (Ac) rfl) ?_
 refine Aa rfl (Ax (Ak rfl <| Ac) rfl) ?_
 refine Aa rfl (Ae (Ak rfl <| Ac)) ?_
 refine Aa rfl (Ae (Ak rfl <| Ac)) ?_
 refine Ah <| Ad <| Af <| Ai fun ds => Aa rfl (A9 B5 (A7 rfl <| Ak rfl <| Ac) rfl rfl (A5 0 rfl)) ?_
 refine Bh rfl (B6 Bi C8 rfl (.cons Ab (.cons Ab (.cons Ab (.cons Ab .nil)))) rfl rfl (by decide) (by simp [Value.oneCell']) fun b15 hb15 nb15 => ?_)
 refine B4 (i := 0) rfl hb15 .here fun F16 hF17 hz18 => ?_
 replace hr := hr.mono hF17
 replace hsl10 := hsl10.mono hF17
 replace hq1 := hq1.mono hF17
 have hsl19 := ints_box4 hz18
 refine Bw rfl (Ba bd_21 Az (.cons (Ak rfl <| Ac) (.cons (Ac) .nil)) (Dp hr (l := starX) hsl19) (fun _ _ h => h.trans (show _ = Value.tuple #[.int .i64 4, .int .i64 0] by unfold changesEV; rw [ev_c1]))) ?_
 refine Aa rfl (Ag (Ac)) ?_
 refine Aa rfl (Ax (Ac) rfl) ?_
 refine Aa rfl (Ax (Ak rfl <| Ac) rfl) ?_
 refine Aa rfl (Ae (Ak rfl <| Ac)) ?_
 refine Aa rfl (Ae (Ak rfl <| Ac)) ?_
 refine Ah <| Ad <| Af <| Ai fun ds => Aa rfl (A9 B5 (A4 rfl <| Ak rfl <| Ac) rfl rfl (A5 0 rfl)) ?_
 refine Bh rfl (B6 Bi C8 rfl (.cons Ab (.cons Ab (.cons Ab (.cons Ab .nil)))) rfl rfl (by decide) (by simp [Value.oneCell']) fun b20 hb20 nb20 => ?_)
 refine B4 (i := 0) rfl hb20 .here fun F21 hF22 hz23 => ?_
 replace hr := hr.mono hF22
 replace hsl10 := hsl10.mono hF22
 replace hq1 := hq1.mono hF22
 have hsl24 := ints_box4 hz23
 refine Bw rfl (Ba bd_21 Az (.cons (Ak rfl <| Ac) (.cons (Ac) .nil)) (Dp hr (l := lineX) hsl24) (fun _ _ h => h.trans (show _ = Value.tuple #[.int .i64 0, .int .i64 9] by unfold changesEV; rw [ev_c2]))) ?_
 refine Aa rfl (Ag (Ac)) ?_
 refine Aa rfl (Ax (Ac) rfl) ?_
 refine Aa rfl (Ax (Ak rfl <| Ac) rfl) ?_
 refine Aa rfl (Ae (Ak rfl <| Ac)) ?_
 refine Aa rfl (Ae (Ak rfl <| Ac)) ?_
 refine Ah <| Ad <| Af <| Ai fun ds => Aa rfl (A9 B5 (A4 rfl <| A7 rfl <| Ak rfl <| Ac) rfl rfl (A5 0 rfl)) ?_
 refine Bh rfl (B6 Bi C8 rfl (.cons Ab (.cons Ab (.cons Ab (.cons Ab .nil)))) rfl rfl (by decide) (by simp [Value.oneCell']) fun b25 hb25 nb25 => ?_)
 refine B4 (i := 0) rfl hb25 .here fun F26 hF27 hz28 => ?_
 replace hr := hr.mono hF27
 replace hsl10 := hsl10.mono hF27
 replace hq1 := hq1.mono hF27
 have hsl29 := ints_box4 hz28
 refine Bh rfl (Cj bd_23 Az (.cons (Ak rfl <| Ac) (.cons (Ac) .nil)) ((years_top_ok hr (l := twoX) hsl29).mono fun u F2 _ h => (by rw [ev_y1] at h; exact h : ∃ ws, u = .tuple #[ws, .int .i64 0] ∧ (fun F v l => Sl F v 2 spanE l) F2 ws [(1600, 1600), (1605, 1610), (1623, 1623), (1608, 1630)])) fun v30 F31 hr32 hF33 => ?_)
 replace hr := hr.mono hF33
 replace hsl10 := hsl10.mono hF33
 replace hq1 := hq1.mono hF33
 obtain ⟨hq2_, rfl, hq2⟩ := hr32
 refine Aa rfl (Ag (Ac)) ?_
 refine Aa rfl (Ax (Ac) rfl) ?_
 refine Aa rfl (Ax (Ak rfl <| Ac) rfl) ?_
 refine Aa rfl (Ae (Ak rfl <| Ac)) ?_
 refine Aa rfl (Ae (Ak rfl <| Ac)) ?_
 refine Ah <| Ad <| Af <| Ai fun ds => Aa rfl (A9 B5 (Bn rfl <| Ak rfl <| Ac) rfl rfl (A5 0 rfl)) ?_
 refine Bh rfl (Cj bd_27 Az (.cons (Ac) .nil) ((best_top_ok hr).mono fun u F2 _ h => (by rw [ev_b1] at h; exact h : ∃ ws, u = .tuple #[ws, .int .i64 3, .int .i64 2, .int .i64 0] ∧ Ints F2 ws bestX)) fun v34 F35 hr36 hF37 => ?_)
 replace hr := hr.mono hF37
 replace hsl10 := hsl10.mono hF37
 replace hq1 := hq1.mono hF37
 replace hq2 := hq2.mono hF37
 obtain ⟨hq3_, rfl, hq3⟩ := hr36
 refine Aa rfl (Ag (Ac)) ?_
 refine Aa rfl (Ax (Ac) rfl) ?_
 refine Aa rfl (Ax (Ak rfl <| Ac) rfl) ?_
 refine Aa rfl (Ax (Ar rfl <| Ac) rfl) ?_
 refine Aa rfl (Ax (Ar rfl <| Ak rfl <| Ac) rfl) ?_
 refine Aa rfl (Ae (Ar rfl <| Ak rfl <| Ac)) ?_
 refine Aa rfl (Ae (Ar rfl <| Ak rfl <| Ac)) ?_
 refine Aa rfl (Ae (Ar rfl <| Ak rfl <| Ac)) ?_
 refine Aa rfl (Ae (Ar rfl <| Ak rfl <| Ac)) ?_
 refine Ah <| Ad <| Af <| Ai fun ds => Aa rfl (A9 B5 (Bn rfl <| A7 rfl <| A2 rfl <| Ac) rfl rfl (A5 0 rfl)) ?_
 refine Bh rfl (Cj bd_29 Az (.cons (Ac) .nil) ((first_top_ok hr).mono fun u F2 _ h => (by rw [ev_f1] at h; exact h : ∃ ws, u = .tuple #[ws, .int .i64 0] ∧ Nats F2 ws [0])) fun v38 F39 hr40 hF41 => ?_)
 replace hr := hr.mono hF41
 replace hsl10 := hsl10.mono hF41
 replace hq1 := hq1.mono hF41
 replace hq2 := hq2.mono hF41
 replace hq3 := hq3.mono hF41
 obtain ⟨hq4_, rfl, hq4⟩ := hr40
 refine Aa rfl (Ag (Ac)) ?_
 refine Aa rfl (Ax (Ac) rfl) ?_
 refine Aa rfl (Ax (Ak rfl <| Ac) rfl) ?_
 refine Aa rfl (Ae (Ak rfl <| Ac)) ?_
 refine Aa rfl (Ae (Ak rfl <| Ac)) ?_
 refine Ah <| Ad <| Af <| Ai fun ds => Aa rfl (A9 B5 (Bn rfl <| A4 rfl <| Ar rfl <| Ak rfl <| Ac) rfl rfl (A5 0 rfl)) ?_
 refine Bw rfl (Ba bd_31 Az (.cons (Ac) (.cons Ab (.cons Ab .nil))) (from_top_ok hr 1 2) (fun _ _ h => h.trans (show _ = Value.tuple #[.int .i64 1, .int .i64 0] by unfold fromV; rw [ev_m1]))) ?_
 refine Aa rfl (Ag (Ac)) ?_
 refine Aa rfl (Ax (Ac) rfl) ?_
 refine Aa rfl (Ax (Ak rfl <| Ac) rfl) ?_
 refine Aa rfl (Ae (Ak rfl <| Ac)) ?_
 refine Aa rfl (Ae (Ak rfl <| Ac)) ?_
 refine Ah <| Ad <| Af <| Ai fun ds => Aa rfl (A9 B5 (Bn rfl <| A4 rfl <| A7 rfl <| Ar rfl <| Ac) rfl rfl (A5 0 rfl)) ?_
 refine Aa rfl (Ag (Bn rfl <| A4 rfl <| A7 rfl <| Ak rfl <| Ac)) ?_
 refine Bh rfl (Cj bd_35 Az (.cons (Ak rfl <| Ac) (.cons (Ac) (.cons Ab (.cons Ab .nil)))) ((reading_top_ok hr (l := bestX) hsl10 3 0).mono fun u F2 _ h => (by rw [ev_r1] at h; exact h : ∃ ws, u = .tuple #[ws, .int .i64 0] ∧ Ints F2 ws [1])) fun v42 F43 hr44 hF45 => ?_)
 replace hr := hr.mono hF45
 replace hsl10 := hsl10.mono hF45
 replace hq1 := hq1.mono hF45
 replace hq2 := hq2.mono hF45
 replace hq3 := hq3.mono hF45
 replace hq4 := hq4.mono hF45
 obtain ⟨hq5_, rfl, hq5⟩ := hr44
 refine Aa rfl (Ag (Ac)) ?_
 refine Aa rfl (Ax (Ac) rfl) ?_
 refine Aa rfl (Ax (Ak rfl <| Ac) rfl) ?_
 refine Aa rfl (Ae (Ak rfl <| Ac)) ?_
 refine Aa rfl (Ae (Ak rfl <| Ac)) ?_
 refine Ah <| Ad <| Af <| Ai fun ds => Aa rfl (A9 B5 (Bn rfl <| Bn rfl <| Ar rfl <| Ac) rfl rfl (A5 0 rfl)) ?_
 refine Bh rfl (Cj bd_33 Az (.cons (Ac) .nil) ((clean_top_ok hr).mono fun u F2 _ h => (by rw [ev_l1] at h; exact h : ∃ ws, u = .tuple #[ws, .int .i64 0] ∧ Nats F2 ws [])) fun v46 F47 hr48 hF49 => ?_)
 replace hr := hr.mono hF49
 replace hsl10 := hsl10.mono hF49
 replace hq1 := hq1.mono hF49
 replace hq2 := hq2.mono hF49
 replace hq3 := hq3.mono hF49
 replace hq4 := hq4.mono hF49
 replace hq5 := hq5.mono hF49
 obtain ⟨hq6_, rfl, hq6⟩ := hr48
 refine Aa rfl (Ag (Ac)) ?_
 refine Aa rfl (Ax (Ac) rfl) ?_
 refine Aa rfl (Ax (Ak rfl <| Ac) rfl) ?_
 refine Aa rfl (Ae (Ak rfl <| Ac)) ?_
 refine Aa rfl (Ae (Ak rfl <| Ac)) ?_
 refine Ah <| Ad <| Af <| Ai fun ds => Aa rfl (A9 B5 (Bn rfl <| Bn rfl <| A7 rfl <| Ak rfl <| Ac) rfl rfl (A5 0 rfl)) ?_
 refine Bh rfl (B6 Bi C8 rfl (.cons Ab (.cons Ab (.cons Ab (.cons Ab .nil)))) rfl rfl (by decide) (by simp [Value.oneCell']) fun b50 hb50 nb50 => ?_)
 refine B4 (i := 0) rfl hb50 .here fun F51 hF52 hz53 => ?_
 replace hr := hr.mono hF52
 replace hsl10 := hsl10.mono hF52
 replace hq1 := hq1.mono hF52
 replace hq2 := hq2.mono hF52
 replace hq3 := hq3.mono hF52
 replace hq4 := hq4.mono hF52
 replace hq5 := hq5.mono hF52
 replace hq6 := hq6.mono hF52
 have hsl54 := ints_box4 hz53
 refine Bw rfl (Ba bd_37 Az (.cons (Ak rfl <| Ac) (.cons (Ac) (.cons Ab .nil))) (second_top_ok hr (l := starX) hsl54 2) (fun _ _ h => h.trans (show _ = Value.tuple #[.int .i64 1, .int .i64 1, .int .i64 0] by unfold secV; rw [ev_s1]))) ?_
 refine Aa rfl (Ag (Ac)) ?_
 refine Aa rfl (Ax (Ac) rfl) ?_
 refine Aa rfl (Ax (Ak rfl <| Ac) rfl) ?_
 refine Aa rfl (Ax (Ar rfl <| Ac) rfl) ?_
 refine Aa rfl (Ae (Ar rfl <| Ac)) ?_
 refine Aa rfl (Ae (Ar rfl <| Ac)) ?_
 refine Aa rfl (Ae (Ar rfl <| Ac)) ?_
 refine Ah <| Ad <| Af <| Ai fun ds => Aa rfl (A9 B5 (Bn rfl <| Bn rfl <| A4 rfl <| Ar rfl <| Ak rfl <| Ac) rfl rfl (A5 0 rfl)) ?_
 refine Aa rfl (Ag (Bn rfl <| Bn rfl <| A4 rfl <| Ar rfl <| Ac)) ?_
 refine Bw rfl (Ba bd_37 Az (.cons (Ak rfl <| Ac) (.cons (Ac) (.cons Ab .nil))) (second_top_ok hr (l := bestX) hsl10 2) (fun _ _ h => h.trans (show _ = Value.tuple #[.int .i64 0, .int .i64 0, .int .i64 8] by unfold secV; rw [ev_s2]))) ?_
 refine Aa rfl (Ag (Ac)) ?_
 refine Aa rfl (Ax (Ac) rfl) ?_
 refine Aa rfl (Ax (Ak rfl <| Ac) rfl) ?_
 refine Aa rfl (Ax (Ar rfl <| Ac) rfl) ?_
 refine Aa rfl (Ae (Ar rfl <| Ac)) ?_
 refine Aa rfl (Ae (Ar rfl <| Ac)) ?_
 refine Aa rfl (Ae (Ar rfl <| Ac)) ?_
 refine Ah <| Ad <| Af <| Ai fun ds => Aa rfl (Ag (Bn rfl <| Bn rfl <| A4 rfl <| A2 rfl <| Ac)) ?_
 refine Aa rfl (Bx (Ac) Ab) ?_
 refine Aa rfl (Ag (Ac)) ?_
 refine As rfl rfl (Ac) (by first | rfl | decide) ?_
 refine Aa rfl (Ag (Bn rfl <| Bn rfl <| A7 rfl <| A2 rfl <| Ar rfl <| Ak rfl <| Ac)) ?_
 refine As rfl rfl (Ak rfl <| Ac) (by first | rfl | decide) ?_
 refine Aa rfl (Bx (Ac) Ab) ?_
 refine Aa rfl (A1 (Ar rfl <| Ac) (by first | rfl | decide) (Ac)) ?_
 refine Aa rfl (Ag (Ac)) ?_
 refine As rfl rfl (Ac) (by first | rfl | decide) ?_
 refine Aa rfl (Ag (Bn rfl <| Bn rfl <| Ar rfl <| Ak rfl <| Ac)) ?_
 refine As rfl rfl (Ak rfl <| Ac) (by first | rfl | decide) ?_
 refine Aa rfl (Bx (Ac) Ab) ?_
 refine Aa rfl (A1 (Ar rfl <| Ac) (by first | rfl | decide) (Ac)) ?_
 refine Aa rfl (Ag (Ac)) ?_
 refine As rfl rfl (Ac) (by first | rfl | decide) ?_
 refine Aa rfl (Ag (Bn rfl <| A4 rfl <| A7 rfl <| A2 rfl <| Ac)) ?_
 refine As rfl rfl (Ak rfl <| Ac) (by first | rfl | decide) ?_
 refine Aa rfl (Bx (Ac) Ab) ?_
 refine Aa rfl (A1 (Ar rfl <| Ac) (by first | rfl | decide) (Ac)) ?_
 refine Aa rfl (Ag (Ac)) ?_
 refine As rfl rfl (Ac) (by first | rfl | decide) ?_
 refine Aa rfl (Ag (Bn rfl <| A4 rfl <| A7 rfl <| Ak rfl <| Ac)) ?_
 refine As rfl rfl (Ak rfl <| Ac) (by first | rfl | decide) ?_
 refine Aa rfl (Bx (Ac) Ab) ?_
 refine Aa rfl (A1 (Ar rfl <| Ac) (by first | rfl | decide) (Ac)) ?_
 refine Aa rfl (Ag (Ac)) ?_
 refine As rfl rfl (Ac) (by first | rfl | decide) ?_
 refine Aa rfl (Ag (Bn rfl <| A4 rfl <| A2 rfl <| Ar rfl <| Ac)) ?_
 refine As rfl rfl (Ak rfl <| Ac) (by first | rfl | decide) ?_
 refine Aa rfl (Bx (Ac) Ab) ?_
 refine Aa rfl (A1 (Ar rfl <| Ac) (by first | rfl | decide) (Ac)) ?_
 refine Aa rfl (Ag (Ac)) ?_
 refine As rfl rfl (Ac) (by first | rfl | decide) ?_
 refine Aa rfl (Ag (Bn rfl <| A4 rfl <| Ar rfl <| Ac)) ?_
 refine As rfl rfl (Ak rfl <| Ac) (by first | rfl | decide) ?_
 refine Aa rfl (Bx (Ac) Ab) ?_
 refine Aa rfl (A1 (Ar rfl <| Ac) (by first | rfl | decide) (Ac)) ?_
 refine Aa rfl (Ag (Ac)) ?_
 refine As rfl rfl (Ac) (by first | rfl | decide) ?_
 refine Aa rfl (Ag (Bn rfl <| A7 rfl <| A2 rfl <| Ar rfl <| Ak rfl <| Ac)) ?_
 refine As rfl rfl (Ak rfl <| Ac) (by first | rfl | decide) ?_
 refine Aa rfl (Bx (Ac) Ab) ?_
 refine Aa rfl (A1 (Ar rfl <| Ac) (by first | rfl | decide) (Ac)) ?_
 refine Aa rfl (Ag (Ac)) ?_
 refine As rfl rfl (Ac) (by first | rfl | decide) ?_
 refine Aa rfl (Ag (Bn rfl <| A7 rfl <| Ak rfl <| Ac)) ?_
 refine As rfl rfl (Ak rfl <| Ac) (by first | rfl | decide) ?_
 refine Aa rfl (Bx (Ac) Ab) ?_
 refine Aa rfl (A1 (Ar rfl <| Ac) (by first | rfl | decide) (Ac)) ?_
 refine Aa rfl (Ag (Ac)) ?_
 refine As rfl rfl (Ac) (by first | rfl | decide) ?_
 refine Aa rfl (Ag (Bn rfl <| Bn rfl <| Bn rfl <| A2 rfl <| Ar rfl <| Ak rfl <| Ac)) ?_
 refine As rfl rfl (Ak rfl <| Ac) (by first | rfl | decide) ?_
 refine Aa rfl (Bx (Ac) Ab) ?_
 refine Aa rfl (A1 (Ar rfl <| Ac) (by first | rfl | decide) (Ac)) ?_
 refine Aa rfl (Ag (Ac)) ?_
 refine As rfl rfl (Ac) (by first | rfl | decide) ?_
 refine Aa rfl (Ag (Bn rfl <| A2 rfl <| Ar rfl <| Ak rfl <| Ac)) ?_
 refine As rfl rfl (Ak rfl <| Ac) (by first | rfl | decide) ?_
 refine Aa rfl (Bx (Ac) Ab) ?_
 refine Aa rfl (A1 (Ar rfl <| Ac) (by first | rfl | decide) (Ac)) ?_
 refine Aa rfl (Ag (Ac)) ?_
 refine As rfl rfl (Ac) (by first | rfl | decide) ?_
 refine Aa rfl (Ag (Bn rfl <| Bn rfl <| Bn rfl <| Bn rfl <| Ac)) ?_
 refine As rfl rfl (Ak rfl <| Ac) (by first | rfl | decide) ?_
 refine Bh rfl (B6 Bi C8 rfl (.cons Ab (.cons Ab .nil)) rfl rfl (by decide) (by simp [Value.oneCell']) fun b55 hb55 nb55 => ?_)
 refine B4 (i := 0) rfl hb55 .here fun F56 hF57 hz58 => ?_
 replace hsl10 := hsl10.mono hF57
 replace hq1 := hq1.mono hF57
 replace hq2 := hq2.mono hF57
 replace hq3 := hq3.mono hF57
 replace hq4 := hq4.mono hF57
 replace hq5 := hq5.mono hF57
 replace hq6 := hq6.mono hF57
 have hsl59 := ints_box2 hz58
 refine As rfl rfl (Ar rfl <| Ac) (by first | rfl | decide) ?_
 refine Bw rfl (Ba bd_20 Az (.cons (Ak rfl <| Ac) (.cons (Ac) .nil)) (refInts_ok (Nats.ints hq1) hsl59) (fun _ _ h => h)) ?_
 refine Aa rfl (A1 (Ar rfl <| Ak rfl <| Ac) (by first | rfl | decide) (Ac)) ?_
 refine Aa rfl (Ag (Ac)) ?_
 refine As rfl rfl (Ac) (by first | rfl | decide) ?_
 refine Aa rfl (Ag (Bn rfl <| Bn rfl <| Bn rfl <| A4 rfl <| A7 rfl <| A2 rfl <| Ak rfl <| Ac)) ?_
 refine As rfl rfl (Ak rfl <| Ac) (by first | rfl | decide) ?_
 refine Aa rfl (Bx (Ac) Ab) ?_
 refine Aa rfl (A1 (Ar rfl <| Ac) (by first | rfl | decide) (Ac)) ?_
 refine Aa rfl (Ag (Ac)) ?_
 refine As rfl rfl (Ac) (by first | rfl | decide) ?_
 refine Aa rfl (Ag (Bn rfl <| Bn rfl <| Bn rfl <| A4 rfl <| Ak rfl <| Ac)) ?_
 refine As rfl rfl (Ak rfl <| Ac) (by first | rfl | decide) ?_
 refine Aa rfl (Eb bt_60 (.cons Ab rfl (.cons Ab rfl .nil)) (.cons rfl rfl (Nat.le_of_ble_eq_true rfl) (.cons (.here) .nil) (.cons rfl rfl (Nat.le_of_ble_eq_true rfl) (.cons (.next <| .here) .nil) .nil))) ?_
 refine As rfl rfl (Ar rfl <| Ac) (by first | rfl | decide) ?_
 refine Aa rfl (Eb bt_60 (.cons Ab rfl (.cons Ab rfl .nil)) (.cons rfl rfl (Nat.le_of_ble_eq_true rfl) (.cons (.here) .nil) (.cons rfl rfl (Nat.le_of_ble_eq_true rfl) (.cons (.next <| .here) .nil) .nil))) ?_
 refine As rfl rfl (Ar rfl <| Ak rfl <| Ac) (by first | rfl | decide) ?_
 refine Aa rfl (Eb bt_60 (.cons Ab rfl (.cons Ab rfl .nil)) (.cons rfl rfl (Nat.le_of_ble_eq_true rfl) (.cons (.here) .nil) (.cons rfl rfl (Nat.le_of_ble_eq_true rfl) (.cons (.next <| .here) .nil) .nil))) ?_
 refine As rfl rfl (A2 rfl <| Ac) (by first | rfl | decide) ?_
 refine Aa rfl (Eb bt_60 (.cons Ab rfl (.cons Ab rfl .nil)) (.cons rfl rfl (Nat.le_of_ble_eq_true rfl) (.cons (.here) .nil) (.cons rfl rfl (Nat.le_of_ble_eq_true rfl) (.cons (.next <| .here) .nil) .nil))) ?_
 refine As rfl rfl (A2 rfl <| Ak rfl <| Ac) (by first | rfl | decide) ?_
 refine Bh rfl (x_buildN (offs := [(0, 2), (2, 2), (4, 2), (6, 2)]) (zl := [.int .i64 0, .int .i64 0, .int .i64 0, .int .i64 0, .int .i64 0, .int .i64 0, .int .i64 0, .int .i64 0]) D8 zr_60 rfl (.cons (Ar rfl <| Ak rfl <| Ac) rfl (.cons (Ar rfl <| Ac) rfl (.cons (Ak rfl <| Ac) rfl (.cons (Ac) rfl .nil)))) (by intro i p h; rcases i with _ | _ | _ | _ | i <;> simp at h <;> subst h <;> rfl) (.cons rfl rfl (Nat.le_of_ble_eq_true rfl) (.cons (.here) (.cons (.next <| .here) .nil)) (.cons rfl rfl (Nat.le_of_ble_eq_true rfl) (.cons (.next <| .next <| .here) (.cons (.next <| .next <| .next <| .here) .nil)) (.cons rfl rfl (Nat.le_of_ble_eq_true rfl) (.cons (.next <| .next <| .next <| .next <| .here) (.cons (.next <| .next <| .next <| .next <| .next <| .here) .nil)) (.cons rfl rfl (Nat.le_of_ble_eq_true rfl) (.cons (.next <| .next <| .next <| .next <| .next <| .next <| .here) (.cons (.next <| .next <| .next <| .next <| .next <| .next <| .next <| .here) .nil)) .nil)))) (by decide) (by decide) fun b60 hb60 nb60 => ?_)
 refine B4 (i := 0) rfl hb60 .here fun F61 hF62 hz63 => ?_
 replace hsl10 := hsl10.mono hF62
 replace hq2 := hq2.mono hF62
 replace hq3 := hq3.mono hF62
 replace hq4 := hq4.mono hF62
 replace hq5 := hq5.mono hF62
 replace hq6 := hq6.mono hF62
 have hsl64 := spansX_box4 hz63
 refine As rfl rfl (A2 rfl <| Ar rfl <| Ac) (by first | rfl | decide) ?_
 refine Bw rfl (Ba bd_25 Az (.cons (A2 rfl <| Ak rfl <| Ac) (.cons (Ac) .nil)) (refSpans_ok hq2 hsl64) (fun _ _ h => h)) ?_
 refine Aa rfl (A1 (A2 rfl <| Ar rfl <| Ak rfl <| Ac) (by first | rfl | decide) (Ac)) ?_
 refine Aa rfl (Ag (Ac)) ?_
 refine As rfl rfl (Ac) (by first | rfl | decide) ?_
 refine Aa rfl (Ag (Bn rfl <| Bn rfl <| Bn rfl <| A4 rfl <| Ak rfl <| Ac)) ?_
 refine As rfl rfl (Ak rfl <| Ac) (by first | rfl | decide) ?_
 refine Aa rfl (Ag (Bn rfl <| Bn rfl <| Bn rfl <| Bn rfl <| A4 rfl <| A7 rfl <| Ak rfl <| Ac)) ?_
 refine As rfl rfl (Ar rfl <| Ac) (by first | rfl | decide) ?_
 refine Bw rfl (Ba bd_20 Az (.cons (Ak rfl <| Ac) (.cons (Ac) .nil)) (refInts_ok hq3 hsl10) (fun _ _ h => h)) ?_
 refine Aa rfl (A1 (Ar rfl <| Ak rfl <| Ac) (by first | rfl | decide) (Ac)) ?_
 refine Aa rfl (Ag (Ac)) ?_
 refine As rfl rfl (Ac) (by first | rfl | decide) ?_
 refine Aa rfl (Ag (Bn rfl <| Bn rfl <| Bn rfl <| A4 rfl <| A2 rfl <| Ak rfl <| Ac)) ?_
 refine As rfl rfl (Ak rfl <| Ac) (by first | rfl | decide) ?_
 refine Aa rfl (Bx (Ac) Ab) ?_
 refine Aa rfl (A1 (Ar rfl <| Ac) (by first | rfl | decide) (Ac)) ?_
 refine Aa rfl (Ag (Ac)) ?_
 refine As rfl rfl (Ac) (by first | rfl | decide) ?_
 refine Aa rfl (Ag (Bn rfl <| Bn rfl <| Bn rfl <| A4 rfl <| A7 rfl <| Ac)) ?_
 refine As rfl rfl (Ak rfl <| Ac) (by first | rfl | decide) ?_
 refine Aa rfl (Bx (Ac) Ab) ?_
 refine Aa rfl (A1 (Ar rfl <| Ac) (by first | rfl | decide) (Ac)) ?_
 refine Aa rfl (Ag (Ac)) ?_
 refine As rfl rfl (Ac) (by first | rfl | decide) ?_
 refine Aa rfl (Ag (Bn rfl <| Bn rfl <| Bn rfl <| A4 rfl <| A2 rfl <| Ak rfl <| Ac)) ?_
 refine As rfl rfl (Ak rfl <| Ac) (by first | rfl | decide) ?_
 refine Bh rfl (B6 Bi C8 rfl (.cons Ab .nil) rfl rfl (by decide) (by simp [Value.oneCell']) fun b65 hb65 nb65 => ?_)
 refine B4 (i := 0) rfl hb65 .here fun F66 hF67 hz68 => ?_
 replace hq4 := hq4.mono hF67
 replace hq5 := hq5.mono hF67
 replace hq6 := hq6.mono hF67
 have hsl69 := Cu hz68
 refine As rfl rfl (Ar rfl <| Ac) (by first | rfl | decide) ?_
 refine Bw rfl (Ba bd_20 Az (.cons (Ak rfl <| Ac) (.cons (Ac) .nil)) (refInts_ok (Nats.ints hq4) hsl69) (fun _ _ h => h)) ?_
 refine Aa rfl (A1 (Ar rfl <| Ak rfl <| Ac) (by first | rfl | decide) (Ac)) ?_
 refine Aa rfl (Ag (Ac)) ?_
 refine As rfl rfl (Ac) (by first | rfl | decide) ?_
 refine Aa rfl (Ag (Bn rfl <| Bn rfl <| Bn rfl <| A4 rfl <| Ar rfl <| Ak rfl <| Ac)) ?_
 refine As rfl rfl (Ak rfl <| Ac) (by first | rfl | decide) ?_
 refine Aa rfl (Bx (Ac) Ab) ?_
 refine Aa rfl (A1 (Ar rfl <| Ac) (by first | rfl | decide) (Ac)) ?_
 refine Aa rfl (Ag (Ac)) ?_
 refine As rfl rfl (Ac) (by first | rfl | decide) ?_
 refine Aa rfl (Ag (Bn rfl <| Bn rfl <| Bn rfl <| A7 rfl <| A2 rfl <| Ar rfl <| Ak rfl <| Ac)) ?_
 refine As rfl rfl (Ak rfl <| Ac) (by first | rfl | decide) ?_
 refine Bh rfl (B6 Bi C8 rfl (.cons Ab .nil) rfl rfl (by decide) (by simp [Value.oneCell']) fun b70 hb70 nb70 => ?_)
 refine B4 (i := 0) rfl hb70 .here fun F71 hF72 hz73 => ?_
 replace hq5 := hq5.mono hF72
 replace hq6 := hq6.mono hF72
 have hsl74 := Cu hz73
 refine As rfl rfl (Ar rfl <| Ac) (by first | rfl | decide) ?_
 refine Bw rfl (Ba bd_20 Az (.cons (Ak rfl <| Ac) (.cons (Ac) .nil)) (refInts_ok hq5 hsl74) (fun _ _ h => h)) ?_
 refine Aa rfl (A1 (Ar rfl <| Ak rfl <| Ac) (by first | rfl | decide) (Ac)) ?_
 refine Aa rfl (Ag (Ac)) ?_
 refine As rfl rfl (Ac) (by first | rfl | decide) ?_
 refine Aa rfl (Ag (Bn rfl <| Bn rfl <| Bn rfl <| A7 rfl <| A2 rfl <| Ak rfl <| Ac)) ?_
 refine As rfl rfl (Ak rfl <| Ac) (by first | rfl | decide) ?_
 refine Aa rfl (Bk Bi (Ac) hq6.plain) ?_
 refine As rfl rfl (Ar rfl <| Ac) (by first | rfl | decide) ?_
 refine Aa rfl (Bx (Ac) Ab) ?_
 refine Aa rfl (A1 (Ar rfl <| Ak rfl <| Ac) (by first | rfl | decide) (Ac)) ?_
 refine Aa rfl (Ag (Ac)) ?_
 refine As rfl rfl (Ac) (by first | rfl | decide) ?_
 refine Aa rfl (Ag (Bn rfl <| Bn rfl <| Bn rfl <| A7 rfl <| Ak rfl <| Ac)) ?_
 refine As rfl rfl (Ak rfl <| Ac) (by first | rfl | decide) ?_
 refine Aa rfl (Bx (Ac) Ab) ?_
 refine Aa rfl (A1 (Ar rfl <| Ac) (by first | rfl | decide) (Ac)) ?_
 refine Aa rfl (Ag (Ac)) ?_
 refine As rfl rfl (Ac) (by first | rfl | decide) ?_
 refine Aa rfl (Ag (Bn rfl <| Bn rfl <| Bn rfl <| A7 rfl <| A2 rfl <| Ac)) ?_
 refine As rfl rfl (Ak rfl <| Ac) (by first | rfl | decide) ?_
 refine Aa rfl (Bx (Ac) Ab) ?_
 refine Aa rfl (A1 (Ar rfl <| Ac) (by first | rfl | decide) (Ac)) ?_
 refine Aa rfl (Ae (Ac)) ?_
 refine Ah <| Ad <| A3 <| Aw rfl (.tmp (Ac) .nil) ?_
 show _ = _
 first | rfl | decide
end Go.Proofs.Ytccogmkhijgelaa
namespace Go.Proofs.Ytccogmkhijgelaa
def turnN (xs : List Nat) (n : Nat) : Nat := xs[n % xs.length]?.getD 0
theorem turnN_lt {xs : List Nat} (h : ∀ x ∈ xs, x < 256) {n : Nat} : turnN xs n < 256 := by
 unfold turnN
 cases hx : xs[n % xs.length]? with
 | none => decide
 | some x => exact h x (List.mem_of_getElem? hx)
theorem turnN_nil {n : Nat} : turnN [] n = 0 := by simp [turnN]
theorem turnN_at {xs : List Nat} {n : Nat} (h : n % xs.length < xs.length) : turnN xs n = xs[n % xs.length] := by simp [turnN, h]
/-- What was taken so far, and what is left. -/
structure TreeI (n : Nat) (g : Nat → Int) (taken left : List Nat) : Prop where
 nodup : (taken ++ left).Nodup
 len : taken.length + left.length = n
 all : ∀ i, i < n ↔ i ∈ taken ++ left
 root : ∀ (h : 0 < taken.length), g taken[0] = -1
 up : ∀ j (h : j < taken.length), 0 < j → ∃ k, ∃ hk : k < j, g taken[j] = (taken[k] : Int)
theorem TreeI.start {n : Nat} {g : Nat → Int} : TreeI n g [] (List.range n) := ⟨by simpa using List.nodup_range, by simp, fun i => by simp, fun h => absurd h (by simp), fun j h => absurd h (by simp)⟩
theorem erase_perm {α : Type} {l : List α} {k : Nat} (hk : k < l.length) : l.Perm (l[k] :: l.eraseIdx k) := by
 rw [List.eraseIdx_eq_take_drop_succ]
 have h : l = l.take k ++ l[k] :: l.drop (k + 1) := by rw [← List.drop_eq_getElem_cons hk, List.take_append_drop]
 conv => lhs; rw [h]
 exact List.perm_middle
section
variable {n : Nat} {g : Nat → Int} {taken left : List Nat} {k : Nat}
theorem TreeI.perm (hk : k < left.length) : (taken ++ left).Perm ((taken ++ [left[k]]) ++ left.eraseIdx k) := by
 rw [List.append_assoc]
 exact (erase_perm hk).append_left taken
theorem TreeI.fresh (h : TreeI n g taken left) (hk : k < left.length) {j : Nat} (hj : j < taken.length) : taken[j] ≠ left[k] := fun he => by
 have := (List.nodup_append.1 h.nodup).2.2 _ (List.getElem_mem hj) _ (List.getElem_mem hk)
 exact this he
theorem TreeI.lt (h : TreeI n g taken left) (hk : k < left.length) : left[k] < n := (h.all _).2 (List.mem_append_right _ (List.getElem_mem hk))
theorem TreeI.step (h : TreeI n g taken left) (hk : k < left.length) {g' : Nat → Int} (hg : ∀ i, i ≠ left[k] → g' i = g i) (h0 : taken.length = 0 → g' left[k] = -1) (h1 : 0 < taken.length → ∃ q, ∃ hq : q < taken.length, g' left[k] = (taken[q] : Int)) :
   TreeI n g' (taken ++ [left[k]]) (left.eraseIdx k) := by
 have hp := TreeI.perm (taken := taken) hk
 refine ⟨hp.nodup_iff.1 h.nodup, by have := h.len; rw [List.length_append, List.length_eraseIdx_of_lt hk, List.length_singleton]; omega, fun i => (h.all i).trans hp.mem_iff, fun hl => ?_, fun j hj hj0 => ?_⟩
 · by_cases ht : 0 < taken.length
   · rw [List.getElem_append_left ht, hg _ (h.fresh hk ht)]; exact h.root ht
   · rw [List.getElem_append_right (by omega)]
     simp only [List.getElem_singleton]
     exact h0 (by omega)
 · by_cases ht : j < taken.length
   · obtain ⟨q, hq, he⟩ := h.up j ht hj0
     refine ⟨q, hq, ?_⟩
     rw [List.getElem_append_left ht, List.getElem_append_left (by omega), hg _ (h.fresh hk ht)]; exact he
   · have hj2 : j = taken.length := by simp at hj; omega
     subst hj2
     obtain ⟨q, hq, he⟩ := h1 hj0
     refine ⟨q, hq, ?_⟩
     rw [List.getElem_append_right (Nat.le_refl _), List.getElem_append_left hq]
     simp only [List.getElem_singleton]
     exact he
end
theorem reach_le {l : List Int} {i f : Nat} (h : reach l f i = true) : ∀ d, reach l (f + d) i = true
 | 0 => h
 | d + 1 => reach_succ (reach_le h d)
theorem firsts_uniq {l : List Int} {r : Nat} (hr : upN l r = -1) : ∀ {k : Nat}, (∀ i, i < k → upN l i = -1 → i = r) → firstsN l k = if r < k then 1 else 0
 | 0, _ => by simp [firstsN]
 | k + 1, h => by
   unfold firstsN
   rw [firsts_uniq hr (fun i hi => h i (by omega))]
   by_cases hk : upN l k = -1
   · have := h k (by omega) hk
     subst this
     rw [if_pos hk, if_neg (by omega), if_pos (by omega)]; rfl
   · rw [if_neg hk]
     have : r ≠ k := fun e => hk (by rw [← e]; exact hr)
     by_cases hrk : r < k
     · rw [if_pos hrk, if_pos (by omega)]
     · rw [if_neg hrk, if_neg (by omega)]
def listG (g : Nat → Int) (n : Nat) : List Int := (List.range n).map g
theorem TreeI.tree {n : Nat} {g : Nat → Int} {taken : List Nat} (h : TreeI n g taken []) (hn : 0 < n) : IsTree (listG g n) := by
 have hlen : (listG g n).length = n := by simp [listG]
 have hup : ∀ i, i < n → upN (listG g n) i = g i := fun i hi => upN_map hi
 have hall : ∀ i, i < n ↔ i ∈ taken := fun i => by rw [h.all i, List.append_nil]
 have htl : taken.length = n := by have := h.len; simpa using this
 have hlt : ∀ j (hj : j < taken.length), taken[j] < n := fun j hj => (hall _).2 (List.getElem_mem hj)
 refine ⟨fun i hi => ?_, fun i hi => ?_, ?_⟩
 · rw [hlen] at hi ⊢
   rw [hup i hi]
   obtain ⟨j, hj, rfl⟩ := List.getElem_of_mem ((hall i).1 hi)
   by_cases hj0 : j = 0
   · subst hj0; rw [h.root hj]; omega
   · obtain ⟨k, hk, he⟩ := h.up j hj (by omega)
     rw [he]
     have := hlt k (by omega)
     omega
 · rw [hlen] at hi ⊢
   obtain ⟨j, hj, rfl⟩ := List.getElem_of_mem ((hall i).1 hi)
   have key : ∀ j (hj : j < taken.length), reach (listG g n) j taken[j] = true := by
     intro j
     induction j using Nat.strongRecOn with
     | _ j ih =>
       intro hj
       by_cases hj0 : j = 0
       · subst hj0; exact reach_end (by rw [hup _ (hlt 0 hj)]; exact h.root hj)
       · obtain ⟨k, hk, he⟩ := h.up j hj (by omega)
         obtain ⟨j', rfl⟩ : ∃ j', j = j' + 1 := ⟨j - 1, by omega⟩
         rw [reach_step (j := taken[k]) (by rw [hup _ (hlt _ hj)]; exact he)]
         have := reach_le (ih k hk (by omega)) (j' - k)
         rw [show k + (j' - k) = j' by omega] at this
         exact this
   have := reach_le (key j hj) (n - j)
   rw [show j + (n - j) = n by omega] at this
   exact this
 · rw [hlen]
   have h0 : 0 < taken.length := by omega
   rw [firsts_uniq (r := taken[0]) (by rw [hup _ (hlt 0 h0)]; exact h.root h0) fun i hi hu => ?_, if_pos (hlt 0 h0)]
   rw [hup i hi] at hu
   obtain ⟨j, hj, rfl⟩ := List.getElem_of_mem ((hall i).1 hi)
   by_cases hj0 : j = 0
   · subst hj0; rfl
   · obtain ⟨k, hk, he⟩ := h.up j hj (by omega)
     omega
end Go.Proofs.Ytccogmkhijgelaa
namespace Go.Proofs.Ytccogmkhijgelaa
open Go.RowKit
theorem bd_96 : Body Try.prog 96 := Bo (by kernel_rfl)
theorem one_5 : OneT Try.prog 5 := Dl (by kernel_rfl)
theorem sl_50 : SliceT Try.prog 50 5 1 := sliceT_of (by kernel_rfl)
set_option maxRecDepth 100000 in
theorem valid_ok {F : Heap} {vp ve : Value} {ps : List (Value × Edn)} {s : Stm} (hr : StmR F vp ve ps s) : Ok Try.prog 40 [.agg #[vp, ve]].toArray F fun u _ => u = .bool (decide ((checkT s).2.2 = 0)) := by
 refine Ok.intro Try.func40 rfl Try.ntmps40 rfl fun w0 => ?_
 refine Af <| Ai fun ds => Bh rfl (B2 (Aj rfl) rfl fun b1 hb1 nb1 => ?_)
 refine Aa rfl (Ae Ab) ?_
 refine Ah <| Ad <| Af <| Ai fun ds => Aa rfl (A9 B5 (Ak rfl <| Ac) rfl rfl (A5 0 rfl)) ?_
 refine Bw rfl (Ba bd_17 Az (.cons (Ac) .nil) (refCheckT_ok hr) (fun _ _ h => h.trans (show checkTV s = .tuple #[.int .i64 (checkT s).1, .int .i64 (checkT s).2.1, .int .i64 (checkT s).2.2] from rfl))) ?_
 refine Aa rfl (Ag (Ac)) ?_
 refine Aa rfl (Ax (Ac) rfl) ?_
 refine Aa rfl (Ax (Ak rfl <| Ac) rfl) ?_
 refine Aa rfl (Ax (Ar rfl <| Ac) rfl) ?_
 refine Aa rfl (Ae (Ar rfl <| Ac)) ?_
 refine Aa rfl (Ae (Ar rfl <| Ac)) ?_
 refine Aa rfl (Ae (Ar rfl <| Ac)) ?_
 refine Ah <| Ad <| Af <| Ai fun ds => Aa rfl (Ag (Ac)) ?_
 refine Aa rfl (Bx (Ac) Ab) ?_
 refine Aa rfl (Ae (Ac)) ?_
 refine Ah <| Ad <| A3 <| Aw rfl (.tmp (Ac) .nil) ?_
 rfl
set_option maxRecDepth 100000 in
theorem turn_ok {F : Heap} {vx : Value} {xs : List Nat} (hxs : Sl F vx 1 u8E xs) (hxb : ∀ x ∈ xs, x < 256) {n : Nat} {z : Int} (hz : z = (n : Int)) : Ok Try.prog 96 [vx, .int .i64 z].toArray F fun u _ => u = .int .i64 (turnN xs n : Int) := by
 subst hz
 refine Ok.intro Try.func96 rfl Try.ntmps96 rfl fun w0 => ?_
 have hL := hxs.plain.lt
 by_cases h0 : xs.length = 0
 ·
  refine Af <| Ai fun ds => Aa rfl (Ae Ab) ?_
  refine Ah <| Ad <| Af <| Af <| Ai fun ds => Aa rfl (Ag (Ak rfl <| Aj rfl)) ?_
  refine Aa rfl (Bk sl_50 (Ac) hxs.plain) ?_
  refine Aa rfl (Bx (Ac) Ab) ?_
  refine Ah <| Ad <| Aq (Ac) (by first | rfl | exact decide_eq_true (by omega)) ?_
  refine Af <| Ai fun ds => Aa rfl (Ae Ab) ?_
  refine Ah <| Ad <| A3 <| A8 ?_
  refine Aw rfl (.tmp (Ac) .nil) ?_
  show _ = _
  have : xs = [] := List.eq_nil_of_length_eq_zero h0
  subst this
  rw [turnN_nil]; rfl
 ·
  refine Af <| Ai fun ds => Aa rfl (Ae Ab) ?_
  refine Ah <| Ad <| Af <| Af <| Ai fun ds => Aa rfl (Ag (Ak rfl <| Aj rfl)) ?_
  refine Aa rfl (Bk sl_50 (Ac) hxs.plain) ?_
  refine Aa rfl (Bx (Ac) Ab) ?_
  refine Ah <| Ad <| Ao (Ac) (by first | rfl | exact decide_eq_false (by omega)) ?_
  have hlt : n % xs.length < xs.length := Nat.mod_lt _ (by omega)
  have hb := hxb _ (List.getElem_mem hlt)
  refine Ay <| Ad <| Af <| Ai fun ds => Aa rfl (Ag (A2 rfl <| Aj rfl)) ?_
  refine Aa rfl (Ag (A2 rfl <| Ak rfl <| Aj rfl)) ?_
  refine Aa rfl (Ag (A2 rfl <| Ar rfl <| Aj rfl)) ?_
  refine Aa rfl (Bk sl_50 (Ac) hxs.plain) ?_
  refine Aa rfl (q_rem (Ar rfl <| Ac) (Ac) (Int.natCast_nonneg _) (by omega)) ?_
  refine Aa rfl (Be (k := n % xs.length) sl_50 (A2 rfl <| Ac) hxs.plain (Ac) (by omega) hlt) ?_
  refine Aa rfl (Ap one_5 (Ac) (hxs.cell1 hlt rfl)) ?_
  refine Aa rfl (q_convert ⟨_, Try.underlying5⟩ Try.underlying3 (Ac) (IntWalk.i64_in _ ⟨by omega, by omega⟩)) ?_
  refine Aa rfl (Ae (Ac)) ?_
  refine Ah <| Ad <| A3 <| Aw rfl (.tmp (Ac) .nil) ?_
  show _ = _
  rw [turnN_at hlt]; rfl
theorem iL_zero {n : Nat} : List.replicate n (Value.int .i64 0) = (iL (fun _ => 0) n).flatMap intE := by
 induction n with
 | zero => rfl
 | succ n ih => rw [List.replicate_succ', iL_succ, List.flatMap_append, ih]; rfl
theorem nat_get {xs : List Nat} {i : Nat} (h : i < xs.length) : (xs.flatMap natE)[i * 1]? = some (.int .i64 (xs[i] : Int)) := flat_at (enc := natE) (s := 1) (fun _ => rfl) (j := 0) xs i h rfl
theorem set_one {g : Nat → Int} {i : Nat} {v w : Int} : updI (updI g i v) i w = updI g i w := by funext j; unfold updI; split <;> rfl
theorem row_addr {b n c : Nat} : addc (base (.slice (some ⟨b, 0, none⟩) n n)) (c * 1) = ⟨b, c * 1, none⟩ := by simp [base, addc]
theorem updI_ne {g : Nat → Int} {i : Nat} {v : Int} : ∀ j, j ≠ i → updI g i v j = g j := fun j h => by unfold updI; rw [if_neg h]
theorem updI_eq {g : Nat → Int} {i : Nat} {v : Int} : updI g i v i = v := by unfold updI; rw [if_pos rfl]
set_option maxRecDepth 100000 in
theorem tree_ok7 {F : Heap} {vx : Value} {xs : List Nat} (hxs : Sl F vx 1 u8E xs) (hxb : ∀ x ∈ xs, x < 256) {many : Nat} (hm0 : 0 < many) (hm5 : many ≤ 5) : Ok Try.prog 41 [.int .i64 (many : Int), vx].toArray F fun u F' => ∃ l, Ints F' u l ∧ l.length = many ∧ IsTree l := by
 have hle0 : F.le F := Heap.le_refl _
 refine Ok.intro Try.func41 rfl Try.ntmps41 rfl fun w0 => ?_
 have hxl := hxs.plain.lt
 refine Af <| Ai fun ds => Aa rfl (Ae Ab) ?_
 refine Ah <| Ad <| Af <| Ai fun ds => Aa rfl (Ag (Ak rfl <| Aj rfl)) ?_
 refine Bh rfl (x_make (k := many) Bi el_3 rfl rfl (Ac) (Ac) rfl (by omega) (by omega) fun b1 hb1 nb1 => ?_)
 refine Aa rfl (Ae (Ac)) ?_
 refine Ah <| Ad <| Af <| Ai fun ds => Aa rfl (Ae Ab) ?_
 refine Aa rfl (Ae Ab) ?_
 refine Ah <| Ad <| Af <| Af <| Ai fun ds => Aa rfl (Ae Ab) ?_
 refine Ah <| Ad <| A0 <| Bu [6, 8, 13, 14, 15, 16, 17, 18, 19, 20, 21] (fun m e σ => ∃ k : Nat, m + k = many ∧ e 8 = .int .i64 (k : Int) ∧ ∃ v6 R6, e 6 = v6 ∧ Own 3 1 v6 (List.range k).length ((List.range k).flatMap natE) R6 ∧ σ = ⟨F, (b1, bx 3 ((iL (fun _ => 0) many).flatMap intE)) :: R6⟩) (many) ?_ ?_
 · exact ⟨0, by omega, (Ac), _, _, (Ar rfl <| Ac), Own.nil, by rw [iL_zero]⟩
 ·
  rintro m e _ ⟨k, hm9, hs8, v6, R6, hs6, ho, rfl⟩; have hrl : (List.range k).length = k := List.length_range
  by_cases hlt : k < many
  ·
   refine Af <| Af <| Ai fun ds => Aa rfl (Ag (At rfl hs8)) ?_
   refine Aa rfl (Ag (Ak rfl <| Al rfl <| A2 rfl <| Ar rfl <| Ak rfl <| Aj rfl)) ?_
   refine Aa rfl (Bs (Ak rfl <| Ac) (Ac)) ?_
   refine Ah <| Ad <| Aq (Ac) (by first | rfl | exact decide_eq_true (by omega)) ?_
   refine Ay <| Ad <| Af <| A0 <| Ai fun ds => Aa rfl (Ag (Ar rfl <| Ak rfl <| At rfl hs6)) ?_
   refine Aa rfl (Ag (A2 rfl <| At rfl hs8)) ?_
   refine Bh rfl (B6 Bi C8 rfl (.cons (Ac) .nil) rfl rfl (by decide) (by simp [Value.oneCell']) fun b3 hb3 nb3 => ?_)
   refine Bh rfl (Cq Bi el_3 (Ar rfl <| Ac) ho (Ac) (Dk (s := 1) 0 rfl rfl (by simp [Value.oneCell'])) (by omega) (by omega) (.s <| .s <| .z) .last fun v4 R5 ho6 => ?_)
   have ho2 := ho6.snoc (x := k) rfl rfl
   refine Aa rfl (Ae (Ac)) ?_
   refine Ah <| Bc <| Ad <| Dg (fun _ _ h => h.drop (.cons _ <| .cons_cons _ <| .refl _)) ?_
   refine Ai fun ds => Aa rfl (Ag (A7 rfl <| At rfl hs8)) ?_
   refine Aa rfl (Bv (Ac) Ab rfl (by omega) (by omega)) ?_
   refine Aa rfl (Ae (Ac)) ?_
   refine Ah <| Ad ⟨_, m - 1, Off.eq (Dy rfl <| ou2 rfl <| D7 rfl <| Bf), by omega, ?_⟩
   exact ⟨k + 1, by omega, (Ac), _, _, (Ar rfl <| Ak rfl <| Ac), by rw [List.range_succ]; exact ho2, rfl⟩
  ·
   refine Af <| Af <| Ai fun ds => Aa rfl (Ag (At rfl hs8)) ?_
   refine Aa rfl (Ag (Ak rfl <| Al rfl <| A2 rfl <| Ar rfl <| Ak rfl <| Aj rfl)) ?_
   refine Aa rfl (Bs (Ak rfl <| Ac) (Ac)) ?_
   refine Ah <| Ad <| Ao (Ac) (by first | rfl | exact decide_eq_false (by omega)) ?_
   obtain rfl : many = k := by omega
   refine Cw (σ := ⟨_, _⟩) (by rfl) ho (.s <| .z) .last fun F7 hF8 hz9 => ?_
   replace hxs := hxs.mono hF8
   replace hle0 := Heap.le_trans hle0 hF8
   have hlf := ho.sl (fun _ => rfl) hz9 (by omega)
   refine Bq ?_
   refine Bd <| Bd <| Bj <| Ad <| Af <| A0 <| Bu [6, 7, 9, 10, 22, 23, 24, 25, 26, 27, 28, 29, 30, 31, 32, 33, 34, 35, 36, 37, 38, 39, 40, 41, 42, 43, 44, 45, 46, 47, 48, 49, 50, 51, 52, 53, 54, 55, 56, 57, 58, 59, 60, 61, 62, 63, 64, 65, 66, 67, 68, 69, 70, 71] (fun m e σ => ∃ G, F7.le G ∧ ∃ (g : Nat → Int) (taken left : List Nat) (v6 v7 : Value) (R7 : List (Nat × Obj)), m = left.length ∧ e 6 = v6 ∧ e 7 = v7 ∧ Nats G v6 left ∧ Own 3 1 v7 taken.length (taken.flatMap natE) R7 ∧ TreeI many g taken left ∧ σ = ⟨G, (b1, bx 3 ((iL g many).flatMap intE)) :: R7⟩) (many) ?_ ?_
   · exact ⟨_, Heap.le_refl _, fun _ => 0, [], _, _, _, _, List.length_range.symm, (Ar rfl <| Ak rfl <| At rfl hs6), (Ar rfl <| Ak rfl <| Al rfl <| Ak rfl <| Ac), hlf, Ec, TreeI.start, rfl⟩
   ·
    rintro m2 e2 _ ⟨G, hFG, g, taken, left, v6, v7, R7, rfl, ht6, ht7, hlf, ho, hI, rfl⟩; replace hxs := hxs.mono hFG; replace hle0 := Heap.le_trans hle0 hFG; have hlf9 := hlf.plain.lt; have hlen0 := hI.len
    by_cases hl0 : left.length = 0
    ·
     refine Af <| Af <| Ai fun ds => Aa rfl (Ag (At rfl ht6)) ?_
     refine Aa rfl (Bk Bi (Ac) hlf.plain) ?_
     refine Aa rfl (C7 (Ac) Ab) ?_
     refine Ah <| Ad <| Ao (Ac) (decide_eq_false (by omega)) ?_
     have hle := List.eq_nil_of_length_eq_zero hl0
     subst hle
     refine Bq ?_
     refine Bd <| Bd <| Bj <| Ad <| Af <| Cb (i := 0) rfl hb1 (.here) fun F11 hF12 hz5 => ?_
     refine Ai fun ds => Aa rfl (Ag (Ar rfl <| Ak rfl <| Al rfl <| Ar rfl <| Ak rfl <| Al rfl <| Ar rfl <| Ak rfl <| Ac)) ?_
     refine Aa rfl (Ae (Ac)) ?_
     refine Ah <| Ad <| A3 <| Aw rfl (.tmp (Ac) .nil) ?_
     refine ⟨iL g many, sl_box hz5 rfl C0 (fun _ => rfl) (by omega), C0, ?_⟩
     exact hI.tree hm0
    ·
     refine Af <| Af <| Ai fun ds => Aa rfl (Ag (At rfl ht6)) ?_
     refine Aa rfl (Bk Bi (Ac) hlf.plain) ?_
     refine Aa rfl (C7 (Ac) Ab) ?_
     refine Ah <| Ad <| Aq (Ac) (decide_eq_true (by omega)) ?_
     have hkk : (turnN xs taken.length % left.length) < left.length := Nat.mod_lt _ (by omega)
     have hil := hI.lt hkk
     have hlen := hI.len
     have ht1 : turnN xs taken.length < 256 := turnN_lt hxb
     have ht2 : turnN xs (many + taken.length) < 256 := turnN_lt hxb
     refine Ay <| Ad <| A0 <| Af <| Ai fun ds => Aa rfl (Ag (Ar rfl <| Ak rfl <| Al rfl <| Ar rfl <| Ak rfl <| Al rfl <| A2 rfl <| Ar rfl <| Ak rfl <| Aj rfl)) ?_
     refine Aa rfl (Ag (A2 rfl <| At rfl ht7)) ?_
     refine Aa rfl (Bk Bi (Ac) (ho.plain (by omega))) ?_
     refine Bw rfl (Ba bd_96 Az (.cons (Ar rfl <| Ac) (.cons (Ac) .nil)) (turn_ok hxs hxb rfl) (fun _ _ h => h)) ?_
     refine Aa rfl (Ag (A2 rfl <| Ar rfl <| Ak rfl <| At rfl ht6)) ?_
     refine Aa rfl (Bk Bi (Ac) hlf.plain) ?_
     refine Aa rfl (q_rem (Ar rfl <| Ac) (Ac) (Int.natCast_nonneg _) (by omega)) ?_
     refine Aa rfl (Ae (Ac)) ?_
     refine Ah <| Ad <| Af <| Ai fun ds => Aa rfl (Ag (A7 rfl <| Ar rfl <| Ak rfl <| At rfl ht6)) ?_
     refine Aa rfl (Ag (Ak rfl <| Ac)) ?_
     refine Aa rfl (Be (k := (turnN xs taken.length % left.length)) Bi (Ak rfl <| Ac) hlf.plain (Ac) (by omega) hkk) ?_
     refine Aa rfl (Ap Bm (Ac) (hlf.cell1 hkk rfl)) ?_
     refine Aa rfl (Ae (Ac)) ?_
     refine Ah <| Ad <| Af ?_
     have hleS := hle0
     refine Cy (.inl rfl) (fun _ _ h => h) (.cons_cons _ <| .refl _) [] (by kernel_rfl) fun ds => ?_
     refine A6 1 rfl (by kernel_rfl) (by kernel_rfl) (by kernel_rfl) (by kernel_rfl) rfl rfl (fun _ h => h.drop (.cons_cons _ <| .refl _)) (fun _ _ _ h => h) (Ag (A4 rfl <| At rfl ht6)) ?_
     refine A6 2 rfl (by kernel_rfl) (by kernel_rfl) (by kernel_rfl) (by kernel_rfl) rfl rfl (fun _ h => h.drop (.cons_cons _ <| .refl _)) (fun _ _ _ h => h) (Ag (A2 rfl <| Ar rfl <| Ac)) ?_
     refine A6 3 rfl (by kernel_rfl) (by kernel_rfl) (by kernel_rfl) (by kernel_rfl) rfl rfl (fun _ h => h.drop (.cons_cons _ <| .refl _)) (fun _ _ _ h => h) (q_sliceTo Bi (Ak rfl <| Ac) hlf.plain (Ac) (k := (turnN xs taken.length % left.length)) (by omega) (by omega)) ?_
     refine A6 5 rfl (by kernel_rfl) (by kernel_rfl) (by kernel_rfl) (by kernel_rfl) rfl rfl (fun _ h => h.drop (.cons_cons _ <| .refl _)) (fun _ _ _ h => h) (Ag (A4 rfl <| Ar rfl <| Ak rfl <| At rfl ht6)) ?_
     refine A6 6 rfl (by kernel_rfl) (by kernel_rfl) (by kernel_rfl) (by kernel_rfl) rfl rfl (fun _ h => h.drop (.cons_cons _ <| .refl _)) (fun _ _ _ h => h) (Ag (A7 rfl <| Ak rfl <| Ac)) ?_
     refine A6 7 rfl (by kernel_rfl) (by kernel_rfl) (by kernel_rfl) (by kernel_rfl) rfl rfl (fun _ h => h.drop (.cons_cons _ <| .refl _)) (fun _ _ _ h => h) (Bv (Ac) Ab rfl (by omega) (by omega)) ?_
     refine A6 8 rfl (by kernel_rfl) (by kernel_rfl) (by kernel_rfl) (by kernel_rfl) rfl rfl (fun _ h => h.drop (.cons_cons _ <| .refl _)) (fun _ _ _ h => h) (q_sliceFrom Bi (Ar rfl <| Ac) hlf.plain (Ac) (k := (turnN xs taken.length % left.length) + 1) (by omega) (by omega)) ?_
     refine WX_x 0 rfl (by kernel_rfl) rfl (x_build0 Bi fun b13 hb13 nb13 => ⟨fun _ _ => (fun _ h => h.drop (.cons _ <| .cons_cons _ <| .refl _)), ?_⟩)
     refine WX_x 4 rfl (by kernel_rfl) rfl (Cq Bi el_3 (Ac) (own_box rfl) (A2 rfl <| Ak rfl <| Ac) ((hlf.to (k := (turnN xs taken.length % left.length)) (by omega)).src (fun _ => rfl) natE_one) (by rw [List.length_take]; omega) (by rw [List.length_take]; omega) (.z) .box fun v14 R15 ho16 => ⟨fun _ _ => (fun _ h => h.drop (List.sublist_append_of_sublist_right <| .cons_cons _ <| .refl _)), ?_⟩)
     refine WX_x 9 rfl (by kernel_rfl) rfl (Cq Bi el_3 (Ac) ho16 (Ar rfl <| Ac) ((hlf.from (k := (turnN xs taken.length % left.length) + 1) (by omega)).src (fun _ => rfl) natE_one) (by rw [List.length_take, List.length_drop]; omega) (by rw [List.length_take, List.length_drop]; omega) (.z) .more fun v17 R18 ho19 => ⟨fun _ _ => (fun _ h => h.drop (List.sublist_append_of_sublist_right <| .cons_cons _ <| .refl _)), ?_⟩)
     have ho45 : Own 3 1 v17 (left.eraseIdx (turnN xs taken.length % left.length)).length ((left.eraseIdx (turnN xs taken.length % left.length)).flatMap natE) R18 := by rw [List.eraseIdx_eq_take_drop_succ]; simpa using ho19
     refine A6 10 rfl (by kernel_rfl) (by kernel_rfl) (by kernel_rfl) (by kernel_rfl) rfl rfl (fun _ h => h.drop (List.sublist_append_of_sublist_right <| .cons_cons _ <| .refl _)) (fun _ _ _ h => h) (Ae (Ac)) ?_
     refine C3 (by kernel_rfl) ?_ _
     refine Ad <| Af <| Cw (σ := ⟨_, _⟩) (by rfl) ho45 (.z) .more fun F20 hF21 hz22 => ?_
     replace hxs := hxs.mono hF21
     replace hFG := Heap.le_trans hFG hF21
     refine WC_pickB (.one (.skip <| .here) <| .lastb (.lastS)) ?_
     have hlf2 := ho45.sl (fun _ => rfl) hz22 (by rw [List.length_eraseIdx_of_lt hkk]; omega)
     refine Ai fun ds => Aa rfl (Ag (A4 rfl <| A7 rfl <| Ar rfl <| Ak rfl <| Al rfl <| Ar rfl <| Ak rfl <| Al rfl <| Ar rfl <| Ak rfl <| Ac)) ?_
     refine Aa rfl (Ag (A7 rfl <| A2 rfl <| Ac)) ?_
     refine Aa rfl (Be (k := left[(turnN xs taken.length % left.length)]) Bi (Ak rfl <| Ac) (plain_row (Nat.le_refl _) (by omega)) (Ac) rfl hil) ?_
     refine Ch (x_storeK sz_3 (Ac) row_addr Ab (i := 0) rfl (by rw [iL_len1]; omega) rfl (.here) ?_)
     refine Ah <| Ad <| Af <| Af ?_
     rw [iL_set hil]
     by_cases ht0 : taken.length = 0
     ·
      refine Ai fun ds => Aa rfl (Ag (A4 rfl <| A7 rfl <| A2 rfl <| Ar rfl <| At rfl ht7)) ?_
      refine Aa rfl (Bk Bi (Ac) (ho.plain (by omega))) ?_
      refine Aa rfl (C7 (Ac) Ab) ?_
      refine Ah <| Ad <| Ao (Ac) (decide_eq_false (by omega)) ?_
      refine Ay <| Ad <| Ai fun ds => Aa rfl (Ag (Bn rfl <| Ak rfl <| At rfl ht7)) ?_
      refine Aa rfl (Ag (A4 rfl <| Ar rfl <| Ac)) ?_
      refine Bh rfl (B6 Bi C8 rfl (.cons (Ac) .nil) rfl rfl (by decide) (by simp [Value.oneCell']) fun b23 hb23 nb23 => ?_)
      refine Bh rfl (Cq Bi el_3 (Ar rfl <| Ac) ho (Ac) (Dk (s := 1) 0 rfl rfl (by simp [Value.oneCell'])) (by omega) (by omega) (.s <| .s <| .z) .last fun v24 R25 ho26 => ?_)
      have ho9 := ho26.snoc (x := left[(turnN xs taken.length % left.length)]) rfl rfl
      refine WL_orderB (.one (.next <| .here) <| .lastb (.next <| .last)) ?_
      refine Aa rfl (Ae (Ac)) ?_
      refine Ah <| Bc ?_
      refine Ad ⟨_, (left.eraseIdx (turnN xs taken.length % left.length)).length, Off.eq (ou32 rfl <| ou4 rfl <| ou2 rfl <| Bf), (by rw [List.length_eraseIdx_of_lt hkk]; omega), ?_⟩
      refine ⟨_, hFG, updI g left[(turnN xs taken.length % left.length)] (-1), _, _, _, _, _, rfl, (A7 rfl <| Ar rfl <| Ak rfl <| Ac), (Ac), hlf2, ho9, hI.step hkk updI_ne (fun h => updI_eq) (fun h => absurd h (by omega)), rfl⟩
     ·
      have hqq : (turnN xs (many + taken.length) / 2 % taken.length) < taken.length := Nat.mod_lt _ (by omega)
      refine Ai fun ds => Aa rfl (Ag (A4 rfl <| A7 rfl <| A2 rfl <| Ar rfl <| At rfl ht7)) ?_
      refine Aa rfl (Bk Bi (Ac) (ho.plain (by omega))) ?_
      refine Aa rfl (C7 (Ac) Ab) ?_
      refine Ah <| Ad <| Aq (Ac) (decide_eq_true (by omega)) ?_
      refine Ai fun ds => Aa rfl (Ag (Bn rfl <| Ak rfl <| Al rfl <| Ar rfl <| Ak rfl <| Al rfl <| Ar rfl <| Ak rfl <| Ac)) ?_
      refine Aa rfl (Ag (A4 rfl <| Ar rfl <| Ac)) ?_
      refine Aa rfl (Ag (Bn rfl <| Ar rfl <| Ak rfl <| At rfl ht7)) ?_
      refine Aa rfl (Ag (Bn rfl <| A2 rfl <| Al rfl <| Ar rfl <| Ak rfl <| Al rfl <| A2 rfl <| Ar rfl <| Ak rfl <| Aj rfl)) ?_
      refine Aa rfl (Ag (Bn rfl <| A2 rfl <| Ak rfl <| Al rfl <| Ar rfl <| Ak rfl <| Al rfl <| A2 rfl <| Ar rfl <| Ak rfl <| Aj rfl)) ?_
      refine Aa rfl (Ag (Bn rfl <| A2 rfl <| Ar rfl <| At rfl ht7)) ?_
      refine Aa rfl (Bk Bi (Ac) (ho.plain (by omega))) ?_
      refine Aa rfl (Bv (Ar rfl <| Ac) (Ac) rfl (by omega) (by omega)) ?_
      refine Bw rfl (Ba bd_96 Az (.cons (A2 rfl <| Ac) (.cons (Ac) .nil)) (turn_ok hxs hxb (n := many + taken.length) (by push_cast; rfl)) (fun _ _ h => h)) ?_
      refine Aa rfl (q_quo (Ac) Ab (Int.natCast_nonneg _) (by omega) (by decide)) ?_
      refine Aa rfl (Ag (Bn rfl <| A7 rfl <| Ar rfl <| Ak rfl <| At rfl ht7)) ?_
      refine Aa rfl (Bk Bi (Ac) (ho.plain (by omega))) ?_
      refine Aa rfl (q_rem (Ar rfl <| Ac) (Ac) (by omega) (by omega)) ?_
      refine Aa rfl (Be (k := (turnN xs (many + taken.length) / 2 % taken.length)) Bi (A7 rfl <| Ar rfl <| Ac) (ho.plain (by omega)) (Ac) (by push_cast; rfl) hqq) ?_
      refine Aa rfl (Ap Bm (Ac) (own_cell ho (fun p hp => .tail _ (hp)) (nat_get hqq))) ?_
      refine Aa rfl (Be (k := left[(turnN xs taken.length % left.length)]) Bi (A7 rfl <| A2 rfl <| Ar rfl <| Ac) (plain_row (Nat.le_refl _) (by omega)) (A7 rfl <| A2 rfl <| Ak rfl <| Ac) rfl hil) ?_
      refine Ch (x_storeK sz_3 (Ac) row_addr (Ak rfl <| Ac) (i := 0) rfl (by rw [iL_len1]; omega) rfl (.here) ?_)
      refine Ah <| Ad ?_
      rw [iL_set hil, set_one]
      refine Ai fun ds => Aa rfl (Ag (Bn rfl <| A4 rfl <| Ak rfl <| At rfl ht7)) ?_
      refine Aa rfl (Ag (Bn rfl <| Ar rfl <| Ac)) ?_
      refine Bh rfl (B6 Bi C8 rfl (.cons (Ac) .nil) rfl rfl (by decide) (by simp [Value.oneCell']) fun b27 hb27 nb27 => ?_)
      refine Bh rfl (Cq Bi el_3 (Ar rfl <| Ac) ho (Ac) (Dk (s := 1) 0 rfl rfl (by simp [Value.oneCell'])) (by omega) (by omega) (.s <| .s <| .z) .last fun v28 R29 ho30 => ?_)
      have ho9 := ho30.snoc (x := left[(turnN xs taken.length % left.length)]) rfl rfl
      refine WL_orderB (.one (.next <| .here) <| .lastb (.next <| .last)) ?_
      refine Aa rfl (Ae (Ac)) ?_
      refine Ah <| Bc ?_
      refine Ad ⟨_, (left.eraseIdx (turnN xs taken.length % left.length)).length, Off.eq (ou32 rfl <| C9 rfl <| ou4 rfl <| ou2 rfl <| Bf), (by rw [List.length_eraseIdx_of_lt hkk]; omega), ?_⟩
      refine ⟨_, hFG, updI g left[(turnN xs taken.length % left.length)] (taken[(turnN xs (many + taken.length) / 2 % taken.length)] : Int), _, _, _, _, _, rfl, (A4 rfl <| A7 rfl <| Ar rfl <| Ak rfl <| Ac), (Ac), hlf2, ho9, hI.step hkk updI_ne (fun h => absurd h ht0) (fun h => ⟨_, hqq, updI_eq⟩), rfl⟩
end Go.Proofs.Ytccogmkhijgelaa
namespace Go.Proofs.Ytccogmkhijgelaa
theorem tree_err0 {s : Stm} {l : List Int} (h0 : (checkT s).2.2 = 0) (hl : l.length = s.editions.length) (ht : IsTree l) : treeErr s l = 0 := by
 have h1 : trTo s l l.length = 0 := by
   unfold trTo
   rw [gTo_ok (treeZ_ok h0 hl), List.take_length, if_neg]
   intro h
   rw [List.any_eq_true] at h
   obtain ⟨x, hx, hb⟩ := h
   obtain ⟨i, hi, rfl⟩ := List.getElem_of_mem hx
   have := ht.in_ i hi
   rw [up_at hi] at hb
   simp [inT, inB] at hb
   omega
 rw [treeErr_in h1, ht.isT]; rfl
theorem cost_nofit {s : Stm} {l : List Int} (h : fitsT s l = false) : costL s l = 1000 := by unfold costL; unfold fitsT at h; rw [h]; rfl
theorem fit_of_cost {s : Stm} {l : List Int} (h : costL s l < 1000) : fitsT s l = true := by
 cases hf : fitsT s l with
 | true => rfl
 | false => rw [cost_nofit hf] at h; omega
section
variable {s : Stm} {l : List Int}
end
end Go.Proofs.Ytccogmkhijgelaa
namespace Go.Proofs.Ytccogmkhijgelaa
open Go.RowKit
theorem bd_40 : Body Try.prog 40 := Bo (by kernel_rfl)
theorem bd_41 : Body Try.prog 41 := Bo (by kernel_rfl)
end Go.Proofs.Ytccogmkhijgelaa
namespace Go.Proofs.Ytccogmkhijgelaa
def EarR (F : Heap) (u : Go.Value) (s : Stm) (E : Edges) : Prop := fitsE s E = true ∧ Ints F u (iL (firstY s E) s.editions.length) ∨ fitsE s E = false ∧ u = .slice none 0 0
theorem EarR.mono {F F' : Heap} {u : Go.Value} {s : Stm} {E : Edges} (h : EarR F u s E) (hF : F.le F') : EarR F' u s E := h.elim (fun h => .inl ⟨h.1, h.2.mono hF⟩) .inr
theorem EarR.nil {F : Heap} {u : Go.Value} {s : Stm} {E : Edges} (h : EarR F u s E) (hn : 0 < s.editions.length) : ∃ a k c, u = .slice a k c ∧ (decide (a = none)) = !(fitsE s E) := by
 rcases h with ⟨h1, h2⟩ | ⟨h1, rfl⟩
 · obtain ⟨a, c, rfl, -, g2, -, -⟩ := h2.plain
   refine ⟨a, _, c, rfl, ?_⟩
   rw [h1]
   refine decide_eq_false fun h => ?_
   have := (g2 h).1
   rw [C0] at this
   omega
 · exact ⟨none, 0, 0, rfl, by rw [h1]; rfl⟩
section
variable {s : Stm} {l : List Int} {M : Edges} {r i q : Nat} {cur : Nat → Int}
end
end Go.Proofs.Ytccogmkhijgelaa
namespace Go.Proofs.Ytccogmkhijgelaa
section
variable {s : Stm} {l : List Int} {x p : Nat}
end
def befI : List Int → List Int → Bool
 | _, [] => false
 | [], _ :: _ => true
 | a :: xs, b :: ys => decide (a < b) || (decide (a = b) && befI xs ys)
theorem bef_drop : ∀ (k : Nat) {xs ys : List Int}, k ≤ xs.length → k ≤ ys.length → xs.take k = ys.take k → befI xs ys = befI (xs.drop k) (ys.drop k)
 | 0, _, _, _, _, _ => rfl
 | k + 1, [], _, h, _, _ => by simp at h
 | k + 1, _ :: _, [], _, h, _ => by simp at h
 | k + 1, x :: xs, y :: ys, h1, h2, h => by
   simp only [List.take_succ_cons, List.cons.injEq] at h
   obtain ⟨rfl, h⟩ := h
   have := bef_drop k (xs := xs) (ys := ys) (by simpa using h1) (by simpa using h2) h
   rw [List.drop_succ_cons, List.drop_succ_cons, ← this]
   simp [befI]
theorem bef_at {k : Nat} {xs ys : List Int} (h1 : k < xs.length) (h2 : k < ys.length) (h : xs.take k = ys.take k) (hne : xs[k] ≠ ys[k]) : befI xs ys = decide (xs[k] < ys[k]) := by
 rw [bef_drop k (by omega) (by omega) h, List.drop_eq_getElem_cons h1, List.drop_eq_getElem_cons h2]
 simp [befI, hne]
theorem bef_end1 {k : Nat} {xs ys : List Int} (h1 : k ≤ xs.length) (h2 : ys.length = k) (h : xs.take k = ys.take k) : befI xs ys = false := by
 rw [bef_drop k h1 (by omega) h, show ys.drop k = [] from List.drop_of_length_le (by omega)]
 cases xs.drop k <;> rfl
theorem bef_end0 {xs ys : List Int} (h1 : xs.length ≤ ys.length) (h : xs.take xs.length = ys.take xs.length) : befI xs ys = decide (xs.length < ys.length) := by
 rw [bef_drop xs.length (by omega) h1 h, List.drop_of_length_le (Nat.le_refl _)]
 by_cases h2 : xs.length < ys.length
 · rw [List.drop_eq_getElem_cons h2, decide_eq_true h2]; rfl
 · rw [List.drop_of_length_le (by omega), decide_eq_false h2]; rfl
theorem bef_self : ∀ xs : List Int, befI xs xs = false
 | [] => rfl
 | a :: xs => by simp [befI, bef_self xs]
theorem bef_asym : ∀ {xs ys : List Int}, befI xs ys = true → befI ys xs = false
 | _, [], h => by simp [befI] at h
 | [], _ :: _, _ => rfl
 | a :: xs, b :: ys, h => by
   simp only [befI, Bool.or_eq_true, Bool.and_eq_true, decide_eq_true_eq] at h
   simp only [befI]
   rcases h with h | ⟨rfl, h⟩
   · rw [decide_eq_false (show ¬ b < a by omega), decide_eq_false (show ¬ b = a by omega)]; rfl
   · rw [bef_asym h]; simp
theorem bef_prefix {b : List Int} {v v' : Int} {t t' : List Int} (h : v < v') : befI (b ++ [v] ++ t) (b ++ [v'] ++ t') = true := by
 induction b with
 | nil => simp [befI, h]
 | cons a b ih =>
   simp only [List.cons_append, befI, ih]
   simp
/-- Trees come in order. -/
theorem trees_sorted {n : Nat} : ∀ {d : Nat} {b : List Int}, (treesF n d b).Pairwise fun x y => befI x y = true
 | 0, b => by unfold treesF; split <;> simp
 | d + 1, b => by
   unfold treesF
   rw [List.pairwise_flatMap]
   refine ⟨fun j _ => trees_sorted, ?_⟩
   refine List.pairwise_lt_range.imp ?_
   intro i j hij x hx y hy
   obtain ⟨t, rfl, -, -, -⟩ := trees_mem.1 hx
   obtain ⟨t', rfl, -, -, -⟩ := trees_mem.1 hy
   exact bef_prefix (by omega)
theorem bests_sorted {s : Stm} : (bestsL s).Pairwise fun x y => befI x y = true := by
 have h1 : (allTrees s).Pairwise fun x y => befI x y = true := trees_sorted.filter _
 unfold bestsL
 rw [best_is]
 exact h1.filter _
/-- None of the best ones is before the first. -/
theorem best_first {s : Stm} {l : List Int} (h : l ∈ bestsL s) (h0 : 0 < (bestsL s).length) : befI l (bestsL s)[0] = false := by
 obtain ⟨i, hi, rfl⟩ := List.getElem_of_mem h
 by_cases hi0 : i = 0
 · subst hi0; exact bef_self _
 · exact bef_asym ((List.pairwise_iff_getElem.1 bests_sorted) 0 i h0 hi (by omega))
theorem best_least {s : Stm} {l : List Int} (hl : l.length = s.editions.length) (ht : IsTree l) (hc : costL s l < 1000) : bestsM s ≤ costL s l ∧ bestsL s ≠ [] ∧ (costL s l = bestsM s → l ∈ bestsL s) := by
 have h1 : l ∈ allTrees s := Eg.2 ⟨hl, ht, fit_of_cost hc⟩
 have h2 := bestsM_le h1
 refine ⟨h2, fun h => ?_, fun h => bestsL_mem.2 ⟨h1, h, hc⟩⟩
 have := bestsL_nil.1 h
 omega
end Go.Proofs.Ytccogmkhijgelaa
namespace Go.Proofs.Ytccogmkhijgelaa
open Go.RowKit
theorem bd_42 : Body Try.prog 42 := Bo (by kernel_rfl)
set_option maxRecDepth 100000 in
theorem refBeforeI_ok {F : Heap} {v u : Value} {xs ys : List Int} (hx : Ints F v xs) (hy : Ints F u ys) : Ok Try.prog 42 [v, u].toArray F fun r _ => r = .bool (befI xs ys) := by
 refine Ok.intro Try.func42 rfl Try.ntmps42 rfl fun w0 => ?_
 have hlen := hx.plain.lt
 have hlen2 := hy.plain.lt
 refine Af <| Ai fun ds => Aa rfl (Ae Ab) ?_
 refine Ah <| Ad <| Af <| Af <| Ai fun ds => Aa rfl (Ae Ab) ?_
 refine Ah <| Ad <| A0 <| Bu [4, 5, 6, 7, 8, 9, 10, 11, 12, 13, 14, 15, 16, 17, 18, 19, 20, 21, 22, 23, 24, 25, 26, 27, 28, 29, 30, 31, 32, 33, 34, 35] (fun m e σ => ∃ k : Nat, m + k = xs.length ∧ k ≤ ys.length ∧ e 5 = .int .i64 (k : Int) ∧ σ = ⟨F, []⟩ ∧ xs.take k = ys.take k) (xs.length) ?_ ?_
 · exact ⟨0, by omega, by omega, (Ac), rfl, rfl⟩
 ·
  rintro m e _ ⟨k, hm, hk, hs5, rfl, htk⟩
  by_cases hlt : k < xs.length
  ·
   refine Af <| Af <| Ai fun ds => Aa rfl (Ag (At rfl hs5)) ?_
   refine Aa rfl (Ag (Ak rfl <| Al rfl <| Ar rfl <| Aj rfl)) ?_
   refine Aa rfl (Bk Bi (Ac) hx.plain) ?_
   refine Aa rfl (Bs (Ar rfl <| Ac) (Ac)) ?_
   refine Aa rfl (Ag (Ac)) ?_
   refine As rfl rfl (Ac) (by first | rfl | exact decide_eq_true (by omega)) ?_
   refine Aa rfl (Ag (A2 rfl <| Ak rfl <| At rfl hs5)) ?_
   refine As rfl rfl (Ak rfl <| Ac) (by first | rfl | exact decide_eq_true (by omega)) ?_
   refine Aa rfl (Ag (A2 rfl <| Ar rfl <| Al rfl <| Ar rfl <| Aj rfl)) ?_
   refine As rfl rfl (Ar rfl <| Ac) (by first | rfl | exact decide_eq_true (by omega)) ?_
   refine Aa rfl (Bk Bi (Ac) hy.plain) ?_
   refine As rfl rfl (Ar rfl <| Ak rfl <| Ac) (by first | rfl | exact decide_eq_true (by omega)) ?_
   refine Aa rfl (Bs (Ar rfl <| Ac) (Ac)) ?_
   refine Aa rfl (A1 (A2 rfl <| Ac) (by first | rfl | exact decide_eq_true (by omega)) (Ac)) ?_
   refine Ah <| Ad ?_
   by_cases hlt2 : k < ys.length
   ·
    refine Aq (Ac) (decide_eq_true (by omega)) ?_
    by_cases hne : (xs[k] : Int) = ys[k]
    ·
     refine Ay <| Ad <| Af <| A0 <| Af <| C4 (.inl rfl) (fun _ _ h => h) (by kernel_rfl) (by kernel_rfl) fun ds => ?_
     refine Bl rfl (Ag (A7 rfl <| Ar rfl <| Al rfl <| Ar rfl <| Aj rfl)) ?_
     refine Bl rfl (Ag (A7 rfl <| Ar rfl <| Ak rfl <| At rfl hs5)) ?_
     refine Bl rfl (Be  Bi (Ak rfl <| Ac) hx.plain (Ac) rfl hlt) ?_
     refine Bl rfl (Ap Bm (Ac) (hx.cell1 hlt rfl)) ?_
     refine Bl rfl (Ag (A7 rfl <| A2 rfl <| Ar rfl <| Al rfl <| Ar rfl <| Aj rfl)) ?_
     refine Bl rfl (Ag (A7 rfl <| A2 rfl <| Ar rfl <| Ak rfl <| At rfl hs5)) ?_
     refine Bl rfl (Be  Bi (Ak rfl <| Ac) hy.plain (Ac) rfl hlt2) ?_
     refine Bl rfl (Ap Bm (Ac) (hy.cell1 hlt2 rfl)) ?_
     refine Bl rfl (B0 (A2 rfl <| Ac) (Ac)) ?_
     refine Di ?_
     refine Ad <| Ao (Ac) (decide_eq_false (fun h => h hne)) ?_
     refine Ay <| Bc <| Ad <| Ai fun ds => Aa rfl (Ag (A4 rfl <| Ar rfl <| Ak rfl <| At rfl hs5)) ?_
     refine Aa rfl (Bv (Ac) Ab rfl (by omega) (by omega)) ?_
     refine Aa rfl (Ae (Ac)) ?_
     refine Ah <| Ad ⟨_, m - 1, Off.eq (C9 rfl <| ou4 rfl <| ou2 rfl <| Bf), by omega, ?_⟩
     exact ⟨k + 1, by omega, by omega, (Ac), rfl, take_succ_eq hlt hlt2 htk hne⟩
    ·
     refine Ay <| Ad <| Af <| A0 <| Af <| C4 (.inl rfl) (fun _ _ h => h) (by kernel_rfl) (by kernel_rfl) fun ds => ?_
     refine Bl rfl (Ag (A7 rfl <| Ar rfl <| Al rfl <| Ar rfl <| Aj rfl)) ?_
     refine Bl rfl (Ag (A7 rfl <| Ar rfl <| Ak rfl <| At rfl hs5)) ?_
     refine Bl rfl (Be  Bi (Ak rfl <| Ac) hx.plain (Ac) rfl hlt) ?_
     refine Bl rfl (Ap Bm (Ac) (hx.cell1 hlt rfl)) ?_
     refine Bl rfl (Ag (A7 rfl <| A2 rfl <| Ar rfl <| Al rfl <| Ar rfl <| Aj rfl)) ?_
     refine Bl rfl (Ag (A7 rfl <| A2 rfl <| Ar rfl <| Ak rfl <| At rfl hs5)) ?_
     refine Bl rfl (Be  Bi (Ak rfl <| Ac) hy.plain (Ac) rfl hlt2) ?_
     refine Bl rfl (Ap Bm (Ac) (hy.cell1 hlt2 rfl)) ?_
     refine Bl rfl (B0 (A2 rfl <| Ac) (Ac)) ?_
     refine Di ?_
     refine Ad <| Aq (Ac) (decide_eq_true hne) ?_
     refine Af <| C4 (.inl rfl) (fun _ _ h => h) (by kernel_rfl) (by kernel_rfl) fun ds => ?_
     refine Bl rfl (Ag (A4 rfl <| Ar rfl <| Ak rfl <| Al rfl <| Ar rfl <| Aj rfl)) ?_
     refine Bl rfl (Ag (A4 rfl <| A2 rfl <| At rfl hs5)) ?_
     refine Bl rfl (Be  Bi (Ak rfl <| Ac) hx.plain (Ac) rfl hlt) ?_
     refine Bl rfl (Ap Bm (Ac) (hx.cell1 hlt rfl)) ?_
     refine Bl rfl (Ag (A4 rfl <| A2 rfl <| Ar rfl <| Ak rfl <| Al rfl <| Ar rfl <| Aj rfl)) ?_
     refine Bl rfl (Ag (A4 rfl <| A7 rfl <| At rfl hs5)) ?_
     refine Bl rfl (Be  Bi (Ak rfl <| Ac) hy.plain (Ac) rfl hlt2) ?_
     refine Bl rfl (Ap Bm (Ac) (hy.cell1 hlt2 rfl)) ?_
     refine Bl rfl (Bs (A2 rfl <| Ac) (Ac)) ?_
     refine Bl rfl (Ae (Ac)) ?_
     refine Di ?_
     refine Ad <| A3 <| Bg (A8 (A8 (Bg (A8 ?_))))
     refine Aw rfl (.tmp (Ac) .nil) ?_
     show _ = _
     rw [bef_at hlt hlt2 htk hne]; rfl
   ·
    refine Ao (Ac) (decide_eq_false (by omega)) ?_
    refine Bq ?_
    refine Bd <| Bd <| Bj <| Ad <| Af <| Ai fun ds => Aa rfl (Ag (A7 rfl <| Ar rfl <| Al rfl <| Ar rfl <| Aj rfl)) ?_
    refine Aa rfl (Bk Bi (Ac) hx.plain) ?_
    refine Aa rfl (Ag (A7 rfl <| A2 rfl <| Al rfl <| Ar rfl <| Aj rfl)) ?_
    refine Aa rfl (Bk Bi (Ac) hy.plain) ?_
    refine Aa rfl (Bs (Ar rfl <| Ac) (Ac)) ?_
    refine Aa rfl (Ae (Ac)) ?_
    refine Ah <| Ad <| A3 <| Aw rfl (.tmp (Ac) .nil) ?_
    show _ = _
    rw [bef_end1 (k := k) (by omega) (by omega) htk]; exact congrArg Value.bool (decide_eq_false (by omega))
  ·
   refine Af <| Af <| Ai fun ds => Aa rfl (Ag (At rfl hs5)) ?_
   refine Aa rfl (Ag (Ak rfl <| Al rfl <| Ar rfl <| Aj rfl)) ?_
   refine Aa rfl (Bk Bi (Ac) hx.plain) ?_
   refine Aa rfl (Bs (Ar rfl <| Ac) (Ac)) ?_
   refine Aa rfl (Ag (Ac)) ?_
   refine Au rfl rfl (Ac) (.inl (congrArg Value.bool (by first | rfl | exact decide_eq_false (by omega)))) rfl ?_
   refine Au rfl rfl (Ak rfl <| Ac) (.inl (congrArg Value.bool (by first | rfl | exact decide_eq_false (by omega)))) rfl ?_
   refine Au rfl rfl (Ar rfl <| Ac) (.inl (congrArg Value.bool (by first | rfl | exact decide_eq_false (by omega)))) rfl ?_
   refine Au rfl rfl (Ar rfl <| Ak rfl <| Ac) (.inl (congrArg Value.bool (by first | rfl | exact decide_eq_false (by omega)))) rfl ?_
   refine Aa rfl (Bb (A2 rfl <| Ac) (by first | rfl | exact decide_eq_false (by omega)) Ab) ?_
   refine Ah <| Ad <| Ao (Ac) rfl ?_
   obtain rfl : k = xs.length := by omega
   refine Bq ?_
   refine Bd <| Bd <| Bj <| Ad <| Af <| Ai fun ds => Aa rfl (Ag (A7 rfl <| Ar rfl <| Al rfl <| Ar rfl <| Aj rfl)) ?_
   refine Aa rfl (Bk Bi (Ac) hx.plain) ?_
   refine Aa rfl (Ag (A7 rfl <| A2 rfl <| Al rfl <| Ar rfl <| Aj rfl)) ?_
   refine Aa rfl (Bk Bi (Ac) hy.plain) ?_
   refine Aa rfl (Bs (Ar rfl <| Ac) (Ac)) ?_
   refine Aa rfl (Ae (Ac)) ?_
   refine Ah <| Ad <| A3 <| Aw rfl (.tmp (Ac) .nil) ?_
   show _ = _
   rw [bef_end0 hk htk]; exact congrArg Value.bool (decide_eq_decide.2 (by omega))
set_option maxRecDepth 100000 in
theorem leastLaw_ok {F : Heap} {vp ve : Value} {ps : List (Value × Edn)} {s : Stm} (hr : StmR F vp ve ps s) {vx : Value} {xs : List Nat} (hxs : Sl F vx 1 u8E xs) (hxb : ∀ x ∈ xs, x < 256) : Ok Try.prog 7 [.agg #[vp, ve], vx].toArray F fun u _ => u = .bool true := by
 have hle0 : F.le F := Heap.le_refl _
 refine Ok.intro Try.func7 rfl Try.ntmps7 rfl fun w0 => ?_
 have hL1 := hr.eds.plain.lt
 have hL2 := hr.places.plain.lt
 have hlen := hr.len
 by_cases h0 : (checkT s).2.2 = 0
 ·
  have hv := Dh h0
  have hne := hv.ne
  have hnp := hv.np
  by_cases hask : askedT s = 0
  ·
   obtain ⟨-, hbne⟩ := askedT_ok hask
   have h0l : 0 < (bestsL s).length := List.length_pos_iff.2 hbne
   obtain ⟨hb1, hb2, hb3, hc0, hb5⟩ := bestsL_at (List.getElem_mem h0l)
   have hok2 := tree_err0 h0 hb1 hb2
   have hbl := bestsL_len hv
   refine Af <| Ai fun ds => Bh rfl (B2 (Aj rfl) rfl fun b1 hb1 nb1 => ?_)
   refine Aa rfl (Ae Ab) ?_
   refine Ah <| Ad <| Af <| Ai fun ds => Aa rfl (A9 B5 (Ak rfl <| Ac) rfl rfl (A5 0 rfl)) ?_
   refine Bh rfl (Cj bd_27 Az (.cons (Ac) .nil) (best_top_ok hr) fun v2 F3 hr4 hF5 => ?_)
   replace hr := hr.mono hF5
   replace hxs := hxs.mono hF5
   have hb0 := hr4
   rw [bestTE_ok hask, List.getElem?_eq_getElem h0l] at hb0
   obtain ⟨vb, rfl, hb⟩ := hb0
   replace hb : Ints _ vb ((bestsL s)[0]'h0l) := hb
   refine Aa rfl (Ag (Ac)) ?_
   refine Aa rfl (Ax (Ac) rfl) ?_
   refine Aa rfl (Ax (Ak rfl <| Ac) rfl) ?_
   refine Aa rfl (Ax (Ar rfl <| Ac) rfl) ?_
   refine Aa rfl (Ax (Ar rfl <| Ak rfl <| Ac) rfl) ?_
   refine Aa rfl (Ae (Ar rfl <| Ak rfl <| Ac)) ?_
   refine Aa rfl (Ae (Ar rfl <| Ak rfl <| Ac)) ?_
   refine Aa rfl (Ae (Ar rfl <| Ak rfl <| Ac)) ?_
   refine Aa rfl (Ae (Ar rfl <| Ak rfl <| Ac)) ?_
   refine Ah <| Ad <| Af <| Af <| Ai fun ds => Aa rfl (A9 B5 (A7 rfl <| A2 rfl <| Ac) rfl rfl (A5 0 rfl)) ?_
   refine Bw rfl (Ba bd_40 Az (.cons (Ac) .nil) (valid_ok hr) (fun _ _ h => h)) ?_
   refine Aa rfl (Cl (Ac)) ?_
   refine Ah <| Ad <| Ao (Ac) (by simp [h0]) ?_
   refine Ay <| Ad <| Af <| Ai fun ds => Aa rfl (Am Br (A7 rfl <| A2 rfl <| Ar rfl <| Ak rfl <| Ac)) ?_
   refine Aa rfl (Ap B1 (Ac) (Cell.own 0 rfl rfl)) ?_
   refine Aa rfl (Bk B7 (Ac) hr.eds.plain) ?_
   refine Aa rfl (Ag (A4 rfl <| Ar rfl <| Ak rfl <| Aj rfl)) ?_
   refine Bh rfl (Cj bd_41 Az (.cons (Ak rfl <| Ac) (.cons (Ac) .nil)) (tree_ok7 hxs hxb (many := ps.length) (by omega) (by omega)) fun v6 F7 hr8 hF9 => ?_)
   replace hr := hr.mono hF9
   replace hb := hb.mono hF9
   obtain ⟨l, hl, hll0, ht⟩ := hr8
   have hll : l.length = s.editions.length := by omega
   have hok := tree_err0 h0 hll ht
   refine Aa rfl (Ae (Ac)) ?_
   refine Ah <| Ad <| Af <| Ai fun ds => Aa rfl (A9 B5 (A4 rfl <| A2 rfl <| Ak rfl <| Ac) rfl rfl (A5 0 rfl)) ?_
   refine Aa rfl (Ag (Ak rfl <| Ac)) ?_
   refine Bw rfl (Ba bd_21 Az (.cons (Ak rfl <| Ac) (.cons (Ac) .nil)) (Dp hr hl) (fun _ _ h => h.trans (show changesEV s l = .tuple #[.int .i64 (changesE s l).1, .int .i64 (changesE s l).2] from rfl))) ?_
   refine Aa rfl (Ag (Ac)) ?_
   refine Aa rfl (Ax (Ac) rfl) ?_
   refine Aa rfl (Ax (Ak rfl <| Ac) rfl) ?_
   refine Aa rfl (Ae (Ak rfl <| Ac)) ?_
   refine Aa rfl (Ae (Ak rfl <| Ac)) ?_
   refine Ah <| Ad <| Af <| Af <| Ai fun ds => Aa rfl (Ag (A4 rfl <| Ak rfl <| Ac)) ?_
   refine Aa rfl (B0 (Ac) Ab) ?_
   refine Ah <| Ad <| Ao (Ac) (decide_eq_false (fun h => h rfl)) ?_
   refine Ay <| Ad <| Af <| Ai fun ds => Aa rfl (A9 B5 (A4 rfl <| A7 rfl <| A2 rfl <| Ar rfl <| Ak rfl <| Ac) rfl rfl (A5 0 rfl)) ?_
   refine Aa rfl (Ag (A4 rfl <| A2 rfl <| Ar rfl <| Ak rfl <| Ac)) ?_
   refine Bw rfl (Ba bd_21 Az (.cons (Ak rfl <| Ac) (.cons (Ac) .nil)) (Dp hr hb) (fun _ _ h => h.trans (show changesEV s ((bestsL s)[0]'h0l) = .tuple #[.int .i64 (bestsM s), .int .i64 0] by unfold changesEV; rw [changesE_ok hok2 (by omega), hc0]))) ?_
   refine Aa rfl (Ag (Ac)) ?_
   refine Aa rfl (Ax (Ac) rfl) ?_
   refine Aa rfl (Ax (Ak rfl <| Ac) rfl) ?_
   refine Aa rfl (Ae (Ak rfl <| Ac)) ?_
   refine Aa rfl (Ae (Ak rfl <| Ac)) ?_
   refine Ah <| Ad <| Af <| Af <| Ai fun ds => Aa rfl (Ag (Ac)) ?_
   refine Aa rfl (B0 (Ac) Ab) ?_
   refine Aa rfl (Ag (Ac)) ?_
   refine As rfl rfl (Ac) (by decide) ?_
   refine Aa rfl (Ag (A2 rfl <| Ac)) ?_
   refine As rfl rfl (Ak rfl <| Ac) (by decide) ?_
   refine Aa rfl (Ag (Bn rfl <| Ak rfl <| Ac)) ?_
   refine As rfl rfl (Ar rfl <| Ac) (by decide) ?_
   refine Aa rfl (B0 (Ak rfl <| Ac) (Ac)) ?_
   refine Aa rfl (Bb (Ar rfl <| Ak rfl <| Ac) (by decide) (Ac)) ?_
   refine Aa rfl (Ag (Ac)) ?_
   refine As rfl rfl (Ac) (decide_eq_false (fun h => h rfl)) ?_
   refine Aa rfl (Ag (Bn rfl <| A2 rfl <| Ac)) ?_
   refine As rfl rfl (Ak rfl <| Ac) (decide_eq_false (fun h => h rfl)) ?_
   refine Aa rfl (Bs (Ac) Ab) ?_
   refine Aa rfl (Bb (Ar rfl <| Ac) (decide_eq_false (fun h => h rfl)) (Ac)) ?_
   refine Ah <| Ad <| Ao (Ac) (decide_eq_false (by simp only; omega)) ?_
   refine Ay <| Ad <| Af ?_
   have hcb := costL_bound (s := s) (l := l)
   by_cases hc : costL s l = 1000
   ·
    have hce := changesE_down hok hc
    refine Ai fun ds => Aa rfl (Ag (A4 rfl <| A2 rfl <| Ak rfl <| Ac)) ?_
    refine Aa rfl (B0 (Ac) Ab) ?_
    refine Aa rfl (Ag (Ac)) ?_
    refine Au rfl rfl (Ac) (.inl (congrArg Value.bool (by rw [hce]; decide))) rfl ?_
    refine Au rfl rfl (Ak rfl <| Ac) (.inl (congrArg Value.bool (by rw [hce]; decide))) rfl ?_
    refine Au rfl rfl (Ar rfl <| Ac) (.inl (congrArg Value.bool (by rw [hce]; decide))) rfl ?_
    refine Aa rfl (A1 (Ar rfl <| Ak rfl <| Ac) (by rw [hce]; decide) Ab) ?_
    refine Aa rfl (Ag (Ac)) ?_
    refine Au rfl rfl (Ac) (.inl (congrArg Value.bool rfl)) rfl ?_
    refine Au rfl rfl (Ak rfl <| Ac) (.inl (congrArg Value.bool rfl)) rfl ?_
    refine Au rfl rfl (Ar rfl <| Ac) (.inl (congrArg Value.bool rfl)) rfl ?_
    refine Au rfl rfl (Ar rfl <| Ak rfl <| Ac) (.inl (congrArg Value.bool rfl)) rfl ?_
    refine Au rfl rfl (Ac) (.inr rfl) rfl ?_
    refine Au rfl rfl (Ak rfl <| Ac) (.inr rfl) rfl ?_
    refine Au rfl rfl (Ar rfl <| Ac) (.inr rfl) rfl ?_
    refine Au rfl rfl (Ar rfl <| Ak rfl <| Ac) (.inr rfl) rfl ?_
    refine Au rfl rfl (A7 rfl <| Ac) (.inl (congrArg Value.bool rfl)) rfl ?_
    refine Aa rfl (A1 (A7 rfl <| Ak rfl <| Ac) rfl Ab) ?_
    refine Aa rfl (Ag (Ac)) ?_
    refine As rfl rfl (Ac) rfl ?_
    refine Aa rfl (Ag (Bn rfl <| A7 rfl <| Ac)) ?_
    refine As rfl rfl (Ak rfl <| Ac) rfl ?_
    refine Aa rfl (Bx (Ac) Ab) ?_
    refine As rfl rfl (Ar rfl <| Ac) rfl ?_
    refine Aa rfl (Ag (Ac)) ?_
    refine As rfl rfl (Ac) (by rw [hce]; decide) ?_
    refine Aa rfl (Ag (Bn rfl <| A7 rfl <| Ar rfl <| Ak rfl <| Ac)) ?_
    refine As rfl rfl (Ak rfl <| Ac) (by rw [hce]; decide) ?_
    refine Aa rfl (Bx (Ac) Ab) ?_
    refine As rfl rfl (A2 rfl <| Ak rfl <| Ac) rfl ?_
    refine Aa rfl (Bb (Ar rfl <| Ac) (by rw [hce]; decide) (Ac)) ?_
    refine Aa rfl (A1 (A2 rfl <| Ar rfl <| Ac) rfl (Ac)) ?_
    refine Aa rfl (Ag (Ac)) ?_
    refine As rfl rfl (Ac) (by rw [hce]; rfl) ?_
    refine Bw rfl (Ba bd_26 Az .nil awake_ok (fun _ _ h => h)) ?_
    refine Aa rfl (A1 (Ak rfl <| Ac) (by rw [hce]; rfl) (Ac)) ?_
    refine Aa rfl (Ae (Ac)) ?_
    refine Ah <| Ad <| A3 <| Aw rfl (.tmp (Ac) .nil) ?_
    rfl
   ·
    have hce := changesE_ok hok hc
    obtain ⟨q1, -, q2⟩ := best_least hll ht (show costL s l < 1000 by omega)
    refine Ai fun ds => Aa rfl (Ag (A4 rfl <| A2 rfl <| Ak rfl <| Ac)) ?_
    refine Aa rfl (B0 (Ac) Ab) ?_
    refine Aa rfl (Ag (Ac)) ?_
    refine As rfl rfl (Ac) (by rw [hce]; exact decide_eq_false (fun h => h rfl)) ?_
    refine Aa rfl (Ag (A4 rfl <| A7 rfl <| Ak rfl <| Ac)) ?_
    refine As rfl rfl (Ak rfl <| Ac) (by rw [hce]; exact decide_eq_false (fun h => h rfl)) ?_
    refine Aa rfl (Ag (Bn rfl <| A7 rfl <| A2 rfl <| Ac)) ?_
    refine As rfl rfl (Ar rfl <| Ac) (by rw [hce]; exact decide_eq_false (fun h => h rfl)) ?_
    refine Aa rfl (C7 (Ak rfl <| Ac) (Ac)) ?_
    refine Aa rfl (Bb (Ar rfl <| Ak rfl <| Ac) (by rw [hce]; exact decide_eq_false (fun h => h rfl)) (Ac)) ?_
    refine Aa rfl (Ag (Ac)) ?_
    by_cases hgt : bestsM s < costL s l
    ·
     refine Au rfl rfl (Ac) (.inl (congrArg Value.bool (by rw [hce]; exact decide_eq_true hgt))) rfl ?_
     refine Au rfl rfl (Ak rfl <| Ac) (.inl (congrArg Value.bool (by rw [hce]; exact decide_eq_true hgt))) rfl ?_
     refine Au rfl rfl (Ar rfl <| Ac) (.inl (congrArg Value.bool (by rw [hce]; exact decide_eq_true hgt))) rfl ?_
     refine Au rfl rfl (Ar rfl <| Ak rfl <| Ac) (.inl (congrArg Value.bool (by rw [hce]; exact decide_eq_true hgt))) rfl ?_
     refine Au rfl rfl (Ac) (.inr rfl) rfl ?_
     refine Au rfl rfl (Ak rfl <| Ac) (.inr rfl) rfl ?_
     refine Au rfl rfl (Ar rfl <| Ac) (.inr rfl) rfl ?_
     refine Au rfl rfl (Ar rfl <| Ak rfl <| Ac) (.inr rfl) rfl ?_
     refine Au rfl rfl (A7 rfl <| Ac) (.inl (congrArg Value.bool (by rw [hce]; exact decide_eq_true hgt))) rfl ?_
     refine Aa rfl (A1 (A7 rfl <| Ak rfl <| Ac) (by rw [hce]; exact decide_eq_true hgt) Ab) ?_
     refine Aa rfl (Ag (Ac)) ?_
     refine As rfl rfl (Ac) rfl ?_
     refine Aa rfl (Ag (Bn rfl <| A7 rfl <| Ac)) ?_
     refine As rfl rfl (Ak rfl <| Ac) rfl ?_
     refine Aa rfl (Bx (Ac) Ab) ?_
     refine As rfl rfl (Ar rfl <| Ac) rfl ?_
     refine Aa rfl (Ag (Ac)) ?_
     refine Au rfl rfl (Ac) (.inl (congrArg Value.bool (by rw [hce]; rfl))) rfl ?_
     refine Au rfl rfl (Ak rfl <| Ac) (.inl (congrArg Value.bool (by rw [hce]; rfl))) rfl ?_
     refine As rfl rfl (A2 rfl <| Ak rfl <| Ac) rfl ?_
     refine Aa rfl (A1 (Ar rfl <| Ac) (by rw [hce]; rfl) Ab) ?_
     refine Aa rfl (A1 (A2 rfl <| Ar rfl <| Ac) rfl (Ac)) ?_
     refine Aa rfl (Ag (Ac)) ?_
     refine As rfl rfl (Ac) rfl ?_
     refine Bw rfl (Ba bd_26 Az .nil awake_ok (fun _ _ h => h)) ?_
     refine Aa rfl (A1 (Ak rfl <| Ac) rfl (Ac)) ?_
     refine Aa rfl (Ae (Ac)) ?_
     refine Ah <| Ad <| A3 <| Aw rfl (.tmp (Ac) .nil) ?_
     rfl
    ·
     have hbf := best_first (q2 (by omega)) h0l
     refine As rfl rfl (Ac) (by rw [hce]; exact decide_eq_false hgt) ?_
     refine Aa rfl (Ag (A4 rfl <| A7 rfl <| A2 rfl <| Ar rfl <| Ac)) ?_
     refine As rfl rfl (Ak rfl <| Ac) (by rw [hce]; exact decide_eq_false hgt) ?_
     refine Aa rfl (Ag (Bn rfl <| A4 rfl <| Ak rfl <| Ac)) ?_
     refine As rfl rfl (Ar rfl <| Ac) (by rw [hce]; exact decide_eq_false hgt) ?_
     refine Aa rfl (Bx (Ak rfl <| Ac) (Ac)) ?_
     refine As rfl rfl (Ar rfl <| Ak rfl <| Ac) (by rw [hce]; exact decide_eq_false hgt) ?_
     refine Aa rfl (Ag (Ac)) ?_
     refine As rfl rfl (Ac) (by rw [hce]; exact decide_eq_true (by simp only; omega)) ?_
     refine Aa rfl (Ag (Bn rfl <| A7 rfl <| Ak rfl <| Ac)) ?_
     refine As rfl rfl (Ak rfl <| Ac) (by rw [hce]; exact decide_eq_true (by simp only; omega)) ?_
     refine Aa rfl (Ag (Bn rfl <| A4 rfl <| A2 rfl <| Ar rfl <| Ac)) ?_
     refine As rfl rfl (Ar rfl <| Ac) (by rw [hce]; exact decide_eq_true (by simp only; omega)) ?_
     refine Bw rfl (Ba bd_42 Az (.cons (Ak rfl <| Ac) (.cons (Ac) .nil)) (refBeforeI_ok hl hb) (fun _ _ h => h)) ?_
     refine As rfl rfl (Ar rfl <| Ak rfl <| Ac) (by rw [hce]; exact decide_eq_true (by simp only; omega)) ?_
     refine Aa rfl (Cl (Ac)) ?_
     refine As rfl rfl (A7 rfl <| Ac) (by rw [hce]; exact decide_eq_false hgt) ?_
     refine Aa rfl (A1 (A2 rfl <| Ac) (by rw [hce]; exact decide_eq_true (by simp only; omega)) (Ac)) ?_
     refine Aa rfl (Bb (A7 rfl <| Ak rfl <| Ac) (by rw [hce]; exact decide_eq_false hgt) (Ac)) ?_
     refine Aa rfl (Ag (Ac)) ?_
     refine As rfl rfl (Ac) (by rw [hbf]; rfl) ?_
     refine Aa rfl (Ag (Bn rfl <| A7 rfl <| Ac)) ?_
     refine As rfl rfl (Ak rfl <| Ac) (by rw [hbf]; rfl) ?_
     refine Aa rfl (Bx (Ac) Ab) ?_
     refine As rfl rfl (Ar rfl <| Ac) (by rw [hbf]; rfl) ?_
     refine Aa rfl (Ag (Ac)) ?_
     refine Au rfl rfl (Ac) (.inl (congrArg Value.bool (by rw [hce]; rfl))) rfl ?_
     refine Au rfl rfl (Ak rfl <| Ac) (.inl (congrArg Value.bool (by rw [hce]; rfl))) rfl ?_
     refine As rfl rfl (A2 rfl <| Ak rfl <| Ac) (by rw [hbf]; rfl) ?_
     refine Aa rfl (A1 (Ar rfl <| Ac) (by rw [hce]; rfl) Ab) ?_
     refine Aa rfl (A1 (A2 rfl <| Ar rfl <| Ac) (by rw [hbf]; rfl) (Ac)) ?_
     refine Aa rfl (Ag (Ac)) ?_
     refine As rfl rfl (Ac) rfl ?_
     refine Bw rfl (Ba bd_26 Az .nil awake_ok (fun _ _ h => h)) ?_
     refine Aa rfl (A1 (Ak rfl <| Ac) rfl (Ac)) ?_
     refine Aa rfl (Ae (Ac)) ?_
     refine Ah <| Ad <| A3 <| Aw rfl (.tmp (Ac) .nil) ?_
     rfl
  ·
   have hbn : bestsL s = [] := by by_cases hq : bestsL s = []; exact hq; exact absurd (askedT_some h0 hq) hask
   have ha9 := askedT_nil h0 hbn
   refine Af <| Ai fun ds => Bh rfl (B2 (Aj rfl) rfl fun b10 hb10 nb10 => ?_)
   refine Aa rfl (Ae Ab) ?_
   refine Ah <| Ad <| Af <| Ai fun ds => Aa rfl (A9 B5 (Ak rfl <| Ac) rfl rfl (A5 0 rfl)) ?_
   refine Bh rfl (Cj bd_27 Az (.cons (Ac) .nil) (best_top_ok hr) fun v11 F12 hr13 hF14 => ?_)
   replace hr := hr.mono hF14
   replace hxs := hxs.mono hF14
   have hb0 := hr13
   rw [bestTE_bad hask] at hb0
   obtain ⟨vb, rfl, hb⟩ := hb0
   replace hb : Ints _ vb [] := hb
   refine Aa rfl (Ag (Ac)) ?_
   refine Aa rfl (Ax (Ac) rfl) ?_
   refine Aa rfl (Ax (Ak rfl <| Ac) rfl) ?_
   refine Aa rfl (Ax (Ar rfl <| Ac) rfl) ?_
   refine Aa rfl (Ax (Ar rfl <| Ak rfl <| Ac) rfl) ?_
   refine Aa rfl (Ae (Ar rfl <| Ak rfl <| Ac)) ?_
   refine Aa rfl (Ae (Ar rfl <| Ak rfl <| Ac)) ?_
   refine Aa rfl (Ae (Ar rfl <| Ak rfl <| Ac)) ?_
   refine Aa rfl (Ae (Ar rfl <| Ak rfl <| Ac)) ?_
   refine Ah <| Ad <| Af <| Af <| Ai fun ds => Aa rfl (A9 B5 (A7 rfl <| A2 rfl <| Ac) rfl rfl (A5 0 rfl)) ?_
   refine Bw rfl (Ba bd_40 Az (.cons (Ac) .nil) (valid_ok hr) (fun _ _ h => h)) ?_
   refine Aa rfl (Cl (Ac)) ?_
   refine Ah <| Ad <| Ao (Ac) (by simp [h0]) ?_
   refine Ay <| Ad <| Af <| Ai fun ds => Aa rfl (Am Br (A7 rfl <| A2 rfl <| Ar rfl <| Ak rfl <| Ac)) ?_
   refine Aa rfl (Ap B1 (Ac) (Cell.own 0 rfl rfl)) ?_
   refine Aa rfl (Bk B7 (Ac) hr.eds.plain) ?_
   refine Aa rfl (Ag (A4 rfl <| Ar rfl <| Ak rfl <| Aj rfl)) ?_
   refine Bh rfl (Cj bd_41 Az (.cons (Ak rfl <| Ac) (.cons (Ac) .nil)) (tree_ok7 hxs hxb (many := ps.length) (by omega) (by omega)) fun v15 F16 hr17 hF18 => ?_)
   replace hr := hr.mono hF18
   replace hb := hb.mono hF18
   obtain ⟨l, hl, hll0, ht⟩ := hr17
   have hll : l.length = s.editions.length := by omega
   have hok := tree_err0 h0 hll ht
   refine Aa rfl (Ae (Ac)) ?_
   refine Ah <| Ad <| Af <| Ai fun ds => Aa rfl (A9 B5 (A4 rfl <| A2 rfl <| Ak rfl <| Ac) rfl rfl (A5 0 rfl)) ?_
   refine Aa rfl (Ag (Ak rfl <| Ac)) ?_
   refine Bw rfl (Ba bd_21 Az (.cons (Ak rfl <| Ac) (.cons (Ac) .nil)) (Dp hr hl) (fun _ _ h => h.trans (show changesEV s l = .tuple #[.int .i64 (changesE s l).1, .int .i64 (changesE s l).2] from rfl))) ?_
   refine Aa rfl (Ag (Ac)) ?_
   refine Aa rfl (Ax (Ac) rfl) ?_
   refine Aa rfl (Ax (Ak rfl <| Ac) rfl) ?_
   refine Aa rfl (Ae (Ak rfl <| Ac)) ?_
   refine Aa rfl (Ae (Ak rfl <| Ac)) ?_
   refine Ah <| Ad <| Af <| Af <| Ai fun ds => Aa rfl (Ag (A4 rfl <| Ak rfl <| Ac)) ?_
   refine Aa rfl (B0 (Ac) Ab) ?_
   refine Ah <| Ad <| Aq (Ac) (decide_eq_true hask) ?_
   refine Af ?_
   have hcb := costL_bound (s := s) (l := l)
   have hc : costL s l = 1000 := by by_cases hq : costL s l < 1000; exact absurd hbn (best_least hll ht hq).2.1; omega
   have hce := changesE_down hok hc
   refine Ai fun ds => Aa rfl (Ag (A4 rfl <| Ar rfl <| Ak rfl <| Ac)) ?_
   refine Aa rfl (Bx (Ac) Ab) ?_
   refine Aa rfl (Ag (Ac)) ?_
   refine As rfl rfl (Ac) (decide_eq_true ha9) ?_
   refine Aa rfl (Ag (A2 rfl <| Ak rfl <| Ac)) ?_
   refine As rfl rfl (Ak rfl <| Ac) (decide_eq_true ha9) ?_
   refine Aa rfl (Bx (Ac) Ab) ?_
   refine Aa rfl (A1 (Ar rfl <| Ac) (decide_eq_true ha9) (Ac)) ?_
   refine Aa rfl (Ag (Ac)) ?_
   refine As rfl rfl (Ac) (by rw [hce]; rfl) ?_
   refine Aa rfl (Ag (A4 rfl <| A7 rfl <| A2 rfl <| Ak rfl <| Ac)) ?_
   refine As rfl rfl (Ak rfl <| Ac) (by rw [hce]; rfl) ?_
   refine Aa rfl (Bk Bi (Ac) hb.plain) ?_
   refine As rfl rfl (Ar rfl <| Ac) (by rw [hce]; rfl) ?_
   refine Aa rfl (Bx (Ac) Ab) ?_
   refine Aa rfl (A1 (Ar rfl <| Ak rfl <| Ac) (by rw [hce]; rfl) (Ac)) ?_
   refine Aa rfl (Ag (Ac)) ?_
   refine As rfl rfl (Ac) (by decide) ?_
   refine Bw rfl (Ba bd_26 Az .nil awake_ok (fun _ _ h => h)) ?_
   refine Aa rfl (A1 (Ak rfl <| Ac) (by decide) (Ac)) ?_
   refine Aa rfl (Ae (Ac)) ?_
   refine Ah <| Ad <| A3 <| A8 ?_
   refine Aw rfl (.tmp (Ac) .nil) ?_
   rfl
 ·
  have ha9 := askedT_bad h0
  have hask : askedT s ≠ 0 := by rw [ha9]; exact h0
  refine Af <| Ai fun ds => Bh rfl (B2 (Aj rfl) rfl fun b19 hb19 nb19 => ?_)
  refine Aa rfl (Ae Ab) ?_
  refine Ah <| Ad <| Af <| Ai fun ds => Aa rfl (A9 B5 (Ak rfl <| Ac) rfl rfl (A5 0 rfl)) ?_
  refine Bh rfl (Cj bd_27 Az (.cons (Ac) .nil) (best_top_ok hr) fun v20 F21 hr22 hF23 => ?_)
  replace hr := hr.mono hF23
  have hb0 := hr22
  rw [bestTE_bad hask] at hb0
  obtain ⟨vb, rfl, hb⟩ := hb0
  replace hb : Ints _ vb [] := hb
  refine Aa rfl (Ag (Ac)) ?_
  refine Aa rfl (Ax (Ac) rfl) ?_
  refine Aa rfl (Ax (Ak rfl <| Ac) rfl) ?_
  refine Aa rfl (Ax (Ar rfl <| Ac) rfl) ?_
  refine Aa rfl (Ax (Ar rfl <| Ak rfl <| Ac) rfl) ?_
  refine Aa rfl (Ae (Ar rfl <| Ak rfl <| Ac)) ?_
  refine Aa rfl (Ae (Ar rfl <| Ak rfl <| Ac)) ?_
  refine Aa rfl (Ae (Ar rfl <| Ak rfl <| Ac)) ?_
  refine Aa rfl (Ae (Ar rfl <| Ak rfl <| Ac)) ?_
  refine Ah <| Ad <| Af <| Af <| Ai fun ds => Aa rfl (A9 B5 (A7 rfl <| A2 rfl <| Ac) rfl rfl (A5 0 rfl)) ?_
  refine Bw rfl (Ba bd_40 Az (.cons (Ac) .nil) (valid_ok hr) (fun _ _ h => h)) ?_
  refine Aa rfl (Cl (Ac)) ?_
  refine Ah <| Ad <| Aq (Ac) (by simp [h0]) ?_
  refine Af <| Ai fun ds => Aa rfl (Ag (Ar rfl <| Ak rfl <| Ac)) ?_
  refine Aa rfl (B0 (Ac) Ab) ?_
  refine Aa rfl (Ag (Ac)) ?_
  refine As rfl rfl (Ac) (decide_eq_true hask) ?_
  refine Aa rfl (Ag (A7 rfl <| Ak rfl <| Ac)) ?_
  refine As rfl rfl (Ak rfl <| Ac) (decide_eq_true hask) ?_
  refine Aa rfl (Bk Bi (Ac) hb.plain) ?_
  refine As rfl rfl (Ar rfl <| Ac) (decide_eq_true hask) ?_
  refine Aa rfl (Bx (Ac) Ab) ?_
  refine Aa rfl (A1 (Ar rfl <| Ak rfl <| Ac) (decide_eq_true hask) (Ac)) ?_
  refine Aa rfl (Ag (Ac)) ?_
  refine As rfl rfl (Ac) (by decide) ?_
  refine Bw rfl (Ba bd_26 Az .nil awake_ok (fun _ _ h => h)) ?_
  refine Aa rfl (A1 (Ak rfl <| Ac) (by decide) (Ac)) ?_
  refine Aa rfl (Ae (Ac)) ?_
  refine Ah <| Ad <| A3 <| A8 ?_
  refine Aw rfl (.tmp (Ac) .nil) ?_
  rfl
end Go.Proofs.Ytccogmkhijgelaa
namespace Go.Proofs.Ytccogmkhijgelaa
open Go.ChangeShapes Go.WideShapes Go.ChangeAt Go.RowKit
set_option maxRecDepth 100000 in
theorem stemLeastLifted (os : Os) (started : os.Started) (H : Type) (enc : TypeId × Value → H) :
   ReturnsInHanded {} Try.checked os 7 .any (Rows.stemLeastSpec.pre6 enc Try.prog Try.f7 Rows.stemLeastRow.domain false) (Rows.stemLeastSpec.post enc Try.prog Try.f7 false true false false) := by
 refine returnsInHanded_of_change_sized (C := Try.checked) ownKnob0 started (by kernel_rfl) Try.func7
   (ChangeSpec.witness6 (enc := enc) (C := Try.checked) false ⟨#[], #[.agg #[.slice none 0 0, .slice none 0 0], .slice none 0 0], []⟩ 8 (by kernel_rfl) (by kernel_rfl) (by kernel_rfl) (by kernel_rfl)) ?_
 intro W base args ds gs before hval0 hW hcnd hsz _
 have hval : ∀ (j : Nat) t v, Try.f7.params[j]? = some t → args[j]? = some v → Value.okWide Try.prog W .any base t v := hval0
 have hW' := hW
 obtain ⟨p, q, hA0, hV, rfl, hfz, hnd⟩ := hW
 have hA : DataW.TrodAll enc Try.prog W 0 (fun _ => true) true Try.f7.params.toList args.toList ds p := hA0
 rw [Try.params7] at hA hval
 obtain ⟨v0, vs0, d0, ds0, p0, q0, hargs, rfl, rfl, h0, r0⟩ := trodAll_cons hA
 obtain ⟨v1, vs1, d1, ds1, p1, q1, rfl, rfl, rfl, h1, r1⟩ := trodAll_cons r0
 obtain ⟨rfl, rfl, rfl⟩ := trodAll_nil r1
 obtain rfl : args = #[v0, v1] := by cases args; simp_all
 obtain ⟨rfl, rfl⟩ := trodVars_none hV
 have hsz' : (DataW.weightsEach Try.prog (Try.f7.params.toList ++ []) ([d0, d1] ++ [])).all (· ≤ reachBytes) = true := hsz
 rw [Try.params7] at hsz'
 have k0 := h0
 have lt0 : ∀ x ∈ p0, x.block < W.heap.size := by obtain ⟨m, hm⟩ := k0; exact DataW.trod_lt m _ _ _ hm
 have k1 := h1
 have lt1 : ∀ x ∈ p1, x.block < W.heap.size := by obtain ⟨m, hm⟩ := k1; exact DataW.trod_lt m _ _ _ hm
 obtain ⟨vp, ve, ps, s, rfl, hr⟩ := arg_stem (hval 0 25 v0 rfl rfl) h0 (weights_at hsz' (j := 0) rfl rfl)
 obtain ⟨xs, hxs, hxb⟩ := arg_bytes (hval 1 50 v1 rfl rfl) h1 (weights_at hsz' (j := 1) rfl rfl)
 clear hA0 hval0
 refine (Ok.law (leastLaw_ok hr hxs hxb)).mono fun e W' ⟨he, bel⟩ => ?_
 subst he
 exact ⟨_, rfl, _, _, _, [], _, [], hW', trodAll_mk1 (shut_bool Try.underlying4 _), (trodAll_cons_mk (Below.trod laidOut (by kernel_rfl) (of_decide_eq_true (by kernel_rfl)) k0 bel lt0) (trodAll_cons_mk (Below.trod laidOut (by kernel_rfl) (of_decide_eq_true (by kernel_rfl)) k1 bel lt1) trodAll_mk0)), rfl, bel.frame _, fun h => by cases h⟩
theorem stemLeast : Rows.StemLeastSaid :=
 OpenClaim.holds_of_wide 7 Try.f7 rfl rfl rfl rfl rfl rfl rfl ⟨rfl, rfl, rfl, rfl, rfl⟩ rfl rfl rfl rfl rfl (by kernel_rfl) Try.func7 (by kernel_rfl)
   (of_decide_eq_true (by kernel_rfl)) (by unfold Func.isWrapper; first | (rw [if_pos (by decide +kernel)]; kernel_rfl) | (rw [if_neg (by decide +kernel)]; exact ⟨rfl, rfl⟩))
   (fun os started H enc _ => stemLeastLifted os started H enc)
#print axioms stemLeast
end Go.Proofs.Ytccogmkhijgelaa
