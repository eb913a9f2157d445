/-
  A part of a proof: StemSecond returns true of any stem, numbers and editions, and leaves what it is handed as it was. No conditions.
-/
import Derived.Test.YtccogmkhijgelaaPad
import Derived.KernelRfl
namespace Go.Proofs.Ytccogmkhijgelaa
open Go.RowKit
theorem agg_128 : AggT Try.prog 128 3 := aggT_of (by kernel_rfl)
theorem bd_87 : Body Try.prog 87 := Br (by kernel_rfl)
theorem el_64 : ElemT Try.prog 64 4 56 (.agg #[.string ⟨#[]⟩, .int .i64 0, .int .i64 0, .slice none 0 0]) := elemT_of (by kernel_rfl) rfl (by decide)
theorem sz_128 : SizeT Try.prog 128 3 := Cx (by kernel_rfl)
theorem sz_23 : SizeT Try.prog 23 1 := Cx (by kernel_rfl)
theorem sz_26 : SizeT Try.prog 26 1 := Cx (by kernel_rfl)
theorem src_eds {F : Heap} {v : Value} {ps : List (Value × Edn)} (h : Sl F v 4 edE ps) (hone : ∀ p ∈ ps, p.1.oneCell' = true) {H : List (Nat × Obj)} : Src ⟨F, H⟩ v ps.length (ps.flatMap edE) 4 := h.srcM edE_len fun p hp => edE_one (hone p hp)
theorem StmX.ones {F : Heap} {b kb : Nat} {vp ve : Value} {ps : List (Value × Edn)} {s : Stm} (hX : StmX F b vp ve (.map (some kb)) ps s) : ∀ u ∈ [vp, ve, .map (some kb)], u.oneCell' = true := by
 intro u hu
 simp only [List.mem_cons, List.not_mem_nil, or_false] at hu
 rcases hu with rfl | rfl | rfl
 · exact hX.r.places.plain.one
 · exact hX.r.eds.plain.one
 · rfl
set_option maxRecDepth 100000 in
theorem cloneEd_own {F : Heap} {v : Value} {ps : List (Value × Edn)} (h : Sl F v 4 edE ps) (hone : ∀ p ∈ ps, p.1.oneCell' = true) (hn : ps.length ≤ 1000) : OkN Try.prog 87 [v].toArray F fun u _F' Hn => Own 64 4 u ps.length (ps.flatMap edE) Hn := by
 obtain ⟨a0, c0, rfl, g1, g2, g3, g4⟩ := h.plain
 refine OkN.intro Try.func87 rfl Try.ntmps87 rfl fun w0 => ?_
 cases a0
 ·
  refine Ag <| Ai fun ds => Aa rfl (Af Ad) ?_
  refine Ah <| Ac <| Ag <| Ag <| Ai fun ds => Aa rfl (Ae (Ak rfl <| Aj rfl)) ?_
  refine Aa rfl (q_eqlNil Try.underlying23 (Ab) Ad) ?_
  refine Ah <| Ac <| As (Ab) rfl ?_
  refine Ag <| Ai fun ds => Aa rfl (Af Ad) ?_
  refine Ah <| Ac <| A7 <| Be ?_
  refine Eg rfl (.tmp (Ab) .nil) (List.nil_sublist _) ?_
  obtain ⟨h0, -⟩ := g2 rfl
  have : ps = [] := List.eq_nil_of_length_eq_zero h0
  subst this
  exact Ea
 ·
  refine Ag <| Ai fun ds => Aa rfl (Af Ad) ?_
  refine Ah <| Ac <| Ag <| Ag <| Ai fun ds => Aa rfl (Ae (Ak rfl <| Aj rfl)) ?_
  refine Aa rfl (q_eqlNil Try.underlying23 (Ab) Ad) ?_
  refine Ah <| Ac <| Ap (Ab) rfl ?_
  refine Ay <| Ac <| Ag <| Ai fun ds => Bn rfl (x_build0 B3 fun b1 hb1 nb1 => ?_)
  refine Aa rfl (Ae (Aw rfl <| Aj rfl)) ?_
  refine Bn rfl (Co B3 el_64 (Ak rfl <| Ab) (own_box rfl) (Ab) (src_eds h hone) (by omega) (by omega) (.z) .box fun v2 R3 ho4 => ?_)
  have ho1 : Own 64 4 v2 ps.length (ps.flatMap edE) R3 := by simpa using ho4
  refine Aa rfl (Af (Ab)) ?_
  refine Ah <| Ac <| A7 <| Eg rfl (.tmp (Ab) .nil) (List.sublist_append_left _ _) ?_
  exact ho1
def IntsR7 (F : Heap) (u : Value) (p : List Int × Int) : Prop := ∃ v, u = .tuple #[v, .int .i64 p.2] ∧ Ints F v p.1
theorem IntsR7.mono {F F' : Heap} {u : Value} {p : List Int × Int} (h : IntsR7 F u p) (hF : F.le F') : IntsR7 F' u p := by obtain ⟨v, h1, h2⟩ := h; exact ⟨v, h1, h2.mono hF⟩
set_option maxRecDepth 100000 in
theorem reading_top_ok {F : Heap} {vp ve : Value} {ps : List (Value × Edn)} {s : Stm} (hr : StmR F vp ve ps s) {v : Value} {l : List Int} (hl : Ints F v l) (z q : Int) : Ok Try.prog 35 [.agg #[vp, ve], v, .int .i64 z, .int .i64 q].toArray F fun u F' => IntsR7 F' u (readE s l z q) := by
 have hle0 : F.le F := Heap.le_refl _
 refine Ok.intro Try.func35 rfl Try.ntmps35 rfl fun w0 => ?_
 have hL := hl.plain.lt
 have hlen := hr.len
 have hL1 := hr.eds.plain.lt
 have hL2 := hr.places.plain.lt
 by_cases hok : treeErr s l = 0
 ·
  obtain ⟨hv, hll, ht⟩ := tree_ok hok
  have hne := hv.ne
  have hnp := hv.np
  have hl5 : l.length ≤ 5 := by omega
  have hcv := changes_costV (s := s) ht hv hll
  have hcb := costL_bound (s := s) (l := l)
  refine Ag <| Ai fun ds => Bn rfl (B7 (Aj rfl) rfl fun b1 hb1 nb1 => ?_)
  refine Aa rfl (Af Ad) ?_
  refine Aa rfl (Af Ad) ?_
  refine Ah <| Ac <| Ag <| Ai fun ds => Aa rfl (Bc B5 (Ar rfl <| Ab) rfl rfl (Bb 0 rfl)) ?_
  refine Aa rfl (Ae (Aw rfl <| Aj rfl)) ?_
  refine Bn rfl (Dw bd_68 A1 (.cons (Ak rfl <| Ab) (.cons (Ab) .nil)) (enter_ok hr hl hok) fun v2 F3 R6 hr4 hF5 => ?_)
  replace hr := hr.mono hF5
  replace hle0 := Heap.le_trans hle0 hF5
  obtain ⟨ba, kb, rfl, hX, rfl⟩ := hr4
  refine Aa rfl (Ae (Ab)) ?_
  refine Aa rfl (Az (Ab) rfl) ?_
  refine Aa rfl (Az (Ak rfl <| Ab) rfl) ?_
  refine Aa rfl (Az (Ar rfl <| Ab) rfl) ?_
  refine Bn rfl (Ce D6 rfl fun b7 hb7 nb7 => ?_)
  refine Aa rfl (Af (Ar rfl <| Ak rfl <| Ab)) ?_
  refine Ck (Cg Ec (Ak rfl <| Ab) (Ar rfl <| Ak rfl <| Ab) (i := 0) rfl rfl rfl rfl Dc (.here) ?_)
  refine Aa rfl (Af (Ar rfl <| Ab)) ?_
  refine Ah <| Ac <| Ag <| A0 <| Ag <| Cf (i := 1) rfl hb1 (.next <| .here) fun F8 hF9 hz4 => ?_
  replace hr := hr.mono hF9
  replace hle0 := Heap.le_trans hle0 hF9
  replace hX := hX.mono hF9
  refine Cf (i := 0) rfl hb7 (.here) fun F10 hF11 hz11 => ?_
  replace hr := hr.mono hF11
  replace hle0 := Heap.le_trans hle0 hF11
  replace hX := hX.mono hF11
  replace hz4 := hF11 _ _ hz4
  refine Ai fun ds => Aa rfl (Ae (Ab)) ?_
  refine Aa rfl (B1 (Ab) Ad) ?_
  refine Aa rfl (Af (Ab)) ?_
  refine Ah <| Ac <| Ap (Ab) (by decide) ?_
  by_cases h1 : inB 0 (s.editions.length - 1) z = true
  ·
   refine Ag <| Ai fun ds => Aa rfl (Am Bq (A8 rfl <| Aw rfl <| Ar rfl <| Ak rfl <| Ab)) ?_
   refine Aa rfl (Ao By (Ab) (CellF.own hz4 rfl).cell) ?_
   refine Aa rfl (Bl B3 (Ab) hr.eds.plain) ?_
   refine Aa rfl (q_sub (Ab) Ad rfl (by omega) (by omega)) ?_
   refine Aa rfl (Ae (A2 rfl <| Aw rfl <| Aj rfl)) ?_
   refine Bn rfl (Cb Bd Db rfl (.cons (Ab) .nil) rfl rfl (by decide) (by simp [Value.oneCell']) fun b12 hb12 nb12 => ?_)
   refine Ca (i := 0) rfl hb12 .here fun F13 hF14 hz15 => ?_
   replace hr := hr.mono hF14
   replace hle0 := Heap.le_trans hle0 hF14
   replace hX := hX.mono hF14
   replace hz4 := hF14 _ _ hz4
   replace hz11 := hF14 _ _ hz11
   have hsl16 := C1 hz15
   refine B0 rfl (Bg D7 A1 (.cons Ad (.cons (Ar rfl <| Ab) (.cons (Ab) .nil))) (Ch _ _ hsl16) (fun _ _ h => h)) ?_
   refine Aa rfl (Ae (Ab)) ?_
   refine Aq rfl rfl (Ab) (by simp [hlen, h1]) ?_
   refine Aa rfl (Am Cv (A2 rfl <| Aw rfl <| Ar rfl <| Ak rfl <| Ab)) ?_
   refine Aq rfl rfl (Ak rfl <| Ab) (by simp [hlen, h1]) ?_
   refine Aa rfl (Ao C8 (Ab) (CellF.own hz4 rfl).cell) ?_
   refine Aq rfl rfl (Ar rfl <| Ab) (by simp [hlen, h1]) ?_
   refine Aa rfl (Bl Da (Ab) hr.places.plain) ?_
   refine Aq rfl rfl (Ar rfl <| Ak rfl <| Ab) (by simp [hlen, h1]) ?_
   refine Aa rfl (q_sub (Ab) Ad rfl (by omega) (by omega)) ?_
   refine Aq rfl rfl (Aw rfl <| Ab) (by simp [hlen, h1]) ?_
   refine Aa rfl (Ae (A2 rfl <| A8 rfl <| Aw rfl <| Aj rfl)) ?_
   refine Aq rfl rfl (Aw rfl <| Ak rfl <| Ab) (by simp [hlen, h1]) ?_
   refine Bn rfl (Cb Bd Db rfl (.cons (Ab) .nil) rfl rfl (by decide) (by simp [Value.oneCell']) fun b17 hb17 nb17 => ?_)
   refine Ca (i := 0) rfl hb17 .here fun F18 hF19 hz20 => ?_
   replace hr := hr.mono hF19
   replace hle0 := Heap.le_trans hle0 hF19
   replace hX := hX.mono hF19
   replace hz4 := hF19 _ _ hz4
   replace hz11 := hF19 _ _ hz11
   have hsl21 := C1 hz20
   refine Aq rfl rfl (Aw rfl <| Ar rfl <| Ab) (by simp [hlen, h1]) ?_
   refine B0 rfl (Bg D7 A1 (.cons Ad (.cons (Ar rfl <| Ab) (.cons (Ab) .nil))) (Ch _ _ hsl21) (fun _ _ h => h)) ?_
   refine Aa rfl (A9 (Aw rfl <| Ar rfl <| Ak rfl <| Ab) (by simp [hlen, h1]) (Ab)) ?_
   refine Aa rfl (Af (Ab)) ?_
   refine Ah <| Ac ?_
   by_cases h2 : inB 0 (s.places.length - 1) q = true
   ·
    have h12 : (inB 0 (s.editions.length - 1) z && inB 0 (s.places.length - 1) q) = true := by rw [h1, h2]; rfl
    obtain ⟨x, rfl, hx⟩ := inB_nat h1
    obtain ⟨p, rfl, hp⟩ := inB_nat h2
    have hxp : x < ps.length := by omega
    have hrx := hr.rd hxp
    have hpx : p < (s.ed x).rd.length := by rw [hv.rdl x hx]; exact hp
    have er := Cu hpx
    have hrdl := hv.rdl x hx
    have hrb9 := hv.rd x p hx hp
    have e1 := hr.at hxp
    refine Ap (Ab) (by simp [h2]) ?_
    by_cases hc : costL s l = 1000
    ·
     refine Ag <| Ai fun ds => Aa rfl (Ae (A2 rfl <| Aw rfl <| Ak rfl <| Ab)) ?_
     refine Aa rfl (Bc B6 (A2 rfl <| Aw rfl <| Ar rfl <| Ak rfl <| Ab) rfl rfl (Cy hz11)) ?_
     refine WL_order (.cons (.here) <| .nil) ?_
     refine Bn rfl (x_callM bd_69 A1 (.cons (Ak rfl <| Ab) (.cons (Ab) .nil)) rfl (changes_ok hX ht hll hv KnownT.nil) fun v26 F27 H30 hr28 hF29 => ?_)
     obtain ⟨es2, rfl, rfl, hK2⟩ := hr28
     refine Aa rfl (Bz (Ab) Ad) ?_
     refine Aa rfl (Af (Ab)) ?_
     refine Ah <| Ac <| As (Ab) (by rw [hcv]; unfold costV; rw [if_pos hc]; rfl) ?_
     refine Ag <| Ai fun ds => Aa rfl (Af Ad) ?_
     refine Aa rfl (Af Ad) ?_
     refine Ah <| Ac <| A7 <| Bo (Be ?_)
     refine Ax rfl (.tmp (Ak rfl <| Ab) (.tmp (Ab) .nil)) ?_
     rw [readE_bad (readErr_3 hok h12 hc) (by decide)]
     exact ⟨_, rfl, Sl.nil⟩
    ·
     have hre := readErr_0 hok h12 hc
     refine Ag <| Ai fun ds => Aa rfl (Ae (A2 rfl <| Aw rfl <| Ak rfl <| Ab)) ?_
     refine Aa rfl (Bc B6 (A2 rfl <| Aw rfl <| Ar rfl <| Ak rfl <| Ab) rfl rfl (Cy hz11)) ?_
     refine WL_order (.cons (.here) <| .nil) ?_
     refine Bn rfl (x_callM bd_69 A1 (.cons (Ak rfl <| Ab) (.cons (Ab) .nil)) rfl (changes_ok hX ht hll hv KnownT.nil) fun v35 F36 H39 hr37 hF38 => ?_)
     replace hr := hr.mono hF38
     replace hle0 := Heap.le_trans hle0 hF38
     replace hX := hX.mono hF38
     replace hrx := hrx.mono hF38
     replace hz4 := hF38 _ _ hz4
     replace hz11 := hF38 _ _ hz11
     obtain ⟨es2, rfl, rfl, hK2⟩ := hr37
     refine Aa rfl (Bz (Ab) Ad) ?_
     refine Aa rfl (Af (Ab)) ?_
     refine Ah <| Ac <| Ap (Ab) (by rw [hcv]; unfold costV; rw [if_neg hc]; exact decide_eq_false (by omega)) ?_
     refine Ay <| Bf <| Ac <| Ag <| Ai fun ds => Aa rfl (Ae (A2 rfl <| A8 rfl <| Ar rfl <| Ab)) ?_
     refine Aa rfl (Bc B6 (A2 rfl <| A8 rfl <| Aw rfl <| Ab) rfl rfl (Cy hz11)) ?_
     refine Aa rfl (Ae (Ba rfl <| A8 rfl <| Aj rfl)) ?_
     refine B0 rfl (Bg bd_82 A1 (.cons (Ar rfl <| Ab) (.cons (Ak rfl <| Ab) (.cons (Ab) .nil))) (D3 hX ht hll hv hp) (fun _ _ h => h)) ?_
     refine Aa rfl (Af (Ab)) ?_
     refine Ah <| Ac <| Ag <| Ai fun ds => Aa rfl (Am Bq (Ba rfl <| A8 rfl <| Ar rfl <| Ab)) ?_
     refine Aa rfl (Ao By (Ab) (CellF.own hz4 rfl).cell) ?_
     refine Aa rfl (Ae (Ba rfl <| A8 rfl <| Aw rfl <| Ak rfl <| Aj rfl)) ?_
     refine Aa rfl (A6 (k := x) B3 (Ak rfl <| Ab) hr.eds.plain (Ab) rfl hxp) ?_
     refine Aa rfl (Bm B2 (Ab)) ?_
     refine Aa rfl (Ao B8 (Ab) (hr.eds.cell hxp rfl)) ?_
     refine Aa rfl (Ae (Ba rfl <| A2 rfl <| Ak rfl <| Aj rfl)) ?_
     refine Aa rfl (A6 (k := p) Bd (Ak rfl <| Ab) hrx.plain (Ab) rfl hpx) ?_
     refine Aa rfl (Ao Bj (Ab) (hrx.cell1 hpx rfl)) ?_
     refine Aa rfl (Af (Ab)) ?_
     refine Ah <| Ac <| Ag <| Ag <| Ai fun ds => Aa rfl (Ae Ad) ?_
     refine Ah <| Ac <| A0 <| Bv [8, 14, 15, 62, 63, 64, 65, 66, 67, 68, 69, 70, 71, 72, 73, 74, 75, 76, 77, 78, 79, 80, 81, 82, 83, 84, 85, 86, 87, 88, 89, 90, 91, 92, 93, 94, 95, 96, 97, 98, 99, 100, 101, 102, 103, 104, 105, 106, 107, 108, 109, 110, 111, 112, 113, 114, 115, 116, 117, 118, 119, 120, 121] (fun m e σ => ∃ G, F36.le G ∧ ∃ k : Nat, m + k = 3 ∧ e 62 = .int .i64 (k : Int) ∧ ∃ v8 R8, e 8 = v8 ∧ Own 3 1 v8 (readTo s l x p k).length ((readTo s l x p k).flatMap intE) R8 ∧ σ = ⟨G, (kb, mapO es2) :: R8⟩) (3) ?_ ?_
     · exact ⟨_, Heap.le_refl _, 0, by omega, (Ab), _, _, (Ba rfl <| A2 rfl <| Aw rfl <| Ab), Own.nil, rfl⟩
     ·
      rintro m e _ ⟨G, hFG, k, hm, hs62, v8, R8, hs8, ho, rfl⟩; have hrl := readTo_len (s := s) (l := l) (x := x) (p := p) (k := k); replace hr := hr.mono hFG; replace hX := hX.mono hFG; replace hrx := hrx.mono hFG; replace hz4 := hFG _ _ hz4; replace hz11 := hFG _ _ hz11; have hle0 := Heap.le_trans hle0 hFG
      by_cases hlt : k < 3
      ·
       refine Ag <| Ai fun ds => Aa rfl (Bw (At rfl hs62) Ad) ?_
       refine Ah <| Ac <| Ag <| As (Ab) (by first | rfl | exact decide_eq_true (by omega)) ?_
       by_cases hk0 : 0 < s.r x p
       ·
        refine Ay <| Ac <| Ag <| A0 <| Ag <| Ai fun ds => Aa rfl (Ae (Ak rfl <| At rfl hs62)) ?_
        refine Aa rfl (Af (Ab)) ?_
        refine Ah <| Ac <| Ag <| Ag <| Ai fun ds => Aa rfl (Ae (Ar rfl <| Ak rfl <| Al rfl <| Ak rfl <| Ab)) ?_
        refine Aa rfl (C2 (Ab) Ad) ?_
        refine Aa rfl (Ae (Ab)) ?_
        refine Aq rfl rfl (Ab) (by rw [er]; exact decide_eq_true hk0) ?_
        refine Aa rfl (Ae (Aw rfl <| Ar rfl <| Al rfl <| Ak rfl <| Ab)) ?_
        refine Aq rfl rfl (Ak rfl <| Ab) (by rw [er]; exact decide_eq_true hk0) ?_
        refine Aa rfl (Ae (Aw rfl <| Ab)) ?_
        refine Aq rfl rfl (Ar rfl <| Ab) (by rw [er]; exact decide_eq_true hk0) ?_
        refine Aa rfl (Bx (Ab) Ad rfl (by omega) (by omega)) ?_
        refine Aq rfl rfl (Ar rfl <| Ak rfl <| Ab) (by rw [er]; exact decide_eq_true hk0) ?_
        refine Aa rfl (B1 (Ar rfl <| Ab) (Ab)) ?_
        refine Aa rfl (A5 (Aw rfl <| Ab) (by rw [er]; exact decide_eq_true hk0) (Ab)) ?_
        refine Ah <| Ac ?_
        by_cases hke : s.r x p = (k : Int) + 1
        ·
         have hkn : (decide (s.r x p = 0) || decide (s.r x p = (k : Int) + 1)) = true := by rw [decide_eq_true hke]; simp
         refine Ap (Ab) (by rw [er]; exact decide_eq_false (fun h => h hke)) ?_
         have hvm := setS_valid (v := (k : Int) + 1) hv hx hp (by omega)
         refine Ay <| Ac <| Ag <| Ai fun ds => Aa rfl (Ae (A8 rfl <| Ar rfl <| Ak rfl <| Al rfl <| Ba rfl <| A8 rfl <| Ar rfl <| Ab)) ?_
         refine Aa rfl (B4 (Ab)) ?_
         refine Aa rfl (Bc agg_128 (Ab) rfl rfl (Cy hX.blk)) ?_
         refine Bn rfl (Ce zr_128 rfl fun b41 hb41 nb41 => ?_)
         refine Ck (Cg sz_128 (Ab) (Ak rfl <| Ab) (i := 0) rfl rfl rfl rfl hX.ones (.here) ?_)
         refine Ah <| Ac <| Ag <| Ai fun ds => Aa rfl (Ae (A8 rfl <| Aw rfl <| Ar rfl <| Ak rfl <| Al rfl <| Ba rfl <| A8 rfl <| Ar rfl <| Ab)) ?_
         refine Aa rfl (B4 (Ab)) ?_
         refine Aa rfl (Am Cc (Ab)) ?_
         refine Aa rfl (Am Bq (Ab)) ?_
         refine Aa rfl (Ao By (Ab) (CellF.own hX.blk rfl).cell) ?_
         refine Bn rfl (x_callNf bd_87 A1 (.cons (Ab) .nil) (cloneEd_own hX.r.eds hX.r.one (by omega)) fun v42 F43 R46 hr44 hF45 => ?_)
         replace hX := hX.mono hF45
         replace hrx := hrx.mono hF45
         replace hFG := Heap.le_trans hFG hF45
         replace hle0 := Heap.le_trans hle0 hF45
         replace hz11 := hF45 _ _ hz11
         have hoE := hr44
         refine Aa rfl (Am Cc (Aw rfl <| Ar rfl <| Ab)) ?_
         refine Aa rfl (Am Bq (Ab)) ?_
         refine WL_orderB (.one (.skip <| .here) <| .one (.skip <| .here) <| .blk (.lastS) <| .lastb (.last)) ?_
         refine Ck (Cl sz_23 (Ab) (Ar rfl <| Ab) (i := 0) rfl (.next <| .here) (Own.one hoE) (.here) ?_)
         refine Ah <| Ac <| Ag ?_
         have hleS := hle0
         refine Cr (.inl rfl) (fun _ _ h => h) (.cons_cons _ <| .cons_cons _ <| .refl _) [16] (by kernel_rfl) fun ds => ?_
         refine A3 0 rfl (by kernel_rfl) (by kernel_rfl) (by kernel_rfl) (by kernel_rfl) rfl rfl (fun _ h => h.drop (.cons_cons _ <| .cons_cons _ <| .refl _)) (fun _ _ _ h => h) (Am Cc (A8 rfl <| Ab)) ?_
         refine A3 1 rfl (by kernel_rfl) (by kernel_rfl) (by kernel_rfl) (by kernel_rfl) rfl rfl (fun _ h => h.drop (.cons_cons _ <| .cons_cons _ <| .refl _)) (fun _ _ _ h => h) (Am Bq (Ab)) ?_
         refine A3 2 rfl (by kernel_rfl) (by kernel_rfl) (by kernel_rfl) (by kernel_rfl) rfl rfl (fun _ h => h.drop (.cons_cons _ <| .cons_cons _ <| .refl _)) (fun _ _ _ h => h) (Ao By (Ab) (Cell.own 0 rfl rfl)) ?_
         refine A3 3 rfl (by kernel_rfl) (by kernel_rfl) (by kernel_rfl) (by kernel_rfl) rfl rfl (fun _ h => h.drop (.cons_cons _ <| .cons_cons _ <| .refl _)) (fun _ _ _ h => h) (Ae (A2 rfl <| A8 rfl <| Ar rfl <| Al rfl <| Ba rfl <| A2 rfl <| Aw rfl <| Ar rfl <| Aj rfl)) ?_
         refine A3 4 rfl (by kernel_rfl) (by kernel_rfl) (by kernel_rfl) (by kernel_rfl) rfl rfl (fun _ h => h.drop (.cons_cons _ <| .cons_cons _ <| .refl _)) (fun _ _ _ h => h) (Ae (A2 rfl <| A8 rfl <| Ar rfl <| Ak rfl <| Al rfl <| Ba rfl <| A8 rfl <| Ar rfl <| Ab)) ?_
         refine A3 5 rfl (by kernel_rfl) (by kernel_rfl) (by kernel_rfl) (by kernel_rfl) rfl rfl (fun _ h => h.drop (.cons_cons _ <| .cons_cons _ <| .refl _)) (fun _ _ _ h => h) (B4 (Ab)) ?_
         refine A3 6 rfl (by kernel_rfl) (by kernel_rfl) (by kernel_rfl) (by kernel_rfl) rfl rfl (fun _ h => h.drop (.cons_cons _ <| .cons_cons _ <| .refl _)) (fun _ _ _ h => h) (Am Cc (Ab)) ?_
         refine A3 7 rfl (by kernel_rfl) (by kernel_rfl) (by kernel_rfl) (by kernel_rfl) rfl rfl (fun _ h => h.drop (.cons_cons _ <| .cons_cons _ <| .refl _)) (fun _ _ _ h => h) (Am Bq (Ab)) ?_
         refine A3 8 rfl (by kernel_rfl) (by kernel_rfl) (by kernel_rfl) (by kernel_rfl) rfl rfl (fun _ h => h.drop (.cons_cons _ <| .cons_cons _ <| .refl _)) (fun _ _ _ h => h) (Ao By (Ab) (CellF.own hX.blk rfl).cell) ?_
         refine A3 9 rfl (by kernel_rfl) (by kernel_rfl) (by kernel_rfl) (by kernel_rfl) rfl rfl (fun _ h => h.drop (.cons_cons _ <| .cons_cons _ <| .refl _)) (fun _ _ _ h => h) (Ae (Ba rfl <| Al rfl <| Ba rfl <| A2 rfl <| Aw rfl <| Ar rfl <| Aj rfl)) ?_
         refine A3 10 rfl (by kernel_rfl) (by kernel_rfl) (by kernel_rfl) (by kernel_rfl) rfl rfl (fun _ h => h.drop (.cons_cons _ <| .cons_cons _ <| .refl _)) (fun _ _ _ h => h) (A6 (k := x) B3 (Ak rfl <| Ab) hX.r.eds.plain (Ab) rfl hxp) ?_
         refine A3 11 rfl (by kernel_rfl) (by kernel_rfl) (by kernel_rfl) (by kernel_rfl) rfl rfl (fun _ h => h.drop (.cons_cons _ <| .cons_cons _ <| .refl _)) (fun _ _ _ h => h) (Bm B2 (Ab)) ?_
         refine A3 12 rfl (by kernel_rfl) (by kernel_rfl) (by kernel_rfl) (by kernel_rfl) rfl rfl (fun _ h => h.drop (.cons_cons _ <| .cons_cons _ <| .refl _)) (fun _ _ _ h => h) (Ao B8 (Ab) (hX.r.eds.cell hxp rfl)) ?_
         refine WX_x 13 rfl (by kernel_rfl) rfl (x_callNf bd_76 A1 (.cons (Ab) .nil) (cloneInt_own hrx (by omega)) fun v47 F48 R51 hr49 hF50 => ⟨fun _ _ _ h => (h.drop (List.sublist_append_of_sublist_right <| .cons_cons _ <| .cons_cons _ <| .refl _)).weak hF50 hleS, ?_⟩)
         replace hX := hX.mono hF50
         replace hFG := Heap.le_trans hFG hF50
         replace hz11 := hF50 _ _ hz11
         have hoR := hr49
         refine A3 14 rfl (by kernel_rfl) (by kernel_rfl) (by kernel_rfl) (by kernel_rfl) rfl rfl (fun _ h => (h.drop (List.sublist_append_of_sublist_right <| .cons_cons _ <| .cons_cons _ <| .refl _)).weak hF50 hleS) (fun _ _ _ h => h) (A6 (k := x) B3 (A8 rfl <| Ar rfl <| Ak rfl <| Ab) (hoE.plain (by omega)) (A8 rfl <| Ar rfl <| Ab) rfl hxp) ?_
         refine A3 15 rfl (by kernel_rfl) (by kernel_rfl) (by kernel_rfl) (by kernel_rfl) rfl rfl (fun _ h => (h.drop (List.sublist_append_of_sublist_right <| .cons_cons _ <| .cons_cons _ <| .refl _)).weak hF50 hleS) (fun _ _ _ h => h) (Bm B2 (Ab)) ?_
         refine WX_orderB (.one (.skip <| .here) <| .one (.skip <| .here) <| .blk (.skip <| .here) <| .blk (.lastS) <| .lastb (.last)) ?_
         refine WX_x0 16 rfl (by kernel_rfl) (x_storeR sz_26 (Ab) (Ar rfl <| Ab) hoE (by rw [Ep edE_len]; omega) (Own.one hoR) (.s <| .s <| .k <| .z) .more fun R52 ho53 => ⟨(fun h => nomatch h), ?_⟩)
         have hoE2 := ed_own_set (e := (s.ed x).setR p ((k : Int) + 1)) ho53 hxp (by rw [e1]; rfl) (by rw [e1]; rfl) (by rw [e1]; rfl)
         refine Cz (by kernel_rfl) ?_ _
         refine Ac <| Ag <| Ai fun ds => Aa rfl (Am Cc (A2 rfl <| A8 rfl <| Ab)) ?_
         refine Aa rfl (Am Bq (Ab)) ?_
         refine Aa rfl (Ao By (Ab) (Cell.own 0 rfl rfl)) ?_
         refine Aa rfl (Ae (Ba rfl <| A8 rfl <| Ar rfl <| Al rfl <| Ba rfl <| A2 rfl <| Aw rfl <| Ar rfl <| Aj rfl)) ?_
         refine Aa rfl (A6 (k := x) B3 (Ak rfl <| Ab) (hoE2.plain (by rw [List.length_set]; omega)) (Ab) rfl (by simp; omega)) ?_
         refine Aa rfl (Bm B2 (Ab)) ?_
         refine Aa rfl (Ao B8 (Ab) (Dm hoE2 (fun p hp => .tail _ (.tail _ (List.mem_append_right _ (List.mem_append_left _ hp)))) (ed_set_get hxp))) ?_
         refine Aa rfl (Ae (Ba rfl <| A8 rfl <| Aw rfl <| Ar rfl <| Al rfl <| Ba rfl <| A2 rfl <| Aw rfl <| Ar rfl <| Aj rfl)) ?_
         refine Aa rfl (Ae (Ba rfl <| A8 rfl <| Aw rfl <| Ab)) ?_
         refine Aa rfl (Bx (Ab) Ad rfl (by omega) (by omega)) ?_
         refine Aa rfl (A6 (k := p) Bd (Ar rfl <| Ak rfl <| Ab) (hoR.plain (by omega)) (Ar rfl <| Ab) rfl hpx) ?_
         refine Ck (x_storeR sz_3 (Ab) (Ak rfl <| Ab) hoR (by rw [Ep (enc := intE) (s := 1) (fun _ => rfl)]; omega) rfl (.s <| .s <| .k <| .k <| .z) .last fun R54 ho55 => ?_)
         have hoR2 := ho55
         rw [show p * 1 = p * 1 + 0 from rfl, int_flat_set hpx] at hoR2
         replace hoR2 := hoR2.to (k' := ((s.ed x).rd.set p ((k : Int) + 1)).length) (by simp)
         refine Ah <| Ac <| Ag <| Cw (σ := ⟨_, _⟩) (by rfl) hoR2 (.s <| .s <| .k <| .k <| .z) .last fun F56 hF57 hz58 => ?_
         replace hX := hX.mono hF57
         replace hFG := Heap.le_trans hFG hF57
         replace hz11 := hF57 _ _ hz11
         refine WC_pickB (.one (.here) <| .one (.here) <| .blk (.here) <| .lastb (.here)) ?_
         have hrn := hoR2.sl (fun _ => rfl) hz58 (by simp; omega)
         refine Cw (σ := ⟨_, _⟩) (by rfl) hoE2 (.s <| .s <| .k <| .z) .last fun F59 hF60 hz61 => ?_
         replace hX := hX.mono hF60
         replace hFG := Heap.le_trans hFG hF60
         replace hrn := hrn.mono hF60
         replace hz11 := hF60 _ _ hz11
         refine WC_pickB (.one (.here) <| .one (.here) <| .lastb (.here)) ?_
         have hen := hoE2.sl (fun _ => rfl) hz61 (by simp; omega)
         refine Cf (i := 0) rfl hb41 (.here) fun F62 hF63 hz15 => ?_
         replace hX := hX.mono hF63
         replace hFG := Heap.le_trans hFG hF63
         replace hrn := hrn.mono hF63
         replace hen := hen.mono hF63
         replace hz11 := hF63 _ _ hz11
         have hXm : StmX _ _ _ _ _ _ (setS s x p ((k : Int) + 1)) := ⟨hX.r.set hen hrn, hz15⟩
         by_cases hpl : decide (placeN (setS s x p ((k : Int) + 1)) l p = placeN s l p) = true
         ·
          have hrb : readB s l x p k = true := by unfold readB; rw [hkn, hpl]; rfl
          refine Ai fun ds => Aa rfl (Bc B6 (Ba rfl <| A2 rfl <| Ar rfl <| Al rfl <| Ba rfl <| A8 rfl <| Ar rfl <| Ak rfl <| Ab) rfl rfl (Cy hz11)) ?_
          refine Aa rfl (Ae (Ba rfl <| A2 rfl <| Ar rfl <| Ak rfl <| Al rfl <| Ba rfl <| A2 rfl <| Aw rfl <| Ar rfl <| Aj rfl)) ?_
          refine B0 rfl (Bg bd_82 A1 (.cons (Ba rfl <| Aw rfl <| Ak rfl <| Ab) (.cons (Ak rfl <| Ab) (.cons (Ab) .nil))) (D3 hXm ht (by rw [setS_len]; exact hll) hvm hp) (fun _ _ h => h)) ?_
          refine Aa rfl (Ae (Ba rfl <| A2 rfl <| Aw rfl <| Ak rfl <| Al rfl <| A8 rfl <| Ar rfl <| Ak rfl <| Ab)) ?_
          refine Aa rfl (Bz (Ak rfl <| Ab) (Ab)) ?_
          refine Ah <| Ac <| As (Ab) hpl ?_
          refine Ai fun ds => Aa rfl (Ae (Ba rfl <| A2 rfl <| Aw rfl <| Ar rfl <| Ak rfl <| At rfl hs8)) ?_
          refine Aa rfl (Ae (Ba rfl <| A2 rfl <| Aw rfl <| Ak rfl <| Ab)) ?_
          refine Aa rfl (Bx (Ab) Ad rfl (by omega) (by omega)) ?_
          refine Bn rfl (Cb Bd Db rfl (.cons (Ab) .nil) rfl rfl (by decide) (by simp [Value.oneCell']) fun b64 hb64 nb64 => ?_)
          refine Ca (i := 0) rfl hb64 .here fun F65 hF66 hz67 => ?_
          replace hFG := Heap.le_trans hFG hF66
          have hsl68 := C1 hz67
          refine Bn rfl (Co Bd el_3 (Ar rfl <| Ak rfl <| Ab) ho (Ab) hsl68.srcInt (by simp only [List.length_singleton]; omega) (by simp only [List.length_singleton]; omega) (.s <| .z) .last fun v69 R70 ho71 => ?_)
          have ho2 := ho71.snoc (x := (k : Int) + 1) rfl rfl
          refine Aa rfl (Af (Ab)) ?_
          refine Ah <| Bf <| Ac <| Ai fun ds => Aa rfl (Bx (Ba rfl <| A2 rfl <| A8 rfl <| Aw rfl <| Ak rfl <| At rfl hs62) Ad rfl (by omega) (by omega)) ?_
          refine Aa rfl (Ae (Ab)) ?_
          refine Ah <| Ac ⟨_, m - 1, Off.eq (ou32 rfl <| C7 rfl <| D5 rfl <| Ed rfl <| ou2 rfl <| D0 rfl <| Bi), by omega, ?_⟩
          exact ⟨_, hFG, k + 1, by omega, (Ab), _, _, (Ar rfl <| Ab), by rw [readTo_succ, if_pos hrb]; exact ho2, rfl⟩
         ·
          replace hpl : decide (placeN (setS s x p ((k : Int) + 1)) l p = placeN s l p) = false := by simpa using hpl
          have hrb : readB s l x p k = false := by unfold readB; rw [hpl]; simp
          refine Ai fun ds => Aa rfl (Bc B6 (Ba rfl <| A2 rfl <| Ar rfl <| Al rfl <| Ba rfl <| A8 rfl <| Ar rfl <| Ak rfl <| Ab) rfl rfl (Cy hz11)) ?_
          refine Aa rfl (Ae (Ba rfl <| A2 rfl <| Ar rfl <| Ak rfl <| Al rfl <| Ba rfl <| A2 rfl <| Aw rfl <| Ar rfl <| Aj rfl)) ?_
          refine B0 rfl (Bg bd_82 A1 (.cons (Ba rfl <| Aw rfl <| Ak rfl <| Ab) (.cons (Ak rfl <| Ab) (.cons (Ab) .nil))) (D3 hXm ht (by rw [setS_len]; exact hll) hvm hp) (fun _ _ h => h)) ?_
          refine Aa rfl (Ae (Ba rfl <| A2 rfl <| Aw rfl <| Ak rfl <| Al rfl <| A8 rfl <| Ar rfl <| Ak rfl <| Ab)) ?_
          refine Aa rfl (Bz (Ak rfl <| Ab) (Ab)) ?_
          refine Ah <| Ac <| Ap (Ab) hpl ?_
          refine Ay <| Bf <| Ac <| Ai fun ds => Aa rfl (Bx (Ba rfl <| A2 rfl <| Aw rfl <| Ar rfl <| Ak rfl <| At rfl hs62) Ad rfl (by omega) (by omega)) ?_
          refine Aa rfl (Ae (Ab)) ?_
          refine Ah <| Ac ⟨_, m - 1, Off.eq (ou32 rfl <| C7 rfl <| D5 rfl <| D0 rfl <| Bi), by omega, ?_⟩
          exact ⟨_, hFG, k + 1, by omega, (Ab), _, _, (Ba rfl <| A2 rfl <| A8 rfl <| Ak rfl <| At rfl hs8), by rw [readTo_succ, if_neg (by rw [hrb]; simp)]; exact ho, rfl⟩
        ·
         have hrb : readB s l x p k = false := by unfold readB; rw [decide_eq_false (show ¬ s.r x p = 0 by omega), decide_eq_false (show ¬ s.r x p = (k : Int) + 1 by omega)]; rfl
         refine As (Ab) (by rw [er]; exact decide_eq_true hke) ?_
         refine Bs ?_
         refine Bh (Bk ?_)
         refine Ac <| Ai fun ds => Aa rfl (Bx (A8 rfl <| Ar rfl <| Ak rfl <| At rfl hs62) Ad rfl (by omega) (by omega)) ?_
         refine Aa rfl (Ae (Ab)) ?_
         refine Ah <| Ac ⟨_, m - 1, Off.eq (D5 rfl <| Ed rfl <| D0 rfl <| Bi), by omega, ?_⟩
         exact ⟨_, hFG, k + 1, by omega, (Ab), _, _, (A8 rfl <| Aw rfl <| Ak rfl <| At rfl hs8), by rw [readTo_succ, if_neg (by rw [hrb]; simp)]; exact ho, rfl⟩
       ·
        have hkn : (decide (s.r x p = 0) || decide (s.r x p = (k : Int) + 1)) = true := by rw [decide_eq_true (show s.r x p = 0 by omega)]; rfl
        refine Ay <| Ac <| Ag <| A0 <| Ag <| Ai fun ds => Aa rfl (Ae (Ak rfl <| At rfl hs62)) ?_
        refine Aa rfl (Af (Ab)) ?_
        refine Ah <| Ac <| Ag <| Ag <| Ai fun ds => Aa rfl (Ae (Ar rfl <| Ak rfl <| Al rfl <| Ak rfl <| Ab)) ?_
        refine Aa rfl (C2 (Ab) Ad) ?_
        refine Aa rfl (Ae (Ab)) ?_
        refine Au rfl rfl (Ab) (.inl (congrArg Value.bool (by rw [er]; exact decide_eq_false hk0))) rfl ?_
        refine Au rfl rfl (Ak rfl <| Ab) (.inl (congrArg Value.bool (by rw [er]; exact decide_eq_false hk0))) rfl ?_
        refine Au rfl rfl (Ar rfl <| Ab) (.inl (congrArg Value.bool (by rw [er]; exact decide_eq_false hk0))) rfl ?_
        refine Au rfl rfl (Ar rfl <| Ak rfl <| Ab) (.inl (congrArg Value.bool (by rw [er]; exact decide_eq_false hk0))) rfl ?_
        refine Aa rfl (A9 (Aw rfl <| Ab) (by rw [er]; exact decide_eq_false hk0) Ad) ?_
        refine Ah <| Ac <| Ap (Ab) rfl ?_
        have hvm := setS_valid (v := (k : Int) + 1) hv hx hp (by omega)
        refine Ay <| Ac <| Ag <| Ai fun ds => Aa rfl (Ae (A8 rfl <| Ar rfl <| Ak rfl <| Al rfl <| Ba rfl <| A8 rfl <| Ar rfl <| Ab)) ?_
        refine Aa rfl (B4 (Ab)) ?_
        refine Aa rfl (Bc agg_128 (Ab) rfl rfl (Cy hX.blk)) ?_
        refine Bn rfl (Ce zr_128 rfl fun b72 hb72 nb72 => ?_)
        refine Ck (Cg sz_128 (Ab) (Ak rfl <| Ab) (i := 0) rfl rfl rfl rfl hX.ones (.here) ?_)
        refine Ah <| Ac <| Ag <| Ai fun ds => Aa rfl (Ae (A8 rfl <| Aw rfl <| Ar rfl <| Ak rfl <| Al rfl <| Ba rfl <| A8 rfl <| Ar rfl <| Ab)) ?_
        refine Aa rfl (B4 (Ab)) ?_
        refine Aa rfl (Am Cc (Ab)) ?_
        refine Aa rfl (Am Bq (Ab)) ?_
        refine Aa rfl (Ao By (Ab) (CellF.own hX.blk rfl).cell) ?_
        refine Bn rfl (x_callNf bd_87 A1 (.cons (Ab) .nil) (cloneEd_own hX.r.eds hX.r.one (by omega)) fun v73 F74 R77 hr75 hF76 => ?_)
        replace hX := hX.mono hF76
        replace hrx := hrx.mono hF76
        replace hFG := Heap.le_trans hFG hF76
        replace hle0 := Heap.le_trans hle0 hF76
        replace hz11 := hF76 _ _ hz11
        have hoE := hr75
        refine Aa rfl (Am Cc (Aw rfl <| Ar rfl <| Ab)) ?_
        refine Aa rfl (Am Bq (Ab)) ?_
        refine WL_orderB (.one (.skip <| .here) <| .one (.skip <| .here) <| .blk (.lastS) <| .lastb (.last)) ?_
        refine Ck (Cl sz_23 (Ab) (Ar rfl <| Ab) (i := 0) rfl (.next <| .here) (Own.one hoE) (.here) ?_)
        refine Ah <| Ac <| Ag ?_
        have hleS := hle0
        refine Cr (.inl rfl) (fun _ _ h => h) (.cons_cons _ <| .cons_cons _ <| .refl _) [16] (by kernel_rfl) fun ds => ?_
        refine A3 0 rfl (by kernel_rfl) (by kernel_rfl) (by kernel_rfl) (by kernel_rfl) rfl rfl (fun _ h => h.drop (.cons_cons _ <| .cons_cons _ <| .refl _)) (fun _ _ _ h => h) (Am Cc (A8 rfl <| Ab)) ?_
        refine A3 1 rfl (by kernel_rfl) (by kernel_rfl) (by kernel_rfl) (by kernel_rfl) rfl rfl (fun _ h => h.drop (.cons_cons _ <| .cons_cons _ <| .refl _)) (fun _ _ _ h => h) (Am Bq (Ab)) ?_
        refine A3 2 rfl (by kernel_rfl) (by kernel_rfl) (by kernel_rfl) (by kernel_rfl) rfl rfl (fun _ h => h.drop (.cons_cons _ <| .cons_cons _ <| .refl _)) (fun _ _ _ h => h) (Ao By (Ab) (Cell.own 0 rfl rfl)) ?_
        refine A3 3 rfl (by kernel_rfl) (by kernel_rfl) (by kernel_rfl) (by kernel_rfl) rfl rfl (fun _ h => h.drop (.cons_cons _ <| .cons_cons _ <| .refl _)) (fun _ _ _ h => h) (Ae (A2 rfl <| A8 rfl <| Ar rfl <| Al rfl <| Ba rfl <| A2 rfl <| Aw rfl <| Ar rfl <| Aj rfl)) ?_
        refine A3 4 rfl (by kernel_rfl) (by kernel_rfl) (by kernel_rfl) (by kernel_rfl) rfl rfl (fun _ h => h.drop (.cons_cons _ <| .cons_cons _ <| .refl _)) (fun _ _ _ h => h) (Ae (A2 rfl <| A8 rfl <| Ar rfl <| Ak rfl <| Al rfl <| Ba rfl <| A8 rfl <| Ar rfl <| Ab)) ?_
        refine A3 5 rfl (by kernel_rfl) (by kernel_rfl) (by kernel_rfl) (by kernel_rfl) rfl rfl (fun _ h => h.drop (.cons_cons _ <| .cons_cons _ <| .refl _)) (fun _ _ _ h => h) (B4 (Ab)) ?_
        refine A3 6 rfl (by kernel_rfl) (by kernel_rfl) (by kernel_rfl) (by kernel_rfl) rfl rfl (fun _ h => h.drop (.cons_cons _ <| .cons_cons _ <| .refl _)) (fun _ _ _ h => h) (Am Cc (Ab)) ?_
        refine A3 7 rfl (by kernel_rfl) (by kernel_rfl) (by kernel_rfl) (by kernel_rfl) rfl rfl (fun _ h => h.drop (.cons_cons _ <| .cons_cons _ <| .refl _)) (fun _ _ _ h => h) (Am Bq (Ab)) ?_
        refine A3 8 rfl (by kernel_rfl) (by kernel_rfl) (by kernel_rfl) (by kernel_rfl) rfl rfl (fun _ h => h.drop (.cons_cons _ <| .cons_cons _ <| .refl _)) (fun _ _ _ h => h) (Ao By (Ab) (CellF.own hX.blk rfl).cell) ?_
        refine A3 9 rfl (by kernel_rfl) (by kernel_rfl) (by kernel_rfl) (by kernel_rfl) rfl rfl (fun _ h => h.drop (.cons_cons _ <| .cons_cons _ <| .refl _)) (fun _ _ _ h => h) (Ae (Ba rfl <| Al rfl <| Ba rfl <| A2 rfl <| Aw rfl <| Ar rfl <| Aj rfl)) ?_
        refine A3 10 rfl (by kernel_rfl) (by kernel_rfl) (by kernel_rfl) (by kernel_rfl) rfl rfl (fun _ h => h.drop (.cons_cons _ <| .cons_cons _ <| .refl _)) (fun _ _ _ h => h) (A6 (k := x) B3 (Ak rfl <| Ab) hX.r.eds.plain (Ab) rfl hxp) ?_
        refine A3 11 rfl (by kernel_rfl) (by kernel_rfl) (by kernel_rfl) (by kernel_rfl) rfl rfl (fun _ h => h.drop (.cons_cons _ <| .cons_cons _ <| .refl _)) (fun _ _ _ h => h) (Bm B2 (Ab)) ?_
        refine A3 12 rfl (by kernel_rfl) (by kernel_rfl) (by kernel_rfl) (by kernel_rfl) rfl rfl (fun _ h => h.drop (.cons_cons _ <| .cons_cons _ <| .refl _)) (fun _ _ _ h => h) (Ao B8 (Ab) (hX.r.eds.cell hxp rfl)) ?_
        refine WX_x 13 rfl (by kernel_rfl) rfl (x_callNf bd_76 A1 (.cons (Ab) .nil) (cloneInt_own hrx (by omega)) fun v78 F79 R82 hr80 hF81 => ⟨fun _ _ _ h => (h.drop (List.sublist_append_of_sublist_right <| .cons_cons _ <| .cons_cons _ <| .refl _)).weak hF81 hleS, ?_⟩)
        replace hX := hX.mono hF81
        replace hFG := Heap.le_trans hFG hF81
        replace hz11 := hF81 _ _ hz11
        have hoR := hr80
        refine A3 14 rfl (by kernel_rfl) (by kernel_rfl) (by kernel_rfl) (by kernel_rfl) rfl rfl (fun _ h => (h.drop (List.sublist_append_of_sublist_right <| .cons_cons _ <| .cons_cons _ <| .refl _)).weak hF81 hleS) (fun _ _ _ h => h) (A6 (k := x) B3 (A8 rfl <| Ar rfl <| Ak rfl <| Ab) (hoE.plain (by omega)) (A8 rfl <| Ar rfl <| Ab) rfl hxp) ?_
        refine A3 15 rfl (by kernel_rfl) (by kernel_rfl) (by kernel_rfl) (by kernel_rfl) rfl rfl (fun _ h => (h.drop (List.sublist_append_of_sublist_right <| .cons_cons _ <| .cons_cons _ <| .refl _)).weak hF81 hleS) (fun _ _ _ h => h) (Bm B2 (Ab)) ?_
        refine WX_orderB (.one (.skip <| .here) <| .one (.skip <| .here) <| .blk (.skip <| .here) <| .blk (.lastS) <| .lastb (.last)) ?_
        refine WX_x0 16 rfl (by kernel_rfl) (x_storeR sz_26 (Ab) (Ar rfl <| Ab) hoE (by rw [Ep edE_len]; omega) (Own.one hoR) (.s <| .s <| .k <| .z) .more fun R83 ho84 => ⟨(fun h => nomatch h), ?_⟩)
        have hoE2 := ed_own_set (e := (s.ed x).setR p ((k : Int) + 1)) ho84 hxp (by rw [e1]; rfl) (by rw [e1]; rfl) (by rw [e1]; rfl)
        refine Cz (by kernel_rfl) ?_ _
        refine Ac <| Ag <| Ai fun ds => Aa rfl (Am Cc (A2 rfl <| A8 rfl <| Ab)) ?_
        refine Aa rfl (Am Bq (Ab)) ?_
        refine Aa rfl (Ao By (Ab) (Cell.own 0 rfl rfl)) ?_
        refine Aa rfl (Ae (Ba rfl <| A8 rfl <| Ar rfl <| Al rfl <| Ba rfl <| A2 rfl <| Aw rfl <| Ar rfl <| Aj rfl)) ?_
        refine Aa rfl (A6 (k := x) B3 (Ak rfl <| Ab) (hoE2.plain (by rw [List.length_set]; omega)) (Ab) rfl (by simp; omega)) ?_
        refine Aa rfl (Bm B2 (Ab)) ?_
        refine Aa rfl (Ao B8 (Ab) (Dm hoE2 (fun p hp => .tail _ (.tail _ (List.mem_append_right _ (List.mem_append_left _ hp)))) (ed_set_get hxp))) ?_
        refine Aa rfl (Ae (Ba rfl <| A8 rfl <| Aw rfl <| Ar rfl <| Al rfl <| Ba rfl <| A2 rfl <| Aw rfl <| Ar rfl <| Aj rfl)) ?_
        refine Aa rfl (Ae (Ba rfl <| A8 rfl <| Aw rfl <| Ab)) ?_
        refine Aa rfl (Bx (Ab) Ad rfl (by omega) (by omega)) ?_
        refine Aa rfl (A6 (k := p) Bd (Ar rfl <| Ak rfl <| Ab) (hoR.plain (by omega)) (Ar rfl <| Ab) rfl hpx) ?_
        refine Ck (x_storeR sz_3 (Ab) (Ak rfl <| Ab) hoR (by rw [Ep (enc := intE) (s := 1) (fun _ => rfl)]; omega) rfl (.s <| .s <| .k <| .k <| .z) .last fun R85 ho86 => ?_)
        have hoR2 := ho86
        rw [show p * 1 = p * 1 + 0 from rfl, int_flat_set hpx] at hoR2
        replace hoR2 := hoR2.to (k' := ((s.ed x).rd.set p ((k : Int) + 1)).length) (by simp)
        refine Ah <| Ac <| Ag <| Cw (σ := ⟨_, _⟩) (by rfl) hoR2 (.s <| .s <| .k <| .k <| .z) .last fun F87 hF88 hz89 => ?_
        replace hX := hX.mono hF88
        replace hFG := Heap.le_trans hFG hF88
        replace hz11 := hF88 _ _ hz11
        refine WC_pickB (.one (.here) <| .one (.here) <| .blk (.here) <| .lastb (.here)) ?_
        have hrn := hoR2.sl (fun _ => rfl) hz89 (by simp; omega)
        refine Cw (σ := ⟨_, _⟩) (by rfl) hoE2 (.s <| .s <| .k <| .z) .last fun F90 hF91 hz92 => ?_
        replace hX := hX.mono hF91
        replace hFG := Heap.le_trans hFG hF91
        replace hrn := hrn.mono hF91
        replace hz11 := hF91 _ _ hz11
        refine WC_pickB (.one (.here) <| .one (.here) <| .lastb (.here)) ?_
        have hen := hoE2.sl (fun _ => rfl) hz92 (by simp; omega)
        refine Cf (i := 0) rfl hb72 (.here) fun F93 hF94 hz15 => ?_
        replace hX := hX.mono hF94
        replace hFG := Heap.le_trans hFG hF94
        replace hrn := hrn.mono hF94
        replace hen := hen.mono hF94
        replace hz11 := hF94 _ _ hz11
        have hXm : StmX _ _ _ _ _ _ (setS s x p ((k : Int) + 1)) := ⟨hX.r.set hen hrn, hz15⟩
        by_cases hpl : decide (placeN (setS s x p ((k : Int) + 1)) l p = placeN s l p) = true
        ·
         have hrb : readB s l x p k = true := by unfold readB; rw [hkn, hpl]; rfl
         refine Ai fun ds => Aa rfl (Bc B6 (Ba rfl <| A2 rfl <| Ar rfl <| Al rfl <| Ba rfl <| A8 rfl <| Ar rfl <| Ak rfl <| Ab) rfl rfl (Cy hz11)) ?_
         refine Aa rfl (Ae (Ba rfl <| A2 rfl <| Ar rfl <| Ak rfl <| Al rfl <| Ba rfl <| A2 rfl <| Aw rfl <| Ar rfl <| Aj rfl)) ?_
         refine B0 rfl (Bg bd_82 A1 (.cons (Ba rfl <| Aw rfl <| Ak rfl <| Ab) (.cons (Ak rfl <| Ab) (.cons (Ab) .nil))) (D3 hXm ht (by rw [setS_len]; exact hll) hvm hp) (fun _ _ h => h)) ?_
         refine Aa rfl (Ae (Ba rfl <| A2 rfl <| Aw rfl <| Ak rfl <| Al rfl <| A8 rfl <| Ar rfl <| Ak rfl <| Ab)) ?_
         refine Aa rfl (Bz (Ak rfl <| Ab) (Ab)) ?_
         refine Ah <| Ac <| As (Ab) hpl ?_
         refine Ai fun ds => Aa rfl (Ae (Ba rfl <| A2 rfl <| Aw rfl <| Ar rfl <| Ak rfl <| At rfl hs8)) ?_
         refine Aa rfl (Ae (Ba rfl <| A2 rfl <| Aw rfl <| Ak rfl <| Ab)) ?_
         refine Aa rfl (Bx (Ab) Ad rfl (by omega) (by omega)) ?_
         refine Bn rfl (Cb Bd Db rfl (.cons (Ab) .nil) rfl rfl (by decide) (by simp [Value.oneCell']) fun b95 hb95 nb95 => ?_)
         refine Ca (i := 0) rfl hb95 .here fun F96 hF97 hz98 => ?_
         replace hFG := Heap.le_trans hFG hF97
         have hsl99 := C1 hz98
         refine Bn rfl (Co Bd el_3 (Ar rfl <| Ak rfl <| Ab) ho (Ab) hsl99.srcInt (by simp only [List.length_singleton]; omega) (by simp only [List.length_singleton]; omega) (.s <| .z) .last fun v100 R101 ho102 => ?_)
         have ho2 := ho102.snoc (x := (k : Int) + 1) rfl rfl
         refine Aa rfl (Af (Ab)) ?_
         refine Ah <| Bf <| Ac <| Ai fun ds => Aa rfl (Bx (Ba rfl <| A2 rfl <| A8 rfl <| Aw rfl <| Ak rfl <| At rfl hs62) Ad rfl (by omega) (by omega)) ?_
         refine Aa rfl (Ae (Ab)) ?_
         refine Ah <| Ac ⟨_, m - 1, Off.eq (ou32 rfl <| C7 rfl <| D5 rfl <| Ed rfl <| ou2 rfl <| D0 rfl <| Bi), by omega, ?_⟩
         exact ⟨_, hFG, k + 1, by omega, (Ab), _, _, (Ar rfl <| Ab), by rw [readTo_succ, if_pos hrb]; exact ho2, rfl⟩
        ·
         replace hpl : decide (placeN (setS s x p ((k : Int) + 1)) l p = placeN s l p) = false := by simpa using hpl
         have hrb : readB s l x p k = false := by unfold readB; rw [hpl]; simp
         refine Ai fun ds => Aa rfl (Bc B6 (Ba rfl <| A2 rfl <| Ar rfl <| Al rfl <| Ba rfl <| A8 rfl <| Ar rfl <| Ak rfl <| Ab) rfl rfl (Cy hz11)) ?_
         refine Aa rfl (Ae (Ba rfl <| A2 rfl <| Ar rfl <| Ak rfl <| Al rfl <| Ba rfl <| A2 rfl <| Aw rfl <| Ar rfl <| Aj rfl)) ?_
         refine B0 rfl (Bg bd_82 A1 (.cons (Ba rfl <| Aw rfl <| Ak rfl <| Ab) (.cons (Ak rfl <| Ab) (.cons (Ab) .nil))) (D3 hXm ht (by rw [setS_len]; exact hll) hvm hp) (fun _ _ h => h)) ?_
         refine Aa rfl (Ae (Ba rfl <| A2 rfl <| Aw rfl <| Ak rfl <| Al rfl <| A8 rfl <| Ar rfl <| Ak rfl <| Ab)) ?_
         refine Aa rfl (Bz (Ak rfl <| Ab) (Ab)) ?_
         refine Ah <| Ac <| Ap (Ab) hpl ?_
         refine Ay <| Bf <| Ac <| Ai fun ds => Aa rfl (Bx (Ba rfl <| A2 rfl <| Aw rfl <| Ar rfl <| Ak rfl <| At rfl hs62) Ad rfl (by omega) (by omega)) ?_
         refine Aa rfl (Ae (Ab)) ?_
         refine Ah <| Ac ⟨_, m - 1, Off.eq (ou32 rfl <| C7 rfl <| D5 rfl <| D0 rfl <| Bi), by omega, ?_⟩
         exact ⟨_, hFG, k + 1, by omega, (Ab), _, _, (Ba rfl <| A2 rfl <| A8 rfl <| Ak rfl <| At rfl hs8), by rw [readTo_succ, if_neg (by rw [hrb]; simp)]; exact ho, rfl⟩
      ·
       refine Ag <| Ai fun ds => Aa rfl (Bw (At rfl hs62) Ad) ?_
       refine Ah <| Ac <| Ag <| Ap (Ab) (by first | rfl | exact decide_eq_false (by omega)) ?_
       obtain rfl : k = 3 := by omega
       refine Cw (σ := ⟨_, _⟩) (by rfl) ho (.s <| .z) .last fun F103 hF104 hz105 => ?_
       have hn8 := ho.sl (fun _ => rfl) hz105 (by have := readTo_len (s := s) (l := l) (x := x) (p := p) (k := 3); omega)
       refine Bs ?_
       refine Bh <| Bh <| Bk <| Ac <| Ag <| Ai fun ds => Aa rfl (Ae (Ak rfl <| At rfl hs8)) ?_
       refine Aa rfl (Af (Ab)) ?_
       refine Aa rfl (Af Ad) ?_
       refine Ah <| Ac <| A7 <| Ax rfl (.tmp (Ak rfl <| Ab) (.tmp (Ab) .nil)) ?_
       rw [readE_ok hre, Int.toNat_natCast, Int.toNat_natCast]
       exact ⟨_, rfl, hn8⟩
   ·
    replace h2 : inB 0 (s.places.length - 1) q = false := by simpa using h2
    refine As (Ab) (by simp [h2]) ?_
    refine Ag <| Ai fun ds => Aa rfl (Af Ad) ?_
    refine Aa rfl (Af Ad) ?_
    refine Ah <| Ac <| A7 <| Bo (Be ?_)
    refine Ax rfl (.tmp (Ak rfl <| Ab) (.tmp (Ab) .nil)) ?_
    rw [readE_bad (readErr_2 hok (by rw [h1, h2]; rfl)) (by decide)]
    exact ⟨_, rfl, Sl.nil⟩
  ·
   replace h1 : inB 0 (s.editions.length - 1) z = false := by simpa using h1
   refine Ag <| Ai fun ds => Aa rfl (Am Bq (A8 rfl <| Aw rfl <| Ar rfl <| Ak rfl <| Ab)) ?_
   refine Aa rfl (Ao By (Ab) (CellF.own hz4 rfl).cell) ?_
   refine Aa rfl (Bl B3 (Ab) hr.eds.plain) ?_
   refine Aa rfl (q_sub (Ab) Ad rfl (by omega) (by omega)) ?_
   refine Aa rfl (Ae (A2 rfl <| Aw rfl <| Aj rfl)) ?_
   refine Bn rfl (Cb Bd Db rfl (.cons (Ab) .nil) rfl rfl (by decide) (by simp [Value.oneCell']) fun b106 hb106 nb106 => ?_)
   refine Ca (i := 0) rfl hb106 .here fun F107 hF108 hz109 => ?_
   have hsl110 := C1 hz109
   refine B0 rfl (Bg D7 A1 (.cons Ad (.cons (Ar rfl <| Ab) (.cons (Ab) .nil))) (Ch _ _ hsl110) (fun _ _ h => h)) ?_
   refine Aa rfl (Ae (Ab)) ?_
   refine Au rfl rfl (Ab) (.inl (congrArg Value.bool (by simp [hlen, h1]))) rfl ?_
   refine Au rfl rfl (Ak rfl <| Ab) (.inl (congrArg Value.bool (by simp [hlen, h1]))) rfl ?_
   refine Au rfl rfl (Ar rfl <| Ab) (.inl (congrArg Value.bool (by simp [hlen, h1]))) rfl ?_
   refine Au rfl rfl (Ar rfl <| Ak rfl <| Ab) (.inl (congrArg Value.bool (by simp [hlen, h1]))) rfl ?_
   refine Au rfl rfl (Aw rfl <| Ab) (.inl (congrArg Value.bool (by simp [hlen, h1]))) rfl ?_
   refine Au rfl rfl (Aw rfl <| Ak rfl <| Ab) (.inl (congrArg Value.bool (by simp [hlen, h1]))) rfl ?_
   refine Au rfl rfl (Aw rfl <| Ar rfl <| Ab) (.inl (congrArg Value.bool (by simp [hlen, h1]))) rfl ?_
   refine Aa rfl (A5 (Aw rfl <| Ar rfl <| Ak rfl <| Ab) (by simp [hlen, h1]) Ad) ?_
   refine Aa rfl (Af (Ab)) ?_
   refine Ah <| Ac <| As (Ab) rfl ?_
   refine Ag <| Ai fun ds => Aa rfl (Af Ad) ?_
   refine Aa rfl (Af Ad) ?_
   refine Ah <| Ac <| A7 <| Bo (Be ?_)
   refine Ax rfl (.tmp (Ak rfl <| Ab) (.tmp (Ab) .nil)) ?_
   rw [readE_bad (readErr_2 hok (by rw [h1]; rfl)) (by decide)]
   exact ⟨_, rfl, Sl.nil⟩
 ·
  refine Ag <| Ai fun ds => Bn rfl (B7 (Aj rfl) rfl fun b111 hb111 nb111 => ?_)
  refine Aa rfl (Af Ad) ?_
  refine Aa rfl (Af Ad) ?_
  refine Ah <| Ac <| Ag <| Ai fun ds => Aa rfl (Bc B5 (Ar rfl <| Ab) rfl rfl (Bb 0 rfl)) ?_
  refine Aa rfl (Ae (Aw rfl <| Aj rfl)) ?_
  refine Bn rfl (Cj bd_68 A1 (.cons (Ak rfl <| Ab) (.cons (Ab) .nil)) (enter_bad hr hl hok) fun v112 F113 hr114 hF115 => ?_)
  obtain ⟨l2, rfl⟩ := hr114
  refine Aa rfl (Ae (Ab)) ?_
  refine Aa rfl (Az (Ab) rfl) ?_
  refine Aa rfl (Az (Ak rfl <| Ab) rfl) ?_
  refine Aa rfl (Az (Ar rfl <| Ab) rfl) ?_
  refine Bn rfl (Ce D6 rfl fun b116 hb116 nb116 => ?_)
  refine Aa rfl (Af (Ar rfl <| Ak rfl <| Ab)) ?_
  refine Ck (Cg Ec (Ak rfl <| Ab) (Ar rfl <| Ak rfl <| Ab) (i := 0) rfl rfl rfl rfl Dc (.here) ?_)
  refine Aa rfl (Af (Ar rfl <| Ab)) ?_
  refine Ah <| Ac <| Ag <| A0 <| Ag <| Ai fun ds => Aa rfl (Ae (Ab)) ?_
  refine Aa rfl (B1 (Ab) Ad) ?_
  refine Aa rfl (Af (Ab)) ?_
  refine Ah <| Ac <| As (Ab) (decide_eq_true hok) ?_
  refine Ag <| Ai fun ds => Aa rfl (Ae (Ar rfl <| Ak rfl <| Ab)) ?_
  refine Aa rfl (Af Ad) ?_
  refine Aa rfl (Af (Ak rfl <| Ab)) ?_
  refine Ah <| Ac <| A7 <| Bo (Be ?_)
  refine Ax rfl (.tmp (Ak rfl <| Ab) (.tmp (Ab) .nil)) ?_
  rw [readE_bad (readErr_1 hok) hok]
  exact ⟨_, rfl, Sl.nil⟩
end Go.Proofs.Ytccogmkhijgelaa
namespace Go.Proofs.Ytccogmkhijgelaa
open Go.RowKit
theorem zr_119 : ZeroT Try.prog 119 (.nilFunc) := C5 (by kernel_rfl)
theorem zr_26 : ZeroT Try.prog 26 (.slice none 0 0) := C5 (by kernel_rfl)
theorem zr_4 : ZeroT Try.prog 4 (.bool false) := C5 (by kernel_rfl)
theorem bd_84 : Body Try.prog 84 := Br (by kernel_rfl)
theorem one_119 : OneT Try.prog 119 := Dy (by kernel_rfl)
theorem one_4 : OneT Try.prog 4 := Dy (by kernel_rfl)
theorem sz_119 : SizeT Try.prog 119 1 := Cx (by kernel_rfl)
theorem sz_4 : SizeT Try.prog 4 1 := Cx (by kernel_rfl)
theorem setTo_succ {s : Stm} {p k : Nat} : setTo s p (k + 1) = setTo s p k ||| 2 ^ (s.r k p).toNat := rfl
theorem kindTo_succ {s : Stm} {p k : Nat} : kindTo s p (k + 1) = kindTo s p k + if metB s p (k + 1) = true then 1 else 0 := rfl
theorem cleanS_none {s : Stm} {xs : List (List Int)} {t : List Int} (h : cleanR s xs = none) : cleanR s (xs ++ [t]) = some (uncleanL s t) := by rw [cleanR_snoc, h]; rfl
theorem cleanS_yes {s : Stm} {xs : List (List Int)} {t : List Int} {b : List Nat} (h : cleanR s xs = some b) (h2 : (uncleanL s t).length < b.length ∨ ((uncleanL s t).length = b.length ∧ cmpL (uncleanL s t) b < 0)) : cleanR s (xs ++ [t]) = some (uncleanL s t) := by rw [cleanR_snoc, h]; exact if_pos h2
theorem cleanS_no {s : Stm} {xs : List (List Int)} {t : List Int} {b : List Nat} (h : cleanR s xs = some b) (h2 : ¬ ((uncleanL s t).length < b.length ∨ ((uncleanL s t).length = b.length ∧ cmpL (uncleanL s t) b < 0))) : cleanR s (xs ++ [t]) = some b := by rw [cleanR_snoc, h]; exact if_neg h2
theorem bit_met {s : Stm} {p j : Nat} (hv : ValidT s) (hp : p < s.places.length) : (setTo s p s.editions.length / 2 ^ (j + 1) &&& 1 : Nat) = if metB s p (j + 1) = true then 1 else 0 := by
 have h := setTo_bit (v := j + 1) (fun i hi => (hv.rd i p hi hp).1) (Nat.le_refl s.editions.length)
 rw [Nat.testBit_eq_decide_div_mod_eq] at h
 rw [Nat.and_one_is_mod]
 unfold metB
 rw [← h]
 by_cases h2 : setTo s p s.editions.length / 2 ^ (j + 1) % 2 = 1
 · rw [if_pos (decide_eq_true h2)]; exact h2
 · rw [if_neg (by simpa using h2)]; omega
theorem opt_or {α : Type} (o : Option α) : o = none ∨ ∃ b, o = some b := by cases o with | none => exact .inl rfl | some b => exact .inr ⟨b, rfl⟩
theorem pow_le8T {n : Nat} (h : n ≤ 3) : 2 ^ n ≤ 8 := by
 have : n = 0 ∨ n = 1 ∨ n = 2 ∨ n = 3 := by omega
 rcases this with rfl | rfl | rfl | rfl <;> decide
set_option maxRecDepth 100000 in
theorem clean_top_ok {F : Heap} {vp ve : Value} {ps : List (Value × Edn)} {s : Stm} (hr : StmR F vp ve ps s) : Ok Try.prog 33 [.agg #[vp, ve]].toArray F fun u F' => NatsR F' u (cleanE s) := by
 have hle0 : F.le F := Heap.le_refl _
 refine Ok.intro Try.func33 rfl Try.ntmps33 rfl fun w0 => ?_
 have hL1 := hr.eds.plain.lt
 have hL2 := hr.places.plain.lt
 have hlen := hr.len
 by_cases h0 : (checkT s).2.2 = 0
 ·
  have hv := Ds h0
  have hne := hv.ne
  have hnp := hv.np
  refine Ag <| Ai fun ds => Bn rfl (B7 (Aj rfl) rfl fun b1 hb1 nb1 => ?_)
  refine Bn rfl (Ce zr_26 rfl fun b2 hb2 nb2 => ?_)
  refine Aa rfl (Af Ad) ?_
  refine Ah <| Ac <| Ag <| Ai fun ds => Aa rfl (Bc B5 (Ar rfl <| Ab) rfl rfl (Bb 1 rfl)) ?_
  refine Bn rfl (Dw bd_65 A1 (.cons (Ab) .nil) (open_ok hr h0) fun v3 F4 R7 hr5 hF6 => ?_)
  replace hr := hr.mono hF6
  obtain ⟨ba, kb, rfl, hX, rfl⟩ := hr5
  refine Aa rfl (Ae (Ab)) ?_
  refine Aa rfl (Az (Ab) rfl) ?_
  refine Aa rfl (Az (Ak rfl <| Ab) rfl) ?_
  refine Aa rfl (Af (Ak rfl <| Ab)) ?_
  refine Aa rfl (Af (Ak rfl <| Ab)) ?_
  refine Ah <| Ac <| Ag <| Ag <| Ai fun ds => Aa rfl (Ae (Ab)) ?_
  refine Aa rfl (B1 (Ab) Ad) ?_
  refine Ah <| Ac <| Ap (Ab) (by decide) ?_
  refine Ay <| Ac <| Ag <| Ai fun ds => Bn rfl (Ce zr_26 rfl fun b8 hb8 nb8 => ?_)
  refine Ah <| Ac <| Ag <| Ag <| Ai fun ds => Aa rfl (Am Cv (A8 rfl <| Aw rfl <| Ab)) ?_
  refine Aa rfl (Ao C8 (Ab) (Cell.own 2 rfl rfl)) ?_
  refine Aa rfl (Bl Da (Ab) hr.places.plain) ?_
  refine Aa rfl (Ae Ad) ?_
  refine Ah <| Ac <| A0 <| Bv [6, 7, 9, 10, 11, 29, 30, 31, 32, 33, 34, 35, 36, 37, 38, 39, 40, 41, 42, 43, 44, 45, 46, 47, 48, 49, 50, 51, 52, 53, 54, 55, 56, 57, 58, 59, 60, 61, 62, 63, 64] (fun m e σ => ∃ p : Nat, m + p = s.places.length ∧ e 29 = .int .i64 (p : Int) ∧ ∃ v5 R5, Own 3 1 v5 (iL (needN s) p).length ((iL (needN s) p).flatMap intE) R5 ∧ σ = ⟨F4, (b8, bx 26 [v5]) :: (b2, bx 26 [.slice none 0 0]) :: (b1, bx 25 [vp, ve]) :: (kb, mapO []) :: R5⟩) (s.places.length) ?_ ?_
  · exact ⟨0, by omega, (Ab), _, [], Ea, rfl⟩
  ·
   rintro m e _ ⟨p, hm, hs29, v5, R5, ho, rfl⟩; have hil9 := Ct (f := needN s) (n := p)
   by_cases hp : p < s.places.length
   ·
    refine Ag <| Ai fun ds => Aa rfl (Bw (At rfl hs29) (Al rfl <| Ak rfl <| Ab)) ?_
    refine Ah <| Ac <| Ag <| As (Ab) (by first | rfl | exact decide_eq_true (by omega)) ?_
    refine Ay <| Ac <| Ag <| A0 <| Ag <| Ai fun ds => Aa rfl (Ae (Ak rfl <| At rfl hs29)) ?_
    refine Aa rfl (Af (Ab)) ?_
    refine Ah <| Ac <| Ag <| Ai fun ds => Aa rfl (Af Ad) ?_
    refine Ah <| Ac <| Ag <| Ag <| Ai fun ds => Aa rfl (Am Bq (Aw rfl <| Al rfl <| A2 rfl <| Ab)) ?_
    refine Aa rfl (Ao By (Ab) (Cell.own 2 rfl rfl)) ?_
    refine Aa rfl (Bl B3 (Ab) hr.eds.plain) ?_
    refine Aa rfl (Ae Ad) ?_
    refine Ah <| Ac <| A0 <| Bv [7, 9, 35, 36, 37, 38, 39, 40, 41, 42, 43, 44, 45, 46, 47] (fun m e σ => ∃ i : Nat, m + i = ps.length ∧ e 35 = .int .i64 (i : Int) ∧ e 7 = .int .i64 ((setTo s p i : Nat) : Int) ∧ σ = ⟨F4, (b8, bx 26 [v5]) :: (b2, bx 26 [.slice none 0 0]) :: (b1, bx 25 [vp, ve]) :: (kb, mapO []) :: R5⟩) (ps.length) ?_ ?_
    · exact ⟨0, by omega, (Ab), (Aw rfl <| Ab), rfl⟩
    ·
     rintro m1 e1 _ ⟨i, hm1, ht35, ht7, rfl⟩
     by_cases hli : i < ps.length
     ·
      have hil : i < s.editions.length := by omega
      have hri := hr.rd hli
      have hpi : p < (s.ed i).rd.length := by rw [hv.rdl i hil]; exact hp
      have er := Cu hpi
      have hrb := hv.rd i p hil hp
      have hst := setTo_lt (s := s) (p := p) (fun i hi => hv.rd i p hi hp) (k := i) (by omega)
      have hp8 := pow_le8T (n := (s.r i p).toNat) (by omega)
      refine Ag <| Ai fun ds => Aa rfl (Bw (At rfl ht35) (Al rfl <| Ak rfl <| Ab)) ?_
      refine Ah <| Ac <| Ag <| As (Ab) (by first | rfl | exact decide_eq_true (by omega)) ?_
      refine Ay <| Ac <| Ag <| A0 <| Ag <| Ai fun ds => Aa rfl (A6 (k := i) B3 (Ak rfl <| Al rfl <| Ar rfl <| Ab) hr.eds.plain (Ak rfl <| At rfl ht35) rfl hli) ?_
      refine Aa rfl (Bc agg_64 (Ab) rfl rfl (hr.eds.whole hli)) ?_
      refine Bn rfl (Ce zr_64 rfl fun b11 hb11 nb11 => ?_)
      refine Ck (Cg sz_64 (Ab) (Ak rfl <| Ab) (i := 0) rfl rfl rfl rfl (edE_one (hr.one _ (List.getElem_mem hli))) (.here) ?_)
      refine Ah <| Ac <| Ai fun ds => Aa rfl (Ae (Aw rfl <| At rfl ht7)) ?_
      refine Aa rfl (Am B2 (Ak rfl <| Ab)) ?_
      refine Aa rfl (Ao B8 (Ab) (Cell.own 0 rfl rfl)) ?_
      refine Aa rfl (Ae (Aw rfl <| Ar rfl <| Ak rfl <| Al rfl <| Aw rfl <| Ak rfl <| Ab)) ?_
      refine Aa rfl (A6 (k := p) Bd (Ak rfl <| Ab) hri.plain (Ab) rfl hpi) ?_
      refine Aa rfl (Ao Bj (Ab) (hri.cell1 hpi rfl)) ?_
      refine Aa rfl (q_shl Ad (Ab) (k := (s.r i p).toNat) (by rw [er]; omega) (by omega) (show (1 : Int) * 2 ^ (s.r i p).toNat = ((2 ^ (s.r i p).toNat : Nat) : Int) by simp) (Int.le_trans (by decide) (Int.natCast_nonneg _)) (by omega)) ?_
      refine Aa rfl (q_or (Aw rfl <| Ar rfl <| Ab) (Ab) (m := setTo s p i) (k := 2 ^ (s.r i p).toNat) rfl rfl (by omega) (by omega) rfl) ?_
      refine Aa rfl (Af (Ab)) ?_
      refine Ah <| Bf <| Ac <| Di (fun _ _ h => h.drop (.cons _ <| .cons_cons _ <| .cons_cons _ <| .cons_cons _ <| .cons_cons _ <| .refl _)) ?_
      refine Ai fun ds => Aa rfl (Bx (A8 rfl <| Aw rfl <| Ak rfl <| At rfl ht35) Ad rfl (by omega) (by omega)) ?_
      refine Aa rfl (Ae (Ab)) ?_
      refine Ah <| Ac ⟨_, m1 - 1, Off.eq (D5 rfl <| Ed rfl <| ou2 rfl <| D0 rfl <| Bi), by omega, ?_⟩
      exact ⟨i + 1, by omega, (Ab), ((Ar rfl <| Ab)).trans (by rw [setTo_succ]), rfl⟩
     ·
      refine Ag <| Ai fun ds => Aa rfl (Bw (At rfl ht35) (Al rfl <| Ak rfl <| Ab)) ?_
      refine Ah <| Ac <| Ag <| Ap (Ab) (by first | rfl | exact decide_eq_false (by omega)) ?_
      obtain rfl : i = ps.length := by omega
      have hst := setTo_lt (s := s) (p := p) (fun i hi => hv.rd i p hi hp) (k := ps.length) (by omega)
      refine Bs ?_
      refine Bh <| Bh <| Bk <| Ac <| Ag <| Ai fun ds => Aa rfl (Af Ad) ?_
      refine Ah <| Ac <| Ag <| Ag <| Ai fun ds => Aa rfl (Ae Ad) ?_
      refine Ah <| Ac <| A0 <| Bv [10, 11, 48, 49, 50, 51, 52, 53, 54, 55, 56, 57, 58] (fun m e σ => ∃ j : Nat, m + j = 3 ∧ e 48 = .int .i64 (j : Int) ∧ e 10 = .int .i64 (-1 + kindTo s p j) ∧ σ = ⟨F4, (b8, bx 26 [v5]) :: (b2, bx 26 [.slice none 0 0]) :: (b1, bx 25 [vp, ve]) :: (kb, mapO []) :: R5⟩) (3) ?_ ?_
      · exact ⟨0, rfl, (Ab), (Ak rfl <| Ab), rfl⟩
      ·
       rintro m2 e2 _ ⟨j, hm2, hu48, hu10, rfl⟩
       by_cases hl3 : j < 3
       ·
        have hkb := kindTo_bound (s := s) (p := p) j
        have hbt : (setTo s p ps.length / 2 ^ (j + 1) &&& 1 : Nat) = (if metB s p (j + 1) = true then 1 else 0 : Nat) := by have h9 := bit_met (j := j) hv hp; rw [← hlen] at h9; exact h9
        refine Ag <| Ai fun ds => Aa rfl (Bw (At rfl hu48) Ad) ?_
        refine Ah <| Ac <| Ag <| As (Ab) (by first | rfl | exact decide_eq_true (by omega)) ?_
        refine Ay <| Ac <| Ag <| A0 <| Ag <| Ai fun ds => Aa rfl (Ae (Ak rfl <| At rfl hu48)) ?_
        refine Aa rfl (Af (Ab)) ?_
        refine Ah <| Ac <| Ai fun ds => Aa rfl (Ae (Ar rfl <| Ak rfl <| At rfl hu10)) ?_
        refine Aa rfl (Ae (Aw rfl <| Al rfl <| Ar rfl <| Ak rfl <| At rfl ht7)) ?_
        refine Aa rfl (Ae (Ar rfl <| Ab)) ?_
        refine Aa rfl (Bx (Ab) Ad rfl (by omega) (by omega)) ?_
        refine Aa rfl (q_shr (Ar rfl <| Ab) (Ab) (k := j + 1) (by omega) (by show j + 1 < 64; omega) (shr_nat (m := setTo s p ps.length))) ?_
        refine Aa rfl (q_and (Ab) Ad (m := setTo s p ps.length / 2 ^ (j + 1)) (k := 1) rfl rfl (by have := Nat.div_le_self (setTo s p ps.length) (2 ^ (j + 1)); omega) (by omega) rfl) ?_
        refine Aa rfl (Bx (Aw rfl <| Ak rfl <| Ab) (Ab) rfl (by rw [hbt]; split <;> omega) (by rw [hbt]; split <;> omega)) ?_
        refine Aa rfl (Af (Ab)) ?_
        refine Ah <| Bf <| Ac <| Ai fun ds => Aa rfl (Bx (A8 rfl <| Ar rfl <| Ak rfl <| At rfl hu48) Ad rfl (by omega) (by omega)) ?_
        refine Aa rfl (Ae (Ab)) ?_
        refine Ah <| Ac ⟨_, m2 - 1, Off.eq (D5 rfl <| Ed rfl <| D0 rfl <| Bi), by omega, ?_⟩
        refine ⟨j + 1, by omega, (Ab), ((Ar rfl <| Ab)).trans ?_, rfl⟩
        rw [kindTo_succ, hbt]; congr 1; split <;> omega
       ·
        refine Ag <| Ai fun ds => Aa rfl (Bw (At rfl hu48) Ad) ?_
        refine Ah <| Ac <| Ag <| Ap (Ab) (by first | rfl | exact decide_eq_false (by omega)) ?_
        obtain rfl : j = 3 := by omega
        have hkb := kindTo_bound (s := s) (p := p) 3
        refine Bs ?_
        refine Bh <| Bh <| Bk <| Ac <| Ai fun ds => Aa rfl (Ao B8 (Ak rfl <| Al rfl <| Ar rfl <| Ak rfl <| Al rfl <| A8 rfl <| Al rfl <| Aw rfl <| Ab) (Cell.own 0 rfl rfl)) ?_
        refine Aa rfl (Ae (Ar rfl <| At rfl hu10)) ?_
        refine Aa rfl (q_max2 Ad (Ab)) ?_
        refine Bn rfl (Cb Bd Db rfl (.cons (Ab) .nil) rfl rfl (by decide) (by simp [Value.oneCell']) fun b13 hb13 nb13 => ?_)
        refine Bn rfl (Co Bd el_3 (Ar rfl <| Ak rfl <| Ab) ho (Ab) (Dj (s := 1) 0 rfl rfl (by simp [Value.oneCell'])) (by omega) (by omega) (.s <| .s <| .s <| .s <| .s <| .z) .last fun v14 R15 ho16 => ?_)
        have ho2 : Own 3 1 v14 (iL (needN s) (p + 1)).length ((iL (needN s) (p + 1)).flatMap intE) R15 := by have h9 := ho16; rw [iL_succ]; exact h9.snoc (x := needN s p) rfl (by unfold needN kindsN intE; congr 2; omega)
        refine Ck (Cl sz_26 (Aw rfl <| Ar rfl <| Al rfl <| Ar rfl <| Ak rfl <| Al rfl <| A8 rfl <| Al rfl <| Aw rfl <| Ab) (Ab) (i := 1) rfl (.here) (Own.one ho2) (.next <| .here) ?_)
        refine Ah <| Bf <| Ac <| Di (fun _ _ h => h.drop (.cons _ <| .cons_cons _ <| .cons_cons _ <| .cons_cons _ <| .cons_cons _ <| .refl _)) ?_
        refine Ai fun ds => Aa rfl (Bx (Aw rfl <| Ar rfl <| Al rfl <| Ar rfl <| Ak rfl <| Al rfl <| A8 rfl <| At rfl hs29) Ad rfl (by omega) (by omega)) ?_
        refine Aa rfl (Ae (Ab)) ?_
        refine Ah <| Ac ⟨_, m - 1, Off.eq (D5 rfl <| off_in rfl <| ou2 rfl <| D0 rfl <| off_in rfl <| D5 rfl <| Bi), by omega, ?_⟩
        refine ⟨p + 1, by omega, (Ab), _, _, ho2, rfl⟩
   ·
    refine Ag <| Ai fun ds => Aa rfl (Bw (At rfl hs29) (Al rfl <| Ak rfl <| Ab)) ?_
    refine Ah <| Ac <| Ag <| Ap (Ab) (by first | rfl | exact decide_eq_false (by omega)) ?_
    obtain rfl : p = s.places.length := by omega
    refine Cw (σ := ⟨_, _⟩) (by rfl) ho (.s <| .s <| .s <| .s <| .z) .last fun F17 hF18 hz19 => ?_
    replace hX := hX.mono hF18
    have hnd := ho.sl (fun _ => rfl) hz19 (by rw [Ct]; omega)
    refine Cf (i := 0) rfl hb8 (.here) fun F20 hF21 hz5 => ?_
    replace hX := hX.mono hF21
    replace hnd := hnd.mono hF21
    refine Bs ?_
    refine Bh <| Bh <| Bk <| Ac <| Ag <| Ai fun ds => Bn rfl (Ce zr_4 rfl fun b22 hb22 nb22 => ?_)
    refine Ck (Cl sz_4 (Ab) Ad (i := 0) rfl (.here) rfl (.here) ?_)
    refine Ah <| Ac <| Ag <| Ai fun ds => Aa rfl (Ae (Ar rfl <| Al rfl <| A8 rfl <| Ab)) ?_
    refine Aa rfl (q_makeFunc2 (.cons (Ab) .nil) .nil) ?_
    refine Bn rfl (Ce zr_119 rfl fun b23 hb23 nb23 => ?_)
    refine Ck (Cl sz_119 (Ab) (Ak rfl <| Ab) (i := 0) rfl (.here) rfl (.here) ?_)
    refine Ah <| Ac <| Ag <| Ag <| Cf (i := 0) rfl hb23 (.here) fun F24 hF25 hz13 => ?_
    replace hX := hX.mono hF25
    replace hnd := hnd.mono hF25
    replace hz5 := hF25 _ _ hz5
    refine Ai fun ds => Aa rfl (Ae (Aw rfl <| Ak rfl <| Al rfl <| A8 rfl <| Ab)) ?_
    refine Bn rfl (Cj bd_83 A1 (.cons (Ab) .nil) (trees_ok hX) fun v26 F27 hr28 hF29 => ?_)
    replace hX := hX.mono hF29
    replace hnd := hnd.mono hF29
    replace hz5 := hF29 _ _ hz5
    replace hz13 := hF29 _ _ hz13
    obtain ⟨dz, rfl, hzd⟩ := hr28
    refine Ah <| Ac <| A0 <| WC_rangeG rfl (Ab) (bd_116) (trees1_iter hX hv hzd) (Heap.le_refl _) (fun pre G H => ∃ v2, Nats G v2 ((cleanR s pre).getD []) ∧ H = [(b22, bx 4 [.bool (cleanR s pre).isSome]), (b2, bx 26 [v2]), (b1, bx 25 [vp, ve]), (kb, mapO [])]) (fun _ _ _ => False) (fun _ _ _ _ hF h => by obtain ⟨v, h1, h2⟩ := h; exact ⟨v, h1.mono hF, h2⟩) (fun _ _ _ _ _ h => h) ⟨_, Sl.nil, rfl⟩ (fun L D fn tm pre x rest G H1 vs hxs hle hJ hA => ?_) (fun _ _ _ _ h => h.elim) (fun F2 H1 hF2 hJ => ?_)
    ·
     replace hX := hX.mono hle
     replace hnd := hnd.mono hle
     replace hz5 := hle _ _ hz5
     replace hz13 := hle _ _ hz13
     obtain ⟨v2, hv2, rfl⟩ := hJ
     obtain rfl : vs = [treeV x] := hA
     have hxm : x ∈ allTrees s := by rw [hxs]; simp
     obtain ⟨hll, ht, -⟩ := allTrees_mem.1 hxm
     refine ⟨rfl, rfl, fun w1 => ?_⟩
     refine WC_eq (e' := (upd _ 69 (treeV x))) rfl rfl ?_
     refine Cd (.inr (by kernel_rfl)) (fun _ _ h => h) fun ds => ?_
     refine Bn rfl (Ce D6 rfl fun b30 hb30 nb30 => ?_)
     refine WL_order (.cons (.next <| .here) <| .cons (.next <| .here) <| .cons (.here) <| .cons (.here) <| .cons (.here) <| .cons (.here) <| .cons (.here) <| .nil) ?_
     refine Ck (Cg Ec (Ab) (Ak rfl <| Ab) (i := 2) rfl rfl rfl rfl Dc (.next <| .next <| .here) ?_)
     refine Ah <| Ac ⟨_, rfl, ?_⟩
     refine A0 <| Ag <| WC_name (i := 0) rfl (fun _ => .here) fun oL hoL => ?_
     refine Cd (.inr (by kernel_rfl)) (fun _ _ h => h) fun ds => ?_
     refine Aa rfl (Af Ad) ?_
     refine Ah <| Ac <| Ag <| Ag <| Cd (.inr (by kernel_rfl)) (fun _ _ h => h) fun ds => ?_
     refine Aa rfl (Ao B8 (A8 rfl <| Ar rfl <| Al rfl <| Aw rfl <| Ab) (CellF.own hz5 rfl).cell) ?_
     refine Aa rfl (Bl Bd (Ab) hnd.plain) ?_
     refine Aa rfl (Ae Ad) ?_
     refine Ah <| Ac <| A0 <| Bv [15, 16, 17, 72, 73, 74, 75, 76, 77, 78, 79, 80, 81, 82, 83, 84, 85, 86, 87] (fun m e σ => ∃ q : Nat, m + q = s.places.length ∧ e 72 = .int .i64 (q : Int) ∧ ∃ v15 R15, e 15 = v15 ∧ Own 3 1 v15 (selN (uncleanB s x) q).length ((selN (uncleanB s x) q).flatMap natE) R15 ∧ σ = ⟨G, (L, oL) :: (D, openO) :: (b30, bx 100 (treeC x)) :: (b22, bx 4 [.bool (cleanR s pre).isSome]) :: (b2, bx 26 [v2]) :: (b1, bx 25 [vp, ve]) :: (kb, mapO []) :: R15⟩) (s.places.length) ?_ ?_
     · exact ⟨0, by omega, (Ab), _, _, (Ar rfl <| Ak rfl <| Ab), Own.nil, rfl⟩
     ·
      rintro m e _ ⟨q, hm, hs72, v15, R15, hs15, ho, rfl⟩; have hsl := Df (p := (uncleanB s x)) (k := q)
      by_cases hlq : q < s.places.length
      ·
       refine Ag <| Cd (.inr (by kernel_rfl)) (fun _ _ h => h) fun ds => ?_
       refine Aa rfl (Bw (At rfl hs72) (Al rfl <| Ak rfl <| Ab)) ?_
       refine Ah <| Ac <| Ag <| As (Ab) (by first | rfl | exact decide_eq_true (by omega)) ?_
       have hnq : (iL (needN s) s.places.length)[q]'(by rw [Ct]; exact hlq) = needN s q := iL_at _
       have hup := unclean_place ht hv hll (p := q)
       by_cases hub : uncleanB s x q = true
       ·
        refine Ay <| Ac <| Ag <| A0 <| Ag <| Cd (.inr (by kernel_rfl)) (fun _ _ h => h) fun ds => ?_
        refine Aa rfl (Ae (Ak rfl <| At rfl hs72)) ?_
        refine Aa rfl (A6 (k := q) Bd (Ar rfl <| Al rfl <| Ar rfl <| Ab) hnd.plain (Ar rfl <| At rfl hs72) rfl (by rw [Ct]; exact hlq)) ?_
        refine Aa rfl (Ao Bj (Ab) (hnd.cell1 (by rw [Ct]; exact hlq) rfl)) ?_
        refine Aa rfl (Af (Ar rfl <| Ab)) ?_
        refine Aa rfl (Af (Ak rfl <| Ab)) ?_
        refine Ah <| Ac <| Ag <| Cd (.inr (by kernel_rfl)) (fun _ _ h => h) fun ds => ?_
        refine Aa rfl (Ao one_119 (Aw rfl <| Ar rfl <| Al rfl <| A8 rfl <| Ab) (CellF.own hz13 rfl).cell) ?_
        refine Aa rfl (Bc B6 (Aw rfl <| Ar rfl <| Ak rfl <| Al rfl <| Aw rfl <| Ab) rfl rfl (Bb 2 rfl)) ?_
        refine Aa rfl (Ae (Ar rfl <| Ak rfl <| Ab)) ?_
        refine B0 rfl (q_callF bd_82 (Ar rfl <| Ab) (.cons (Ak rfl <| Ab) (.cons (Ab) .nil)) (D3 hX ht hll hv hlq) (fun _ _ h => h)) ?_
        refine Aa rfl (Ae (Aw rfl <| Ab)) ?_
        refine Aa rfl (B1 (Ak rfl <| Ab) (Ab)) ?_
        refine Ah <| Ac <| As (Ab) (decide_eq_true (by rw [hnq]; exact hup.2 hub)) ?_
        refine Cd (.inr (by kernel_rfl)) (fun _ _ h => h) fun ds => ?_
        refine Aa rfl (Ae (A8 rfl <| Aw rfl <| At rfl hs15)) ?_
        refine Aa rfl (Ae (A8 rfl <| Ab)) ?_
        refine Bn rfl (Cb Bd Db rfl (.cons (Ab) .nil) rfl rfl (by decide) (by simp [Value.oneCell']) fun b32 hb32 nb32 => ?_)
        refine Bn rfl (Co Bd el_3 (Ar rfl <| Ab) ho (Ab) (Dj (s := 1) 0 rfl rfl (by simp [Value.oneCell'])) (by omega) (by omega) (.s <| .s <| .s <| .s <| .s <| .s <| .s <| .s <| .z) .last fun v33 R34 ho35 => ?_)
        have ho2 := ho35.snoc (x := q) rfl rfl
        refine Aa rfl (Af (Ab)) ?_
        refine Ah <| Bf <| Ac <| Di (fun _ _ h => h.drop (.cons _ <| .cons_cons _ <| .cons_cons _ <| .cons_cons _ <| .cons_cons _ <| .cons_cons _ <| .cons_cons _ <| .cons_cons _ <| .refl _)) ?_
        refine Cd (.inr (by kernel_rfl)) (fun _ _ h => h) fun ds => ?_
        refine Aa rfl (Bx (A2 rfl <| Ak rfl <| At rfl hs72) Ad rfl (by omega) (by omega)) ?_
        refine Aa rfl (Ae (Ab)) ?_
        refine Ah <| Ac ⟨_, m - 1, Off.eq (C7 rfl <| ou2 rfl <| D0 rfl <| Bi), by omega, ?_⟩
        exact ⟨q + 1, by omega, (Ab), _, _, (Ar rfl <| Ab), by rw [Dt, if_pos hub]; exact ho2, rfl⟩
       ·
        replace hub : uncleanB s x q = false := by simpa using hub
        refine Ay <| Ac <| Ag <| A0 <| Ag <| Cd (.inr (by kernel_rfl)) (fun _ _ h => h) fun ds => ?_
        refine Aa rfl (Ae (Ak rfl <| At rfl hs72)) ?_
        refine Aa rfl (A6 (k := q) Bd (Ar rfl <| Al rfl <| Ar rfl <| Ab) hnd.plain (Ar rfl <| At rfl hs72) rfl (by rw [Ct]; exact hlq)) ?_
        refine Aa rfl (Ao Bj (Ab) (hnd.cell1 (by rw [Ct]; exact hlq) rfl)) ?_
        refine Aa rfl (Af (Ar rfl <| Ab)) ?_
        refine Aa rfl (Af (Ak rfl <| Ab)) ?_
        refine Ah <| Ac <| Ag <| Cd (.inr (by kernel_rfl)) (fun _ _ h => h) fun ds => ?_
        refine Aa rfl (Ao one_119 (Aw rfl <| Ar rfl <| Al rfl <| A8 rfl <| Ab) (CellF.own hz13 rfl).cell) ?_
        refine Aa rfl (Bc B6 (Aw rfl <| Ar rfl <| Ak rfl <| Al rfl <| Aw rfl <| Ab) rfl rfl (Bb 2 rfl)) ?_
        refine Aa rfl (Ae (Ar rfl <| Ak rfl <| Ab)) ?_
        refine B0 rfl (q_callF bd_82 (Ar rfl <| Ab) (.cons (Ak rfl <| Ab) (.cons (Ab) .nil)) (D3 hX ht hll hv hlq) (fun _ _ h => h)) ?_
        refine Aa rfl (Ae (Aw rfl <| Ab)) ?_
        refine Aa rfl (B1 (Ak rfl <| Ab) (Ab)) ?_
        refine Ah <| Ac <| Ap (Ab) (decide_eq_false (by rw [hnq]; exact fun h => by rw [hup.1 h] at hub; cases hub)) ?_
        refine Ay <| Bf <| Ac <| Cd (.inr (by kernel_rfl)) (fun _ _ h => h) fun ds => ?_
        refine Aa rfl (Bx (A8 rfl <| Aw rfl <| At rfl hs72) Ad rfl (by omega) (by omega)) ?_
        refine Aa rfl (Ae (Ab)) ?_
        refine Ah <| Ac ⟨_, m - 1, Off.eq (D5 rfl <| Ed rfl <| ou2 rfl <| Bi), by omega, ?_⟩
        exact ⟨q + 1, by omega, (Ab), _, _, (A8 rfl <| Aw rfl <| Ar rfl <| At rfl hs15), by rw [Dt, if_neg (by rw [hub]; simp)]; exact ho, rfl⟩
      ·
       refine Ag <| Cd (.inr (by kernel_rfl)) (fun _ _ h => h) fun ds => ?_
       refine Aa rfl (Bw (At rfl hs72) (Al rfl <| Ak rfl <| Ab)) ?_
       refine Ah <| Ac <| Ag <| Ap (Ab) (by first | rfl | exact decide_eq_false (by omega)) ?_
       obtain rfl : q = s.places.length := by omega
       refine WC_freezeRM (σ := ⟨_, _⟩) (by intro m hm; simp [keys] at hm ⊢; rcases hm with h | h | h | h | h | h <;> simp [h]) ho (.s <| .s <| .s <| .s <| .s <| .s <| .s <| .z) .last fun F36 hF37 hz38 => ?_
       replace hle := hle.mono hF37
       replace hv2 := hv2.mono hF37
       have hl15 := ho.sl (fun _ => rfl) hz38 (by omega)
       change Nats _ _ (uncleanL s x) at hl15
       rcases opt_or (cleanR s pre) with hcs | ⟨bb, hcs⟩
       ·
        refine Bs ?_
        refine Bh <| Bh <| Bk <| Ac <| Ag <| Cd (.inr (by kernel_rfl)) (fun _ _ h => h) fun ds => ?_
        refine Aa rfl (Ao one_4 (Ak rfl <| Al rfl <| A8 rfl <| Ar rfl <| Ak rfl <| Ab) (Cell.own 3 rfl rfl)) ?_
        refine Aa rfl (Cp (Ab)) ?_
        refine Aa rfl (Ae (Ab)) ?_
        refine Au rfl rfl (Ab) (.inl (congrArg Value.bool (by rw [hcs]; rfl))) rfl ?_
        refine Au rfl rfl (Ak rfl <| Ab) (.inl (congrArg Value.bool (by rw [hcs]; rfl))) rfl ?_
        refine Au rfl rfl (Ar rfl <| Ab) (.inl (congrArg Value.bool (by rw [hcs]; rfl))) rfl ?_
        refine Au rfl rfl (Ar rfl <| Ak rfl <| Ab) (.inl (congrArg Value.bool (by rw [hcs]; rfl))) rfl ?_
        refine Au rfl rfl (Aw rfl <| Ab) (.inl (congrArg Value.bool (by rw [hcs]; rfl))) rfl ?_
        refine Aa rfl (A5 (Aw rfl <| Ak rfl <| Ab) (by rw [hcs]; rfl) Ad) ?_
        refine Aa rfl (Ae (Ab)) ?_
        refine Au rfl rfl (Ab) (.inl (congrArg Value.bool rfl)) rfl ?_
        refine Au rfl rfl (Ak rfl <| Ab) (.inl (congrArg Value.bool rfl)) rfl ?_
        refine Au rfl rfl (Ar rfl <| Ab) (.inl (congrArg Value.bool rfl)) rfl ?_
        refine Au rfl rfl (Ar rfl <| Ak rfl <| Ab) (.inl (congrArg Value.bool rfl)) rfl ?_
        refine Au rfl rfl (Aw rfl <| Ab) (.inl (congrArg Value.bool rfl)) rfl ?_
        refine Au rfl rfl (Aw rfl <| Ak rfl <| Ab) (.inl (congrArg Value.bool rfl)) rfl ?_
        refine Au rfl rfl (Ab) (.inr rfl) rfl ?_
        refine Au rfl rfl (Ak rfl <| Ab) (.inr rfl) rfl ?_
        refine Au rfl rfl (Ar rfl <| Ab) (.inr rfl) rfl ?_
        refine Au rfl rfl (Ar rfl <| Ak rfl <| Ab) (.inr rfl) rfl ?_
        refine Au rfl rfl (A8 rfl <| Ar rfl <| Ab) (.inl (congrArg Value.bool rfl)) rfl ?_
        refine Aa rfl (A5 (A8 rfl <| Ar rfl <| Ak rfl <| Ab) rfl Ad) ?_
        refine Ah <| Ac <| As (Ab) rfl ?_
        subst hoL
        refine Cd (.inr (by kernel_rfl)) (fun _ _ h => h) fun ds => ?_
        refine Aa rfl (Ae (A2 rfl <| Aw rfl <| Ar rfl <| Ak rfl <| At rfl hs15)) ?_
        refine Ck (Cl sz_26 (A2 rfl <| A8 rfl <| Al rfl <| A8 rfl <| Aw rfl <| Ak rfl <| Al rfl <| A8 rfl <| Aw rfl <| Ar rfl <| Ak rfl <| Ab) (Ab) (i := 4) rfl (.here) (by first | rfl | exact hl15.plain.one) (.next <| .next <| .next <| .next <| .here) ?_)
        refine Ck (Cl sz_4 (A2 rfl <| A8 rfl <| Al rfl <| A8 rfl <| Ar rfl <| Ak rfl <| Ab) Ad (i := 3) rfl (.here) (by first | rfl | exact hl15.plain.one) (.next <| .next <| .next <| .here) ?_)
        refine Ah <| Bf ?_
        refine Em (.one (.here) <| .one (.here) <| .one (.next <| .here) <| .one (.next <| .here) <| .one (.next <| .here) <| .one (.next <| .here) <| .nil) ?_
        refine .inl ⟨rfl, _, rfl, hle, ?_⟩
        exact ⟨_, by rw [cleanS_none hcs]; exact hl15, by rw [cleanS_none hcs]; first | done | rfl⟩
       ·
        have hv2b := hv2
        rw [hcs] at hv2b
        replace hv2b : Nats _ v2 bb := hv2b
        have hbl := hv2b.plain.lt
        refine Bs ?_
        refine Bh <| Bh <| Bk <| Ac <| Ag <| Cd (.inr (by kernel_rfl)) (fun _ _ h => h) fun ds => ?_
        refine Aa rfl (Ao one_4 (Ak rfl <| Al rfl <| A8 rfl <| Ar rfl <| Ak rfl <| Ab) (Cell.own 3 rfl rfl)) ?_
        refine Aa rfl (Cp (Ab)) ?_
        refine Aa rfl (Ae (Ab)) ?_
        refine Aq rfl rfl (Ab) (by rw [hcs]; rfl) ?_
        refine Aa rfl (Ae (Aw rfl <| At rfl hs15)) ?_
        refine Aq rfl rfl (Ak rfl <| Ab) (by rw [hcs]; rfl) ?_
        refine Aa rfl (Bl Bd (Ab) hl15.plain) ?_
        refine Aq rfl rfl (Ar rfl <| Ab) (by rw [hcs]; rfl) ?_
        refine Aa rfl (Ao B8 (Aw rfl <| Ar rfl <| Al rfl <| A8 rfl <| Aw rfl <| Ak rfl <| Al rfl <| A8 rfl <| Aw rfl <| Ar rfl <| Ak rfl <| Ab) (Cell.own 4 rfl rfl)) ?_
        refine Aq rfl rfl (Ar rfl <| Ak rfl <| Ab) (by rw [hcs]; rfl) ?_
        refine Aa rfl (Bl Bd (Ab) hv2.plain) ?_
        refine Aq rfl rfl (Aw rfl <| Ab) (by rw [hcs]; rfl) ?_
        refine Aa rfl (Bw (Ar rfl <| Ab) (Ab)) ?_
        refine Aa rfl (A9 (Aw rfl <| Ak rfl <| Ab) (by rw [hcs]; rfl) (Ab)) ?_
        refine Aa rfl (Ae (Ab)) ?_
        by_cases h1 : (uncleanL s x).length < bb.length
        ·
         refine Au rfl rfl (Ab) (.inl (congrArg Value.bool (decide_eq_true (by rw [hcs]; show (_ : Int) < (bb.length : Int); omega)))) rfl ?_
         refine Au rfl rfl (Ak rfl <| Ab) (.inl (congrArg Value.bool (decide_eq_true (by rw [hcs]; show (_ : Int) < (bb.length : Int); omega)))) rfl ?_
         refine Au rfl rfl (Ar rfl <| Ab) (.inl (congrArg Value.bool (decide_eq_true (by rw [hcs]; show (_ : Int) < (bb.length : Int); omega)))) rfl ?_
         refine Au rfl rfl (Ar rfl <| Ak rfl <| Ab) (.inl (congrArg Value.bool (decide_eq_true (by rw [hcs]; show (_ : Int) < (bb.length : Int); omega)))) rfl ?_
         refine Au rfl rfl (Aw rfl <| Ab) (.inl (congrArg Value.bool (decide_eq_true (by rw [hcs]; show (_ : Int) < (bb.length : Int); omega)))) rfl ?_
         refine Au rfl rfl (Aw rfl <| Ak rfl <| Ab) (.inl (congrArg Value.bool (decide_eq_true (by rw [hcs]; show (_ : Int) < (bb.length : Int); omega)))) rfl ?_
         refine Au rfl rfl (Ab) (.inr rfl) rfl ?_
         refine Au rfl rfl (Ak rfl <| Ab) (.inr rfl) rfl ?_
         refine Au rfl rfl (Ar rfl <| Ab) (.inr rfl) rfl ?_
         refine Au rfl rfl (Ar rfl <| Ak rfl <| Ab) (.inr rfl) rfl ?_
         refine Au rfl rfl (A8 rfl <| Ar rfl <| Ab) (.inl (congrArg Value.bool (decide_eq_true (by rw [hcs]; show (_ : Int) < (bb.length : Int); omega)))) rfl ?_
         refine Aa rfl (A5 (A8 rfl <| Ar rfl <| Ak rfl <| Ab) (decide_eq_true (by rw [hcs]; show (_ : Int) < (bb.length : Int); omega)) Ad) ?_
         refine Ah <| Ac <| As (Ab) rfl ?_
         subst hoL
         refine Cd (.inr (by kernel_rfl)) (fun _ _ h => h) fun ds => ?_
         refine Aa rfl (Ae (A2 rfl <| Aw rfl <| Ar rfl <| Ak rfl <| At rfl hs15)) ?_
         refine Ck (Cl sz_26 (A2 rfl <| A8 rfl <| Al rfl <| A8 rfl <| Aw rfl <| Ak rfl <| Al rfl <| A8 rfl <| Aw rfl <| Ar rfl <| Ak rfl <| Ab) (Ab) (i := 4) rfl (.here) (by first | rfl | exact hl15.plain.one) (.next <| .next <| .next <| .next <| .here) ?_)
         refine Ck (Cl sz_4 (A2 rfl <| A8 rfl <| Al rfl <| A8 rfl <| Ar rfl <| Ak rfl <| Ab) Ad (i := 3) rfl (.here) (by first | rfl | exact hl15.plain.one) (.next <| .next <| .next <| .here) ?_)
         refine Ah <| Bf ?_
         refine Em (.one (.here) <| .one (.here) <| .one (.next <| .here) <| .one (.next <| .here) <| .one (.next <| .here) <| .one (.next <| .here) <| .nil) ?_
         refine .inl ⟨rfl, _, rfl, hle, ?_⟩
         exact ⟨_, by rw [cleanS_yes hcs (.inl h1)]; exact hl15, by rw [cleanS_yes hcs (.inl h1)]; first | done | rfl⟩
        ·
         refine Aq rfl rfl (Ab) (decide_eq_false (by rw [hcs]; show ¬ (_ : Int) < (bb.length : Int); omega)) ?_
         refine Aa rfl (Ae (A8 rfl <| Ar rfl <| Ak rfl <| At rfl hs15)) ?_
         refine Aq rfl rfl (Ak rfl <| Ab) (decide_eq_false (by rw [hcs]; show ¬ (_ : Int) < (bb.length : Int); omega)) ?_
         refine Aa rfl (Bl Bd (Ab) hl15.plain) ?_
         refine Aq rfl rfl (Ar rfl <| Ab) (decide_eq_false (by rw [hcs]; show ¬ (_ : Int) < (bb.length : Int); omega)) ?_
         refine Aa rfl (Ao B8 (A8 rfl <| Aw rfl <| Ak rfl <| Al rfl <| A8 rfl <| Aw rfl <| Ak rfl <| Al rfl <| A8 rfl <| Aw rfl <| Ar rfl <| Ak rfl <| Ab) (Cell.own 4 rfl rfl)) ?_
         refine Aq rfl rfl (Ar rfl <| Ak rfl <| Ab) (decide_eq_false (by rw [hcs]; show ¬ (_ : Int) < (bb.length : Int); omega)) ?_
         refine Aa rfl (Bl Bd (Ab) hv2.plain) ?_
         refine Aq rfl rfl (Aw rfl <| Ab) (decide_eq_false (by rw [hcs]; show ¬ (_ : Int) < (bb.length : Int); omega)) ?_
         refine Aa rfl (Bz (Ar rfl <| Ab) (Ab)) ?_
         refine Aq rfl rfl (Aw rfl <| Ak rfl <| Ab) (decide_eq_false (by rw [hcs]; show ¬ (_ : Int) < (bb.length : Int); omega)) ?_
         refine Aa rfl (Ae (Ab)) ?_
         by_cases h2 : (uncleanL s x).length = bb.length
         ·
          refine Aq rfl rfl (Ab) (decide_eq_true (by rw [hcs]; show (_ : Int) = (bb.length : Int); omega)) ?_
          refine Aa rfl (Ae (A2 rfl <| Ak rfl <| At rfl hs15)) ?_
          refine Aq rfl rfl (Ak rfl <| Ab) (decide_eq_true (by rw [hcs]; show (_ : Int) = (bb.length : Int); omega)) ?_
          refine Aa rfl (Ao B8 (A2 rfl <| Ar rfl <| Al rfl <| A8 rfl <| Aw rfl <| Ak rfl <| Al rfl <| A8 rfl <| Aw rfl <| Ar rfl <| Ak rfl <| Ab) (Cell.own 4 rfl rfl)) ?_
          refine Aq rfl rfl (Ar rfl <| Ab) (decide_eq_true (by rw [hcs]; show (_ : Int) = (bb.length : Int); omega)) ?_
          refine B0 rfl (Bg bd_84 A1 (.cons (Ak rfl <| Ab) (.cons (Ab) .nil)) (compare_ok hl15 hv2) (fun _ _ h => h)) ?_
          refine Aq rfl rfl (Ar rfl <| Ak rfl <| Ab) (decide_eq_true (by rw [hcs]; show (_ : Int) = (bb.length : Int); omega)) ?_
          refine Aa rfl (Bw (Ab) Ad) ?_
          refine Aq rfl rfl (A8 rfl <| Ar rfl <| Ab) (decide_eq_false (by rw [hcs]; show ¬ (_ : Int) < (bb.length : Int); omega)) ?_
          refine Aa rfl (A5 (Aw rfl <| Ab) (decide_eq_true (by rw [hcs]; show (_ : Int) = (bb.length : Int); omega)) (Ab)) ?_
          refine Aa rfl (A9 (A8 rfl <| Ar rfl <| Ak rfl <| Ab) (decide_eq_false (by rw [hcs]; show ¬ (_ : Int) < (bb.length : Int); omega)) (Ab)) ?_
          refine Ah <| Ac ?_
          by_cases h3 : cmpL (uncleanL s x) bb < 0
          ·
           refine As (Ab) (by rw [hcs]; exact decide_eq_true h3) ?_
           subst hoL
           refine Cd (.inr (by kernel_rfl)) (fun _ _ h => h) fun ds => ?_
           refine Aa rfl (Ae (A2 rfl <| Aw rfl <| Ar rfl <| Ak rfl <| At rfl hs15)) ?_
           refine Ck (Cl sz_26 (A2 rfl <| A8 rfl <| Al rfl <| A8 rfl <| Aw rfl <| Ak rfl <| Al rfl <| A8 rfl <| Aw rfl <| Ar rfl <| Ak rfl <| Ab) (Ab) (i := 4) rfl (.here) (by first | rfl | exact hl15.plain.one) (.next <| .next <| .next <| .next <| .here) ?_)
           refine Ck (Cl sz_4 (A2 rfl <| A8 rfl <| Al rfl <| A8 rfl <| Ar rfl <| Ak rfl <| Ab) Ad (i := 3) rfl (.here) (by first | rfl | exact hl15.plain.one) (.next <| .next <| .next <| .here) ?_)
           refine Ah <| Bf ?_
           refine Em (.one (.here) <| .one (.here) <| .one (.next <| .here) <| .one (.next <| .here) <| .one (.next <| .here) <| .one (.next <| .here) <| .nil) ?_
           refine .inl ⟨rfl, _, rfl, hle, ?_⟩
           exact ⟨_, by rw [cleanS_yes hcs (.inr ⟨h2, h3⟩)]; exact hl15, by rw [cleanS_yes hcs (.inr ⟨h2, h3⟩)]; first | done | rfl⟩
          ·
           refine Ap (Ab) (by rw [hcs]; exact decide_eq_false h3) ?_
           subst hoL
           refine Ay <| Bf ?_
           refine Em (.one (.here) <| .one (.here) <| .one (.next <| .here) <| .one (.next <| .here) <| .one (.next <| .here) <| .one (.next <| .here) <| .nil) ?_
           refine .inl ⟨rfl, _, rfl, hle, ?_⟩
           exact ⟨_, by rw [cleanS_no hcs (fun h => h.elim h1 (fun h => h3 h.2))]; exact hv2b, by rw [cleanS_no hcs (fun h => h.elim h1 (fun h => h3 h.2)), hcs]; first | done | rfl⟩
         ·
          refine Au rfl rfl (Ab) (.inl (congrArg Value.bool (decide_eq_false (by rw [hcs]; show ¬ (_ : Int) = (bb.length : Int); omega)))) rfl ?_
          refine Au rfl rfl (Ak rfl <| Ab) (.inl (congrArg Value.bool (decide_eq_false (by rw [hcs]; show ¬ (_ : Int) = (bb.length : Int); omega)))) rfl ?_
          refine Au rfl rfl (Ar rfl <| Ab) (.inl (congrArg Value.bool (decide_eq_false (by rw [hcs]; show ¬ (_ : Int) = (bb.length : Int); omega)))) rfl ?_
          refine Au rfl rfl (Ar rfl <| Ak rfl <| Ab) (.inl (congrArg Value.bool (decide_eq_false (by rw [hcs]; show ¬ (_ : Int) = (bb.length : Int); omega)))) rfl ?_
          refine Aq rfl rfl (A8 rfl <| Ar rfl <| Ab) (decide_eq_false (by rw [hcs]; show ¬ (_ : Int) < (bb.length : Int); omega)) ?_
          refine Aa rfl (A9 (Aw rfl <| Ab) (decide_eq_false (by rw [hcs]; show ¬ (_ : Int) = (bb.length : Int); omega)) Ad) ?_
          refine Aa rfl (A9 (A8 rfl <| Ar rfl <| Ak rfl <| Ab) (decide_eq_false (by rw [hcs]; show ¬ (_ : Int) < (bb.length : Int); omega)) (Ab)) ?_
          refine Ah <| Ac <| Ap (Ab) rfl ?_
          subst hoL
          refine Ay <| Bf ?_
          refine Em (.one (.here) <| .one (.here) <| .one (.next <| .here) <| .one (.next <| .here) <| .one (.next <| .here) <| .one (.next <| .here) <| .nil) ?_
          refine .inl ⟨rfl, _, rfl, hle, ?_⟩
          exact ⟨_, by rw [cleanS_no hcs (fun h => h.elim h1 (fun h => h2 h.1))]; exact hv2b, by rw [cleanS_no hcs (fun h => h.elim h1 (fun h => h2 h.1)), hcs]; first | done | rfl⟩
    obtain ⟨v2, hv2, rfl⟩ := hJ
    refine Bf <| Ac ?_
    rcases opt_or (cleanR s (allTrees s)) with hcs | ⟨bb, hcs⟩
    ·
     refine Ag <| Ag <| Ai fun ds => Aa rfl (Ao one_4 (Aw rfl <| Ak rfl <| Ab) (Cell.own 0 rfl rfl)) ?_
     refine Aa rfl (Cp (Ab)) ?_
     refine Ah <| Ac <| As (Ab) (by rw [hcs]; rfl) ?_
     refine Ag <| Ai fun ds => Ck (Cl sz_26 (A8 rfl <| Ak rfl <| Al rfl <| A8 rfl <| Aw rfl <| Ar rfl <| Ak rfl <| Ab) Ad (i := 1) rfl (.here) rfl (.next <| .here) ?_)
     refine Aa rfl (Af Ad) ?_
     refine Ah <| Ac <| A7 <| Be ?_
     refine Ax rfl (.one B8 (A8 rfl <| Ar rfl <| Al rfl <| A8 rfl <| Aw rfl <| Ar rfl <| Ak rfl <| Ab) (Cell.own 1 rfl rfl) (.tmp (Ab) .nil)) ?_
     rw [cleanE_none h0 hcs]
     exact ⟨_, rfl, Sl.nil⟩
    ·
     refine Ag <| Ag <| Ai fun ds => Aa rfl (Ao one_4 (Aw rfl <| Ak rfl <| Ab) (Cell.own 0 rfl rfl)) ?_
     refine Aa rfl (Cp (Ab)) ?_
     refine Ah <| Ac <| Ap (Ab) (by rw [hcs]; rfl) ?_
     refine Ay <| Ac <| Ag <| Ai fun ds => Aa rfl (Ao B8 (A8 rfl <| Ak rfl <| Al rfl <| A8 rfl <| Aw rfl <| Ar rfl <| Ak rfl <| Ab) (Cell.own 1 rfl rfl)) ?_
     refine Ck (Cl sz_26 (A8 rfl <| Ar rfl <| Al rfl <| A8 rfl <| Aw rfl <| Ar rfl <| Ak rfl <| Ab) (Ab) (i := 1) rfl (.here) hv2.plain.one (.next <| .here) ?_)
     refine Aa rfl (Af Ad) ?_
     refine Ah <| Ac <| A7 <| Ax rfl (.one B8 (A8 rfl <| Ar rfl <| Ak rfl <| Al rfl <| A8 rfl <| Aw rfl <| Ar rfl <| Ak rfl <| Ab) (Cell.own 1 rfl rfl) (.tmp (Ab) .nil)) ?_
     rw [cleanE_some h0 hcs]
     rw [hcs] at hv2
     exact ⟨_, rfl, hv2⟩
 ·
  refine Ag <| Ai fun ds => Bn rfl (B7 (Aj rfl) rfl fun b39 hb39 nb39 => ?_)
  refine Bn rfl (Ce zr_26 rfl fun b40 hb40 nb40 => ?_)
  refine Aa rfl (Af Ad) ?_
  refine Ah <| Ac <| Ag <| Ai fun ds => Aa rfl (Bc B5 (Ar rfl <| Ab) rfl rfl (Bb 1 rfl)) ?_
  refine B0 rfl (Bg bd_65 A1 (.cons (Ab) .nil) (open_bad hr h0) (fun _ _ h => h)) ?_
  refine Aa rfl (Ae (Ab)) ?_
  refine Aa rfl (Az (Ab) rfl) ?_
  refine Aa rfl (Az (Ak rfl <| Ab) rfl) ?_
  refine Aa rfl (Af (Ak rfl <| Ab)) ?_
  refine Aa rfl (Af (Ak rfl <| Ab)) ?_
  refine Ah <| Ac <| Ag <| Ag <| Ai fun ds => Aa rfl (Ae (Ab)) ?_
  refine Aa rfl (B1 (Ab) Ad) ?_
  refine Ah <| Ac <| As (Ab) (decide_eq_true h0) ?_
  refine Ag <| Ai fun ds => Aa rfl (Ae (Ar rfl <| Ab)) ?_
  refine Ck (Cl sz_26 (A8 rfl <| Ar rfl <| Ak rfl <| Ab) Ad (i := 0) rfl (.here) rfl (.here) ?_)
  refine Aa rfl (Af (Ab)) ?_
  refine Ah <| Ac <| A7 <| Be ?_
  refine Ax rfl (.one B8 (A8 rfl <| Aw rfl <| Ab) (Cell.own 0 rfl rfl) (.tmp (Ab) .nil)) ?_
  rw [cleanE_bad h0]
  exact ⟨_, rfl, Sl.nil⟩
end Go.Proofs.Ytccogmkhijgelaa
namespace Go.Proofs.Ytccogmkhijgelaa
open Go.RowKit
def plA : Plc := ⟨⟨#[97]⟩, 0⟩
def plB : Plc := ⟨⟨#[98]⟩, 1⟩
def plC : Plc := ⟨⟨#[99]⟩, 0⟩
def edQ1 : Edn := ⟨⟨#[113, 49]⟩, 1600, 1600, [1, 1, 1]⟩
def edQ2 : Edn := ⟨⟨#[113, 50]⟩, 1605, 1610, [2, 1, 1]⟩
def edF1 : Edn := ⟨⟨#[102, 49]⟩, 1623, 1623, [2, 2, 1]⟩
def edQ3 : Edn := ⟨⟨#[113, 51]⟩, 1608, 1630, [0, 1, 2]⟩
def stemX : Stm := ⟨[plA, plB, plC], [edQ1, edQ2, edF1, edQ3]⟩
def bestX : List Int := [-1, 0, 1, 0]
def starX : List Int := [-1, 0, 0, 0]
def lineX : List Int := [-1, 0, 1, 2]
def twoX : List Int := [-1, 0, 1, 1]
theorem ev_p1 : apartE stemX 0 2 = ([0, 1], 0) := by kernel_rfl
theorem ev_c1 : changesE stemX starX = (4, 0) := by kernel_rfl
theorem ev_c2 : changesE stemX lineX = (0, 9) := by kernel_rfl
theorem ev_y1 : yearsE stemX twoX = ([(1600, 1600), (1605, 1610), (1623, 1623), (1608, 1630)], 0) := by kernel_rfl
theorem ev_b1 : bestTE stemX = (bestX, 3, 2, 0) := by kernel_rfl
theorem ev_f1 : firstTE stemX = ([0], 0) := by kernel_rfl
theorem ev_m1 : fromE stemX 1 2 = (1, 0) := by kernel_rfl
theorem ev_r1 : readE stemX bestX 3 0 = ([1], 0) := by kernel_rfl
theorem ev_l1 : cleanE stemX = ([], 0) := by kernel_rfl
theorem ev_s1 : secE stemX starX 2 = (1, 1, 0) := by kernel_rfl
theorem ev_s2 : secE stemX bestX 2 = (0, 0, 8) := by kernel_rfl
end Go.Proofs.Ytccogmkhijgelaa
namespace Go.Proofs.Ytccogmkhijgelaa
open Go.RowKit
theorem zr_25 : ZeroT Try.prog 25 (.agg #[.slice none 0 0, .slice none 0 0]) := C5 (by kernel_rfl)
theorem bd_20 : Body Try.prog 20 := Br (by kernel_rfl)
theorem bd_21 : Body Try.prog 21 := Br (by kernel_rfl)
theorem bd_23 : Body Try.prog 23 := Br (by kernel_rfl)
theorem bd_25 : Body Try.prog 25 := Br (by kernel_rfl)
theorem bd_26 : Body Try.prog 26 := Br (by kernel_rfl)
theorem bd_27 : Body Try.prog 27 := Br (by kernel_rfl)
theorem bd_29 : Body Try.prog 29 := Br (by kernel_rfl)
theorem bd_31 : Body Try.prog 31 := Br (by kernel_rfl)
theorem bd_33 : Body Try.prog 33 := Br (by kernel_rfl)
theorem bd_35 : Body Try.prog 35 := Br (by kernel_rfl)
theorem bd_37 : Body Try.prog 37 := Br (by kernel_rfl)
theorem bd_39 : Body Try.prog 39 := Br (by kernel_rfl)
theorem bd_95 : Body Try.prog 95 := Br (by kernel_rfl)
theorem bt_25 : BuildT Try.prog 25 [.slice none 0 0, .slice none 0 0] [(0, 1), (1, 1)] := buildT_of zr_25 (by kernel_rfl) (by decide)
theorem bt_60 : BuildT Try.prog 60 [.int .i64 0, .int .i64 0] [(0, 1), (1, 1)] := buildT_of zr_60 (by kernel_rfl) (by decide)
theorem bt_64 : BuildT Try.prog 64 [.string ⟨#[]⟩, .int .i64 0, .int .i64 0, .slice none 0 0] [(0, 1), (1, 2), (3, 1)] := buildT_of zr_64 (by kernel_rfl) (by decide)
theorem bt_70 : BuildT Try.prog 70 [.string ⟨#[]⟩, .int .i64 0] [(0, 1), (1, 1)] := buildT_of zr_70 (by kernel_rfl) (by decide)
theorem sz_25 : SizeT Try.prog 25 2 := Cx (by kernel_rfl)
theorem ints_box3 {F : Heap} {b T : Nat} {x y z : Int} (h : F b = some (bx T [.int .i64 x, .int .i64 y, .int .i64 z])) : Ints F (.slice (some ⟨b, 0, none⟩) 3 3) [x, y, z] :=
 sl_box (xs := [x, y, z]) h rfl rfl (fun _ => rfl) (by decide)
theorem ints_box4 {F : Heap} {b T : Nat} {x y z w : Int} (h : F b = some (bx T [.int .i64 x, .int .i64 y, .int .i64 z, .int .i64 w])) : Ints F (.slice (some ⟨b, 0, none⟩) 4 4) [x, y, z, w] :=
 sl_box (xs := [x, y, z, w]) h rfl rfl (fun _ => rfl) (by decide)
theorem plcX_box3 {F : Heap} {b T : Nat} (h : F b = some (bx T [.string ⟨#[97]⟩, .int .i64 0, .string ⟨#[98]⟩, .int .i64 1, .string ⟨#[99]⟩, .int .i64 0])) : Sl F (.slice (some ⟨b, 0, none⟩) 3 3) 2 Plc.enc [plA, plB, plC] :=
 sl_box (xs := [plA, plB, plC]) h rfl rfl (fun _ => rfl) (by decide)
theorem ednX_box4 {F : Heap} {b T : Nat} {v1 v2 v3 v4 : Value} (h : F b = some (bx T [.string ⟨#[113, 49]⟩, .int .i64 1600, .int .i64 1600, v1, .string ⟨#[113, 50]⟩, .int .i64 1605, .int .i64 1610, v2, .string ⟨#[102, 49]⟩, .int .i64 1623, .int .i64 1623, v3, .string ⟨#[113, 51]⟩, .int .i64 1608, .int .i64 1630, v4])) : Sl F (.slice (some ⟨b, 0, none⟩) 4 4) 4 edE [(v1, edQ1), (v2, edQ2), (v3, edF1), (v4, edQ3)] :=
 sl_box (xs := [(v1, edQ1), (v2, edQ2), (v3, edF1), (v4, edQ3)]) h rfl rfl (fun _ => rfl) (by decide)
theorem spansX_box4 {F : Heap} {b T : Nat} (h : F b = some (bx T [.int .i64 1600, .int .i64 1600, .int .i64 1605, .int .i64 1610, .int .i64 1623, .int .i64 1623, .int .i64 1608, .int .i64 1630])) : Sl F (.slice (some ⟨b, 0, none⟩) 4 4) 2 spanE [(1600, 1600), (1605, 1610), (1623, 1623), (1608, 1630)] :=
 sl_box (xs := ([(1600, 1600), (1605, 1610), (1623, 1623), (1608, 1630)] : List (Int × Int))) h rfl rfl (fun _ => rfl) (by decide)
set_option maxRecDepth 100000 in
theorem printed_ok {F : Heap} (nm : ByteArray) (lo hi a b c : Int) : Ok Try.prog 95 [.string nm, .int .i64 lo, .int .i64 hi, .int .i64 a, .int .i64 b, .int .i64 c].toArray F fun u F' => ∃ v, u = .agg #[.string nm, .int .i64 lo, .int .i64 hi, v] ∧ Ints F' v [a, b, c] := by
 refine Ok.intro Try.func95 rfl Try.ntmps95 rfl fun w0 => ?_
 refine Ag <| Ai fun ds => Bn rfl (Ce zr_64 rfl fun b1 hb1 nb1 => ?_)
 refine Ah <| Ac <| Ag <| Ai fun ds => Aa rfl (Ae (Ak rfl <| Aj rfl)) ?_
 refine Aa rfl (Ae (Ar rfl <| Aj rfl)) ?_
 refine Aa rfl (Ae (Ar rfl <| Ak rfl <| Aj rfl)) ?_
 refine Aa rfl (Eo bt_60 (.cons (Ak rfl <| Ab) rfl (.cons (Ab) rfl .nil)) (.cons rfl rfl (Nat.le_of_ble_eq_true rfl) (.cons (.here) .nil) (.cons rfl rfl (Nat.le_of_ble_eq_true rfl) (.cons (.next <| .here) .nil) .nil))) ?_
 refine Aa rfl (Ae (Aw rfl <| Ak rfl <| Aj rfl)) ?_
 refine Aa rfl (Ae (Aw rfl <| Ar rfl <| Aj rfl)) ?_
 refine Aa rfl (Ae (Aw rfl <| Ar rfl <| Ak rfl <| Aj rfl)) ?_
 refine Bn rfl (Cb Bd Db rfl (.cons (Ar rfl <| Ab) (.cons (Ak rfl <| Ab) (.cons (Ab) .nil))) rfl rfl (by decide) (by simp [Value.oneCell']) fun b2 hb2 nb2 => ?_)
 refine Ca (i := 0) rfl hb2 .here fun F3 hF4 hz5 => ?_
 have hsl6 := ints_box3 hz5
 refine Aa rfl (Eo bt_64 (.cons (Aw rfl <| Ar rfl <| Ak rfl <| Ab) rfl (.cons (Aw rfl <| Ab) rfl (.cons (Ab) rfl .nil))) (.cons rfl rfl (Nat.le_of_ble_eq_true rfl) (.cons (.here) .nil) (.cons rfl rfl (Nat.le_of_ble_eq_true rfl) (.cons (.next <| .here) (.cons (.next <| .next <| .here) .nil)) (.cons rfl rfl (Nat.le_of_ble_eq_true rfl) (.cons (.next <| .next <| .next <| .here) .nil) .nil)))) ?_
 refine Ck (Cg sz_64 (A8 rfl <| Ak rfl <| Ab) (Ab) (i := 0) rfl rfl rfl rfl (by simp [Value.oneCell']) (.here) ?_)
 refine Ah <| Ac <| A7 <| Ax rfl (.agg agg_64 (A8 rfl <| Ak rfl <| Ab) rfl rfl (Bb 0 rfl) .nil) ?_
 exact ⟨_, rfl, hsl6⟩
set_option maxRecDepth 100000 in
theorem stemX_ok {F : Heap} : Ok Try.prog 39 [].toArray F fun u F' => ∃ vp ve ps, u = .agg #[vp, ve] ∧ StmR F' vp ve ps stemX := by
 refine Ok.intro Try.func39 rfl Try.ntmps39 rfl fun w0 => ?_
 refine Ag <| Ai fun ds => Bn rfl (Ce zr_25 rfl fun b1 hb1 nb1 => ?_)
 refine Ah <| Ac <| Ag <| Ai fun ds => Aa rfl (Eo bt_70 (.cons Ad rfl .nil) (.cons rfl rfl (Nat.le_of_ble_eq_true rfl) (.cons (.here) .nil) .nil)) ?_
 refine Aa rfl (Eo bt_70 (.cons Ad rfl (.cons Ad rfl .nil)) (.cons rfl rfl (Nat.le_of_ble_eq_true rfl) (.cons (.here) .nil) (.cons rfl rfl (Nat.le_of_ble_eq_true rfl) (.cons (.next <| .here) .nil) .nil))) ?_
 refine Aa rfl (Eo bt_70 (.cons Ad rfl .nil) (.cons rfl rfl (Nat.le_of_ble_eq_true rfl) (.cons (.here) .nil) .nil)) ?_
 refine Bn rfl (x_buildN (offs := [(0, 2), (2, 2), (4, 2)]) (zl := [.string ⟨#[]⟩, .int .i64 0, .string ⟨#[]⟩, .int .i64 0, .string ⟨#[]⟩, .int .i64 0]) Da zr_70 rfl (.cons (Ar rfl <| Ab) rfl (.cons (Ak rfl <| Ab) rfl (.cons (Ab) rfl .nil))) (by intro i p h; rcases i with _ | _ | _ | i <;> simp at h <;> subst h <;> rfl) (.cons rfl rfl (Nat.le_of_ble_eq_true rfl) (.cons (.here) (.cons (.next <| .here) .nil)) (.cons rfl rfl (Nat.le_of_ble_eq_true rfl) (.cons (.next <| .next <| .here) (.cons (.next <| .next <| .next <| .here) .nil)) (.cons rfl rfl (Nat.le_of_ble_eq_true rfl) (.cons (.next <| .next <| .next <| .next <| .here) (.cons (.next <| .next <| .next <| .next <| .next <| .here) .nil)) .nil))) (by decide) (by decide) fun b2 hb2 nb2 => ?_)
 refine Ca (i := 0) rfl hb2 .here fun F3 hF4 hz5 => ?_
 have hsl6 := plcX_box3 hz5
 refine Bn rfl (Cj bd_95 A1 (.cons Ad (.cons Ad (.cons Ad (.cons Ad (.cons Ad (.cons Ad .nil)))))) (printed_ok _ _ _ _ _ _) fun v7 F8 hr9 hF10 => ?_)
 replace hsl6 := hsl6.mono hF10
 obtain ⟨vq1, rfl, hq1⟩ := hr9
 refine Bn rfl (Cj bd_95 A1 (.cons Ad (.cons Ad (.cons Ad (.cons Ad (.cons Ad (.cons Ad .nil)))))) (printed_ok _ _ _ _ _ _) fun v11 F12 hr13 hF14 => ?_)
 replace hsl6 := hsl6.mono hF14
 replace hq1 := hq1.mono hF14
 obtain ⟨vq2, rfl, hq2⟩ := hr13
 refine Bn rfl (Cj bd_95 A1 (.cons Ad (.cons Ad (.cons Ad (.cons Ad (.cons Ad (.cons Ad .nil)))))) (printed_ok _ _ _ _ _ _) fun v15 F16 hr17 hF18 => ?_)
 replace hsl6 := hsl6.mono hF18
 replace hq1 := hq1.mono hF18
 replace hq2 := hq2.mono hF18
 obtain ⟨vf1, rfl, hf1⟩ := hr17
 refine Bn rfl (Cj bd_95 A1 (.cons Ad (.cons Ad (.cons Ad (.cons Ad (.cons Ad (.cons Ad .nil)))))) (printed_ok _ _ _ _ _ _) fun v19 F20 hr21 hF22 => ?_)
 replace hsl6 := hsl6.mono hF22
 replace hq1 := hq1.mono hF22
 replace hq2 := hq2.mono hF22
 replace hf1 := hf1.mono hF22
 obtain ⟨vq3, rfl, hq3⟩ := hr21
 refine Bn rfl (x_buildN (offs := [(0, 4), (4, 4), (8, 4), (12, 4)]) (zl := [.string ⟨#[]⟩, .int .i64 0, .int .i64 0, .slice none 0 0, .string ⟨#[]⟩, .int .i64 0, .int .i64 0, .slice none 0 0, .string ⟨#[]⟩, .int .i64 0, .int .i64 0, .slice none 0 0, .string ⟨#[]⟩, .int .i64 0, .int .i64 0, .slice none 0 0]) B3 zr_64 rfl (.cons (Ar rfl <| Ak rfl <| Ab) rfl (.cons (Ar rfl <| Ab) rfl (.cons (Ak rfl <| Ab) rfl (.cons (Ab) rfl .nil)))) (by intro i p h; rcases i with _ | _ | _ | _ | i <;> simp at h <;> subst h <;> rfl) (.cons rfl rfl (Nat.le_of_ble_eq_true rfl) (.cons (.here) (.cons (.next <| .here) (.cons (.next <| .next <| .here) (.cons (.next <| .next <| .next <| .here) .nil)))) (.cons rfl rfl (Nat.le_of_ble_eq_true rfl) (.cons (.next <| .next <| .next <| .next <| .here) (.cons (.next <| .next <| .next <| .next <| .next <| .here) (.cons (.next <| .next <| .next <| .next <| .next <| .next <| .here) (.cons (.next <| .next <| .next <| .next <| .next <| .next <| .next <| .here) .nil)))) (.cons rfl rfl (Nat.le_of_ble_eq_true rfl) (.cons (.next <| .next <| .next <| .next <| .next <| .next <| .next <| .next <| .here) (.cons (.next <| .next <| .next <| .next <| .next <| .next <| .next <| .next <| .next <| .here) (.cons (.next <| .next <| .next <| .next <| .next <| .next <| .next <| .next <| .next <| .next <| .here) (.cons (.next <| .next <| .next <| .next <| .next <| .next <| .next <| .next <| .next <| .next <| .next <| .here) .nil)))) (.cons rfl rfl (Nat.le_of_ble_eq_true rfl) (.cons (.next <| .next <| .next <| .next <| .next <| .next <| .next <| .next <| .next <| .next <| .next <| .next <| .here) (.cons (.next <| .next <| .next <| .next <| .next <| .next <| .next <| .next <| .next <| .next <| .next <| .next <| .next <| .here) (.cons (.next <| .next <| .next <| .next <| .next <| .next <| .next <| .next <| .next <| .next <| .next <| .next <| .next <| .next <| .here) (.cons (.next <| .next <| .next <| .next <| .next <| .next <| .next <| .next <| .next <| .next <| .next <| .next <| .next <| .next <| .next <| .here) .nil)))) .nil)))) (by decide) (by decide) fun b23 hb23 nb23 => ?_)
 refine Ca (i := 0) rfl hb23 .here fun F24 hF25 hz26 => ?_
 replace hsl6 := hsl6.mono hF25
 replace hq1 := hq1.mono hF25
 replace hq2 := hq2.mono hF25
 replace hf1 := hf1.mono hF25
 replace hq3 := hq3.mono hF25
 have hsl27 := ednX_box4 hz26
 refine Aa rfl (Eo bt_25 (.cons (Aw rfl <| Ak rfl <| Ab) rfl (.cons (Ab) rfl .nil)) (.cons rfl rfl (Nat.le_of_ble_eq_true rfl) (.cons (.here) .nil) (.cons rfl rfl (Nat.le_of_ble_eq_true rfl) (.cons (.next <| .here) .nil) .nil))) ?_
 refine Ck (Cg sz_25 (A8 rfl <| Ar rfl <| Ab) (Ab) (i := 0) rfl rfl rfl rfl (by simp [Value.oneCell']) (.here) ?_)
 refine Ah <| Ac <| A7 <| Ax rfl (.agg B5 (A8 rfl <| Ar rfl <| Ab) rfl rfl (Bb 0 rfl) .nil) ?_
 refine ⟨_, _, [(vq1, edQ1), (vq2, edQ2), (vf1, edF1), (vq3, edQ3)], rfl, ⟨hsl6, hsl27, ?_, rfl⟩⟩
 intro p hp
 simp only [List.mem_cons, List.not_mem_nil, or_false] at hp
 rcases hp with rfl | rfl | rfl | rfl
 · exact hq1
 · exact hq2
 · exact hf1
 · exact hq3
set_option maxRecDepth 100000 in
theorem awake_ok {F : Heap} : Ok Try.prog 26 [].toArray F fun u _ => u = .bool true := by
 refine Ok.intro Try.func26 rfl Try.ntmps26 rfl fun w0 => ?_
 refine Ag <| Ai fun ds => Aa rfl (Af Ad) ?_
 refine Ah <| Ac <| Ag <| Ai fun ds => Bn rfl (Cj bd_39 A1 .nil stemX_ok fun v1 F2 hr3 hF4 => ?_)
 obtain ⟨vp, ve, ps, rfl, hr⟩ := hr3
 refine Bn rfl (Ce zr_25 rfl fun b5 hb5 nb5 => ?_)
 refine Ck (Cg sz_25 (Ab) (Ak rfl <| Ab) (i := 0) rfl rfl rfl rfl hr.ones (.here) ?_)
 refine Ah <| Ac <| Ag <| Ai fun ds => Bn rfl (Cb Bd Db rfl (.cons Ad (.cons Ad (.cons Ad (.cons Ad .nil)))) rfl rfl (by decide) (by simp [Value.oneCell']) fun b6 hb6 nb6 => ?_)
 refine Ca (i := 0) rfl hb6 .here fun F7 hF8 hz9 => ?_
 replace hr := hr.mono hF8
 have hsl10 := ints_box4 hz9
 refine Aa rfl (Af (Ab)) ?_
 refine Ah <| Ac <| Ag <| Ai fun ds => Aa rfl (Bc B5 (Ar rfl <| Ab) rfl rfl (Bb 0 rfl)) ?_
 refine Bn rfl (Cj bd_18 A1 (.cons (Ab) (.cons Ad (.cons Ad .nil))) ((Es hr 0 2).mono fun u F2 _ h => (by rw [ev_p1] at h; exact h : ∃ ws, u = .tuple #[ws, .int .i64 0] ∧ Nats F2 ws [0, 1])) fun v11 F12 hr13 hF14 => ?_)
 replace hr := hr.mono hF14
 replace hsl10 := hsl10.mono hF14
 obtain ⟨hq1_, rfl, hq1⟩ := hr13
 refine Aa rfl (Ae (Ab)) ?_
 refine Aa rfl (Az (Ab) rfl) ?_
 refine Aa rfl (Az (Ak rfl <| Ab) rfl) ?_
 refine Aa rfl (Af (Ak rfl <| Ab)) ?_
 refine Aa rfl (Af (Ak rfl <| Ab)) ?_
 refine Ah <| Ac <| Ag <| Ai fun ds => Aa rfl (Bc B5 (A8 rfl <| Ak rfl <| Ab) rfl rfl (Bb 0 rfl)) ?_
 refine Bn rfl (Cb Bd Db rfl (.cons Ad (.cons Ad (.cons Ad (.cons Ad .nil)))) rfl rfl (by decide) (by simp [Value.oneCell']) fun b15 hb15 nb15 => ?_)
 refine Ca (i := 0) rfl hb15 .here fun F16 hF17 hz18 => ?_
 replace hr := hr.mono hF17
 replace hsl10 := hsl10.mono hF17
 replace hq1 := hq1.mono hF17
 have hsl19 := ints_box4 hz18
 refine B0 rfl (Bg bd_21 A1 (.cons (Ak rfl <| Ab) (.cons (Ab) .nil)) (changes_top_ok hr (l := starX) hsl19) (fun _ _ h => h.trans (show _ = Value.tuple #[.int .i64 4, .int .i64 0] by unfold changesEV; rw [ev_c1]))) ?_
 refine Aa rfl (Ae (Ab)) ?_
 refine Aa rfl (Az (Ab) rfl) ?_
 refine Aa rfl (Az (Ak rfl <| Ab) rfl) ?_
 refine Aa rfl (Af (Ak rfl <| Ab)) ?_
 refine Aa rfl (Af (Ak rfl <| Ab)) ?_
 refine Ah <| Ac <| Ag <| Ai fun ds => Aa rfl (Bc B5 (A2 rfl <| Ak rfl <| Ab) rfl rfl (Bb 0 rfl)) ?_
 refine Bn rfl (Cb Bd Db rfl (.cons Ad (.cons Ad (.cons Ad (.cons Ad .nil)))) rfl rfl (by decide) (by simp [Value.oneCell']) fun b20 hb20 nb20 => ?_)
 refine Ca (i := 0) rfl hb20 .here fun F21 hF22 hz23 => ?_
 replace hr := hr.mono hF22
 replace hsl10 := hsl10.mono hF22
 replace hq1 := hq1.mono hF22
 have hsl24 := ints_box4 hz23
 refine B0 rfl (Bg bd_21 A1 (.cons (Ak rfl <| Ab) (.cons (Ab) .nil)) (changes_top_ok hr (l := lineX) hsl24) (fun _ _ h => h.trans (show _ = Value.tuple #[.int .i64 0, .int .i64 9] by unfold changesEV; rw [ev_c2]))) ?_
 refine Aa rfl (Ae (Ab)) ?_
 refine Aa rfl (Az (Ab) rfl) ?_
 refine Aa rfl (Az (Ak rfl <| Ab) rfl) ?_
 refine Aa rfl (Af (Ak rfl <| Ab)) ?_
 refine Aa rfl (Af (Ak rfl <| Ab)) ?_
 refine Ah <| Ac <| Ag <| Ai fun ds => Aa rfl (Bc B5 (A2 rfl <| A8 rfl <| Ak rfl <| Ab) rfl rfl (Bb 0 rfl)) ?_
 refine Bn rfl (Cb Bd Db rfl (.cons Ad (.cons Ad (.cons Ad (.cons Ad .nil)))) rfl rfl (by decide) (by simp [Value.oneCell']) fun b25 hb25 nb25 => ?_)
 refine Ca (i := 0) rfl hb25 .here fun F26 hF27 hz28 => ?_
 replace hr := hr.mono hF27
 replace hsl10 := hsl10.mono hF27
 replace hq1 := hq1.mono hF27
 have hsl29 := ints_box4 hz28
 refine Bn rfl (Cj bd_23 A1 (.cons (Ak rfl <| Ab) (.cons (Ab) .nil)) ((Ej hr (l := twoX) hsl29).mono fun u F2 _ h => (by rw [ev_y1] at h; exact h : ∃ ws, u = .tuple #[ws, .int .i64 0] ∧ (fun F v l => Sl F v 2 spanE l) F2 ws [(1600, 1600), (1605, 1610), (1623, 1623), (1608, 1630)])) fun v30 F31 hr32 hF33 => ?_)
 replace hr := hr.mono hF33
 replace hsl10 := hsl10.mono hF33
 replace hq1 := hq1.mono hF33
 obtain ⟨hq2_, rfl, hq2⟩ := hr32
 refine Aa rfl (Ae (Ab)) ?_
 refine Aa rfl (Az (Ab) rfl) ?_
 refine Aa rfl (Az (Ak rfl <| Ab) rfl) ?_
 refine Aa rfl (Af (Ak rfl <| Ab)) ?_
 refine Aa rfl (Af (Ak rfl <| Ab)) ?_
 refine Ah <| Ac <| Ag <| Ai fun ds => Aa rfl (Bc B5 (Ba rfl <| Ak rfl <| Ab) rfl rfl (Bb 0 rfl)) ?_
 refine Bn rfl (Cj bd_27 A1 (.cons (Ab) .nil) ((best_top_ok hr).mono fun u F2 _ h => (by rw [ev_b1] at h; exact h : ∃ ws, u = .tuple #[ws, .int .i64 3, .int .i64 2, .int .i64 0] ∧ Ints F2 ws bestX)) fun v34 F35 hr36 hF37 => ?_)
 replace hr := hr.mono hF37
 replace hsl10 := hsl10.mono hF37
 replace hq1 := hq1.mono hF37
 replace hq2 := hq2.mono hF37
 obtain ⟨hq3_, rfl, hq3⟩ := hr36
 refine Aa rfl (Ae (Ab)) ?_
 refine Aa rfl (Az (Ab) rfl) ?_
 refine Aa rfl (Az (Ak rfl <| Ab) rfl) ?_
 refine Aa rfl (Az (Ar rfl <| Ab) rfl) ?_
 refine Aa rfl (Az (Ar rfl <| Ak rfl <| Ab) rfl) ?_
 refine Aa rfl (Af (Ar rfl <| Ak rfl <| Ab)) ?_
 refine Aa rfl (Af (Ar rfl <| Ak rfl <| Ab)) ?_
 refine Aa rfl (Af (Ar rfl <| Ak rfl <| Ab)) ?_
 refine Aa rfl (Af (Ar rfl <| Ak rfl <| Ab)) ?_
 refine Ah <| Ac <| Ag <| Ai fun ds => Aa rfl (Bc B5 (Ba rfl <| A8 rfl <| Aw rfl <| Ab) rfl rfl (Bb 0 rfl)) ?_
 refine Bn rfl (Cj bd_29 A1 (.cons (Ab) .nil) ((first_top_ok hr).mono fun u F2 _ h => (by rw [ev_f1] at h; exact h : ∃ ws, u = .tuple #[ws, .int .i64 0] ∧ Nats F2 ws [0])) fun v38 F39 hr40 hF41 => ?_)
 replace hr := hr.mono hF41
 replace hsl10 := hsl10.mono hF41
 replace hq1 := hq1.mono hF41
 replace hq2 := hq2.mono hF41
 replace hq3 := hq3.mono hF41
 obtain ⟨hq4_, rfl, hq4⟩ := hr40
 refine Aa rfl (Ae (Ab)) ?_
 refine Aa rfl (Az (Ab) rfl) ?_
 refine Aa rfl (Az (Ak rfl <| Ab) rfl) ?_
 refine Aa rfl (Af (Ak rfl <| Ab)) ?_
 refine Aa rfl (Af (Ak rfl <| Ab)) ?_
 refine Ah <| Ac <| Ag <| Ai fun ds => Aa rfl (Bc B5 (Ba rfl <| A2 rfl <| Ar rfl <| Ak rfl <| Ab) rfl rfl (Bb 0 rfl)) ?_
 refine B0 rfl (Bg bd_31 A1 (.cons (Ab) (.cons Ad (.cons Ad .nil))) (from_top_ok hr 1 2) (fun _ _ h => h.trans (show _ = Value.tuple #[.int .i64 1, .int .i64 0] by unfold fromV; rw [ev_m1]))) ?_
 refine Aa rfl (Ae (Ab)) ?_
 refine Aa rfl (Az (Ab) rfl) ?_
 refine Aa rfl (Az (Ak rfl <| Ab) rfl) ?_
 refine Aa rfl (Af (Ak rfl <| Ab)) ?_
 refine Aa rfl (Af (Ak rfl <| Ab)) ?_
 refine Ah <| Ac <| Ag <| Ai fun ds => Aa rfl (Bc B5 (Ba rfl <| A2 rfl <| A8 rfl <| Ar rfl <| Ab) rfl rfl (Bb 0 rfl)) ?_
 refine Aa rfl (Ae (Ba rfl <| A2 rfl <| A8 rfl <| Ak rfl <| Ab)) ?_
 refine Bn rfl (Cj bd_35 A1 (.cons (Ak rfl <| Ab) (.cons (Ab) (.cons Ad (.cons Ad .nil)))) ((reading_top_ok hr (l := bestX) hsl10 3 0).mono fun u F2 _ h => (by rw [ev_r1] at h; exact h : ∃ ws, u = .tuple #[ws, .int .i64 0] ∧ Ints F2 ws [1])) fun v42 F43 hr44 hF45 => ?_)
 replace hr := hr.mono hF45
 replace hsl10 := hsl10.mono hF45
 replace hq1 := hq1.mono hF45
 replace hq2 := hq2.mono hF45
 replace hq3 := hq3.mono hF45
 replace hq4 := hq4.mono hF45
 obtain ⟨hq5_, rfl, hq5⟩ := hr44
 refine Aa rfl (Ae (Ab)) ?_
 refine Aa rfl (Az (Ab) rfl) ?_
 refine Aa rfl (Az (Ak rfl <| Ab) rfl) ?_
 refine Aa rfl (Af (Ak rfl <| Ab)) ?_
 refine Aa rfl (Af (Ak rfl <| Ab)) ?_
 refine Ah <| Ac <| Ag <| Ai fun ds => Aa rfl (Bc B5 (Ba rfl <| Ba rfl <| Ar rfl <| Ab) rfl rfl (Bb 0 rfl)) ?_
 refine Bn rfl (Cj bd_33 A1 (.cons (Ab) .nil) ((clean_top_ok hr).mono fun u F2 _ h => (by rw [ev_l1] at h; exact h : ∃ ws, u = .tuple #[ws, .int .i64 0] ∧ Nats F2 ws [])) fun v46 F47 hr48 hF49 => ?_)
 replace hr := hr.mono hF49
 replace hsl10 := hsl10.mono hF49
 replace hq1 := hq1.mono hF49
 replace hq2 := hq2.mono hF49
 replace hq3 := hq3.mono hF49
 replace hq4 := hq4.mono hF49
 replace hq5 := hq5.mono hF49
 obtain ⟨hq6_, rfl, hq6⟩ := hr48
 refine Aa rfl (Ae (Ab)) ?_
 refine Aa rfl (Az (Ab) rfl) ?_
 refine Aa rfl (Az (Ak rfl <| Ab) rfl) ?_
 refine Aa rfl (Af (Ak rfl <| Ab)) ?_
 refine Aa rfl (Af (Ak rfl <| Ab)) ?_
 refine Ah <| Ac <| Ag <| Ai fun ds => Aa rfl (Bc B5 (Ba rfl <| Ba rfl <| A8 rfl <| Ak rfl <| Ab) rfl rfl (Bb 0 rfl)) ?_
 refine Bn rfl (Cb Bd Db rfl (.cons Ad (.cons Ad (.cons Ad (.cons Ad .nil)))) rfl rfl (by decide) (by simp [Value.oneCell']) fun b50 hb50 nb50 => ?_)
 refine Ca (i := 0) rfl hb50 .here fun F51 hF52 hz53 => ?_
 replace hr := hr.mono hF52
 replace hsl10 := hsl10.mono hF52
 replace hq1 := hq1.mono hF52
 replace hq2 := hq2.mono hF52
 replace hq3 := hq3.mono hF52
 replace hq4 := hq4.mono hF52
 replace hq5 := hq5.mono hF52
 replace hq6 := hq6.mono hF52
 have hsl54 := ints_box4 hz53
 refine B0 rfl (Bg bd_37 A1 (.cons (Ak rfl <| Ab) (.cons (Ab) (.cons Ad .nil))) (Du hr (l := starX) hsl54 2) (fun _ _ h => h.trans (show _ = Value.tuple #[.int .i64 1, .int .i64 1, .int .i64 0] by unfold secV; rw [ev_s1]))) ?_
 refine Aa rfl (Ae (Ab)) ?_
 refine Aa rfl (Az (Ab) rfl) ?_
 refine Aa rfl (Az (Ak rfl <| Ab) rfl) ?_
 refine Aa rfl (Az (Ar rfl <| Ab) rfl) ?_
 refine Aa rfl (Af (Ar rfl <| Ab)) ?_
 refine Aa rfl (Af (Ar rfl <| Ab)) ?_
 refine Aa rfl (Af (Ar rfl <| Ab)) ?_
 refine Ah <| Ac <| Ag <| Ai fun ds => Aa rfl (Bc B5 (Ba rfl <| Ba rfl <| A2 rfl <| Ar rfl <| Ak rfl <| Ab) rfl rfl (Bb 0 rfl)) ?_
 refine Aa rfl (Ae (Ba rfl <| Ba rfl <| A2 rfl <| Ar rfl <| Ab)) ?_
 refine B0 rfl (Bg bd_37 A1 (.cons (Ak rfl <| Ab) (.cons (Ab) (.cons Ad .nil))) (Du hr (l := bestX) hsl10 2) (fun _ _ h => h.trans (show _ = Value.tuple #[.int .i64 0, .int .i64 0, .int .i64 8] by unfold secV; rw [ev_s2]))) ?_
 refine Aa rfl (Ae (Ab)) ?_
 refine Aa rfl (Az (Ab) rfl) ?_
 refine Aa rfl (Az (Ak rfl <| Ab) rfl) ?_
 refine Aa rfl (Az (Ar rfl <| Ab) rfl) ?_
 refine Aa rfl (Af (Ar rfl <| Ab)) ?_
 refine Aa rfl (Af (Ar rfl <| Ab)) ?_
 refine Aa rfl (Af (Ar rfl <| Ab)) ?_
 refine Ah <| Ac <| Ag <| Ai fun ds => Aa rfl (Ae (Ba rfl <| Ba rfl <| A2 rfl <| Aw rfl <| Ab)) ?_
 refine Aa rfl (Bz (Ab) Ad) ?_
 refine Aa rfl (Ae (Ab)) ?_
 refine Aq rfl rfl (Ab) (by first | rfl | decide) ?_
 refine Aa rfl (Ae (Ba rfl <| Ba rfl <| A8 rfl <| Aw rfl <| Ar rfl <| Ak rfl <| Ab)) ?_
 refine Aq rfl rfl (Ak rfl <| Ab) (by first | rfl | decide) ?_
 refine Aa rfl (Bz (Ab) Ad) ?_
 refine Aa rfl (A5 (Ar rfl <| Ab) (by first | rfl | decide) (Ab)) ?_
 refine Aa rfl (Ae (Ab)) ?_
 refine Aq rfl rfl (Ab) (by first | rfl | decide) ?_
 refine Aa rfl (Ae (Ba rfl <| Ba rfl <| Ar rfl <| Ak rfl <| Ab)) ?_
 refine Aq rfl rfl (Ak rfl <| Ab) (by first | rfl | decide) ?_
 refine Aa rfl (Bz (Ab) Ad) ?_
 refine Aa rfl (A5 (Ar rfl <| Ab) (by first | rfl | decide) (Ab)) ?_
 refine Aa rfl (Ae (Ab)) ?_
 refine Aq rfl rfl (Ab) (by first | rfl | decide) ?_
 refine Aa rfl (Ae (Ba rfl <| A2 rfl <| A8 rfl <| Aw rfl <| Ab)) ?_
 refine Aq rfl rfl (Ak rfl <| Ab) (by first | rfl | decide) ?_
 refine Aa rfl (Bz (Ab) Ad) ?_
 refine Aa rfl (A5 (Ar rfl <| Ab) (by first | rfl | decide) (Ab)) ?_
 refine Aa rfl (Ae (Ab)) ?_
 refine Aq rfl rfl (Ab) (by first | rfl | decide) ?_
 refine Aa rfl (Ae (Ba rfl <| A2 rfl <| A8 rfl <| Ak rfl <| Ab)) ?_
 refine Aq rfl rfl (Ak rfl <| Ab) (by first | rfl | decide) ?_
 refine Aa rfl (Bz (Ab) Ad) ?_
 refine Aa rfl (A5 (Ar rfl <| Ab) (by first | rfl | decide) (Ab)) ?_
 refine Aa rfl (Ae (Ab)) ?_
 refine Aq rfl rfl (Ab) (by first | rfl | decide) ?_
 refine Aa rfl (Ae (Ba rfl <| A2 rfl <| Aw rfl <| Ar rfl <| Ab)) ?_
 refine Aq rfl rfl (Ak rfl <| Ab) (by first | rfl | decide) ?_
 refine Aa rfl (Bz (Ab) Ad) ?_
 refine Aa rfl (A5 (Ar rfl <| Ab) (by first | rfl | decide) (Ab)) ?_
 refine Aa rfl (Ae (Ab)) ?_
 refine Aq rfl rfl (Ab) (by first | rfl | decide) ?_
 refine Aa rfl (Ae (Ba rfl <| A2 rfl <| Ar rfl <| Ab)) ?_
 refine Aq rfl rfl (Ak rfl <| Ab) (by first | rfl | decide) ?_
 refine Aa rfl (Bz (Ab) Ad) ?_
 refine Aa rfl (A5 (Ar rfl <| Ab) (by first | rfl | decide) (Ab)) ?_
 refine Aa rfl (Ae (Ab)) ?_
 refine Aq rfl rfl (Ab) (by first | rfl | decide) ?_
 refine Aa rfl (Ae (Ba rfl <| A8 rfl <| Aw rfl <| Ar rfl <| Ak rfl <| Ab)) ?_
 refine Aq rfl rfl (Ak rfl <| Ab) (by first | rfl | decide) ?_
 refine Aa rfl (Bz (Ab) Ad) ?_
 refine Aa rfl (A5 (Ar rfl <| Ab) (by first | rfl | decide) (Ab)) ?_
 refine Aa rfl (Ae (Ab)) ?_
 refine Aq rfl rfl (Ab) (by first | rfl | decide) ?_
 refine Aa rfl (Ae (Ba rfl <| A8 rfl <| Ak rfl <| Ab)) ?_
 refine Aq rfl rfl (Ak rfl <| Ab) (by first | rfl | decide) ?_
 refine Aa rfl (Bz (Ab) Ad) ?_
 refine Aa rfl (A5 (Ar rfl <| Ab) (by first | rfl | decide) (Ab)) ?_
 refine Aa rfl (Ae (Ab)) ?_
 refine Aq rfl rfl (Ab) (by first | rfl | decide) ?_
 refine Aa rfl (Ae (Ba rfl <| Ba rfl <| Ba rfl <| Aw rfl <| Ar rfl <| Ak rfl <| Ab)) ?_
 refine Aq rfl rfl (Ak rfl <| Ab) (by first | rfl | decide) ?_
 refine Aa rfl (Bz (Ab) Ad) ?_
 refine Aa rfl (A5 (Ar rfl <| Ab) (by first | rfl | decide) (Ab)) ?_
 refine Aa rfl (Ae (Ab)) ?_
 refine Aq rfl rfl (Ab) (by first | rfl | decide) ?_
 refine Aa rfl (Ae (Ba rfl <| Aw rfl <| Ar rfl <| Ak rfl <| Ab)) ?_
 refine Aq rfl rfl (Ak rfl <| Ab) (by first | rfl | decide) ?_
 refine Aa rfl (Bz (Ab) Ad) ?_
 refine Aa rfl (A5 (Ar rfl <| Ab) (by first | rfl | decide) (Ab)) ?_
 refine Aa rfl (Ae (Ab)) ?_
 refine Aq rfl rfl (Ab) (by first | rfl | decide) ?_
 refine Aa rfl (Ae (Ba rfl <| Ba rfl <| Ba rfl <| Ba rfl <| Ab)) ?_
 refine Aq rfl rfl (Ak rfl <| Ab) (by first | rfl | decide) ?_
 refine Bn rfl (Cb Bd Db rfl (.cons Ad (.cons Ad .nil)) rfl rfl (by decide) (by simp [Value.oneCell']) fun b55 hb55 nb55 => ?_)
 refine Ca (i := 0) rfl hb55 .here fun F56 hF57 hz58 => ?_
 replace hsl10 := hsl10.mono hF57
 replace hq1 := hq1.mono hF57
 replace hq2 := hq2.mono hF57
 replace hq3 := hq3.mono hF57
 replace hq4 := hq4.mono hF57
 replace hq5 := hq5.mono hF57
 replace hq6 := hq6.mono hF57
 have hsl59 := ints_box2 hz58
 refine Aq rfl rfl (Ar rfl <| Ab) (by first | rfl | decide) ?_
 refine B0 rfl (Bg bd_20 A1 (.cons (Ak rfl <| Ab) (.cons (Ab) .nil)) (refInts_ok (Nats.ints hq1) hsl59) (fun _ _ h => h)) ?_
 refine Aa rfl (A5 (Ar rfl <| Ak rfl <| Ab) (by first | rfl | decide) (Ab)) ?_
 refine Aa rfl (Ae (Ab)) ?_
 refine Aq rfl rfl (Ab) (by first | rfl | decide) ?_
 refine Aa rfl (Ae (Ba rfl <| Ba rfl <| Ba rfl <| A2 rfl <| A8 rfl <| Aw rfl <| Ak rfl <| Ab)) ?_
 refine Aq rfl rfl (Ak rfl <| Ab) (by first | rfl | decide) ?_
 refine Aa rfl (Bz (Ab) Ad) ?_
 refine Aa rfl (A5 (Ar rfl <| Ab) (by first | rfl | decide) (Ab)) ?_
 refine Aa rfl (Ae (Ab)) ?_
 refine Aq rfl rfl (Ab) (by first | rfl | decide) ?_
 refine Aa rfl (Ae (Ba rfl <| Ba rfl <| Ba rfl <| A2 rfl <| Ak rfl <| Ab)) ?_
 refine Aq rfl rfl (Ak rfl <| Ab) (by first | rfl | decide) ?_
 refine Aa rfl (Eo bt_60 (.cons Ad rfl (.cons Ad rfl .nil)) (.cons rfl rfl (Nat.le_of_ble_eq_true rfl) (.cons (.here) .nil) (.cons rfl rfl (Nat.le_of_ble_eq_true rfl) (.cons (.next <| .here) .nil) .nil))) ?_
 refine Aq rfl rfl (Ar rfl <| Ab) (by first | rfl | decide) ?_
 refine Aa rfl (Eo bt_60 (.cons Ad rfl (.cons Ad rfl .nil)) (.cons rfl rfl (Nat.le_of_ble_eq_true rfl) (.cons (.here) .nil) (.cons rfl rfl (Nat.le_of_ble_eq_true rfl) (.cons (.next <| .here) .nil) .nil))) ?_
 refine Aq rfl rfl (Ar rfl <| Ak rfl <| Ab) (by first | rfl | decide) ?_
 refine Aa rfl (Eo bt_60 (.cons Ad rfl (.cons Ad rfl .nil)) (.cons rfl rfl (Nat.le_of_ble_eq_true rfl) (.cons (.here) .nil) (.cons rfl rfl (Nat.le_of_ble_eq_true rfl) (.cons (.next <| .here) .nil) .nil))) ?_
 refine Aq rfl rfl (Aw rfl <| Ab) (by first | rfl | decide) ?_
 refine Aa rfl (Eo bt_60 (.cons Ad rfl (.cons Ad rfl .nil)) (.cons rfl rfl (Nat.le_of_ble_eq_true rfl) (.cons (.here) .nil) (.cons rfl rfl (Nat.le_of_ble_eq_true rfl) (.cons (.next <| .here) .nil) .nil))) ?_
 refine Aq rfl rfl (Aw rfl <| Ak rfl <| Ab) (by first | rfl | decide) ?_
 refine Bn rfl (x_buildN (offs := [(0, 2), (2, 2), (4, 2), (6, 2)]) (zl := [.int .i64 0, .int .i64 0, .int .i64 0, .int .i64 0, .int .i64 0, .int .i64 0, .int .i64 0, .int .i64 0]) Ek zr_60 rfl (.cons (Ar rfl <| Ak rfl <| Ab) rfl (.cons (Ar rfl <| Ab) rfl (.cons (Ak rfl <| Ab) rfl (.cons (Ab) rfl .nil)))) (by intro i p h; rcases i with _ | _ | _ | _ | i <;> simp at h <;> subst h <;> rfl) (.cons rfl rfl (Nat.le_of_ble_eq_true rfl) (.cons (.here) (.cons (.next <| .here) .nil)) (.cons rfl rfl (Nat.le_of_ble_eq_true rfl) (.cons (.next <| .next <| .here) (.cons (.next <| .next <| .next <| .here) .nil)) (.cons rfl rfl (Nat.le_of_ble_eq_true rfl) (.cons (.next <| .next <| .next <| .next <| .here) (.cons (.next <| .next <| .next <| .next <| .next <| .here) .nil)) (.cons rfl rfl (Nat.le_of_ble_eq_true rfl) (.cons (.next <| .next <| .next <| .next <| .next <| .next <| .here) (.cons (.next <| .next <| .next <| .next <| .next <| .next <| .next <| .here) .nil)) .nil)))) (by decide) (by decide) fun b60 hb60 nb60 => ?_)
 refine Ca (i := 0) rfl hb60 .here fun F61 hF62 hz63 => ?_
 replace hsl10 := hsl10.mono hF62
 replace hq2 := hq2.mono hF62
 replace hq3 := hq3.mono hF62
 replace hq4 := hq4.mono hF62
 replace hq5 := hq5.mono hF62
 replace hq6 := hq6.mono hF62
 have hsl64 := spansX_box4 hz63
 refine Aq rfl rfl (Aw rfl <| Ar rfl <| Ab) (by first | rfl | decide) ?_
 refine B0 rfl (Bg bd_25 A1 (.cons (Aw rfl <| Ak rfl <| Ab) (.cons (Ab) .nil)) (refSpans_ok hq2 hsl64) (fun _ _ h => h)) ?_
 refine Aa rfl (A5 (Aw rfl <| Ar rfl <| Ak rfl <| Ab) (by first | rfl | decide) (Ab)) ?_
 refine Aa rfl (Ae (Ab)) ?_
 refine Aq rfl rfl (Ab) (by first | rfl | decide) ?_
 refine Aa rfl (Ae (Ba rfl <| Ba rfl <| Ba rfl <| A2 rfl <| Ak rfl <| Ab)) ?_
 refine Aq rfl rfl (Ak rfl <| Ab) (by first | rfl | decide) ?_
 refine Aa rfl (Ae (Ba rfl <| Ba rfl <| Ba rfl <| Ba rfl <| A2 rfl <| A8 rfl <| Ak rfl <| Ab)) ?_
 refine Aq rfl rfl (Ar rfl <| Ab) (by first | rfl | decide) ?_
 refine B0 rfl (Bg bd_20 A1 (.cons (Ak rfl <| Ab) (.cons (Ab) .nil)) (refInts_ok hq3 hsl10) (fun _ _ h => h)) ?_
 refine Aa rfl (A5 (Ar rfl <| Ak rfl <| Ab) (by first | rfl | decide) (Ab)) ?_
 refine Aa rfl (Ae (Ab)) ?_
 refine Aq rfl rfl (Ab) (by first | rfl | decide) ?_
 refine Aa rfl (Ae (Ba rfl <| Ba rfl <| Ba rfl <| A2 rfl <| Aw rfl <| Ak rfl <| Ab)) ?_
 refine Aq rfl rfl (Ak rfl <| Ab) (by first | rfl | decide) ?_
 refine Aa rfl (Bz (Ab) Ad) ?_
 refine Aa rfl (A5 (Ar rfl <| Ab) (by first | rfl | decide) (Ab)) ?_
 refine Aa rfl (Ae (Ab)) ?_
 refine Aq rfl rfl (Ab) (by first | rfl | decide) ?_
 refine Aa rfl (Ae (Ba rfl <| Ba rfl <| Ba rfl <| A2 rfl <| A8 rfl <| Ab)) ?_
 refine Aq rfl rfl (Ak rfl <| Ab) (by first | rfl | decide) ?_
 refine Aa rfl (Bz (Ab) Ad) ?_
 refine Aa rfl (A5 (Ar rfl <| Ab) (by first | rfl | decide) (Ab)) ?_
 refine Aa rfl (Ae (Ab)) ?_
 refine Aq rfl rfl (Ab) (by first | rfl | decide) ?_
 refine Aa rfl (Ae (Ba rfl <| Ba rfl <| Ba rfl <| A2 rfl <| Aw rfl <| Ak rfl <| Ab)) ?_
 refine Aq rfl rfl (Ak rfl <| Ab) (by first | rfl | decide) ?_
 refine Bn rfl (Cb Bd Db rfl (.cons Ad .nil) rfl rfl (by decide) (by simp [Value.oneCell']) fun b65 hb65 nb65 => ?_)
 refine Ca (i := 0) rfl hb65 .here fun F66 hF67 hz68 => ?_
 replace hq4 := hq4.mono hF67
 replace hq5 := hq5.mono hF67
 replace hq6 := hq6.mono hF67
 have hsl69 := C1 hz68
 refine Aq rfl rfl (Ar rfl <| Ab) (by first | rfl | decide) ?_
 refine B0 rfl (Bg bd_20 A1 (.cons (Ak rfl <| Ab) (.cons (Ab) .nil)) (refInts_ok (Nats.ints hq4) hsl69) (fun _ _ h => h)) ?_
 refine Aa rfl (A5 (Ar rfl <| Ak rfl <| Ab) (by first | rfl | decide) (Ab)) ?_
 refine Aa rfl (Ae (Ab)) ?_
 refine Aq rfl rfl (Ab) (by first | rfl | decide) ?_
 refine Aa rfl (Ae (Ba rfl <| Ba rfl <| Ba rfl <| A2 rfl <| Ar rfl <| Ak rfl <| Ab)) ?_
 refine Aq rfl rfl (Ak rfl <| Ab) (by first | rfl | decide) ?_
 refine Aa rfl (Bz (Ab) Ad) ?_
 refine Aa rfl (A5 (Ar rfl <| Ab) (by first | rfl | decide) (Ab)) ?_
 refine Aa rfl (Ae (Ab)) ?_
 refine Aq rfl rfl (Ab) (by first | rfl | decide) ?_
 refine Aa rfl (Ae (Ba rfl <| Ba rfl <| Ba rfl <| A8 rfl <| Aw rfl <| Ar rfl <| Ak rfl <| Ab)) ?_
 refine Aq rfl rfl (Ak rfl <| Ab) (by first | rfl | decide) ?_
 refine Bn rfl (Cb Bd Db rfl (.cons Ad .nil) rfl rfl (by decide) (by simp [Value.oneCell']) fun b70 hb70 nb70 => ?_)
 refine Ca (i := 0) rfl hb70 .here fun F71 hF72 hz73 => ?_
 replace hq5 := hq5.mono hF72
 replace hq6 := hq6.mono hF72
 have hsl74 := C1 hz73
 refine Aq rfl rfl (Ar rfl <| Ab) (by first | rfl | decide) ?_
 refine B0 rfl (Bg bd_20 A1 (.cons (Ak rfl <| Ab) (.cons (Ab) .nil)) (refInts_ok hq5 hsl74) (fun _ _ h => h)) ?_
 refine Aa rfl (A5 (Ar rfl <| Ak rfl <| Ab) (by first | rfl | decide) (Ab)) ?_
 refine Aa rfl (Ae (Ab)) ?_
 refine Aq rfl rfl (Ab) (by first | rfl | decide) ?_
 refine Aa rfl (Ae (Ba rfl <| Ba rfl <| Ba rfl <| A8 rfl <| Aw rfl <| Ak rfl <| Ab)) ?_
 refine Aq rfl rfl (Ak rfl <| Ab) (by first | rfl | decide) ?_
 refine Aa rfl (Bl Bd (Ab) hq6.plain) ?_
 refine Aq rfl rfl (Ar rfl <| Ab) (by first | rfl | decide) ?_
 refine Aa rfl (Bz (Ab) Ad) ?_
 refine Aa rfl (A5 (Ar rfl <| Ak rfl <| Ab) (by first | rfl | decide) (Ab)) ?_
 refine Aa rfl (Ae (Ab)) ?_
 refine Aq rfl rfl (Ab) (by first | rfl | decide) ?_
 refine Aa rfl (Ae (Ba rfl <| Ba rfl <| Ba rfl <| A8 rfl <| Ak rfl <| Ab)) ?_
 refine Aq rfl rfl (Ak rfl <| Ab) (by first | rfl | decide) ?_
 refine Aa rfl (Bz (Ab) Ad) ?_
 refine Aa rfl (A5 (Ar rfl <| Ab) (by first | rfl | decide) (Ab)) ?_
 refine Aa rfl (Ae (Ab)) ?_
 refine Aq rfl rfl (Ab) (by first | rfl | decide) ?_
 refine Aa rfl (Ae (Ba rfl <| Ba rfl <| Ba rfl <| A8 rfl <| Aw rfl <| Ab)) ?_
 refine Aq rfl rfl (Ak rfl <| Ab) (by first | rfl | decide) ?_
 refine Aa rfl (Bz (Ab) Ad) ?_
 refine Aa rfl (A5 (Ar rfl <| Ab) (by first | rfl | decide) (Ab)) ?_
 refine Aa rfl (Af (Ab)) ?_
 refine Ah <| Ac <| A7 <| Ax rfl (.tmp (Ab) .nil) ?_
 show _ = _
 first | rfl | decide
end Go.Proofs.Ytccogmkhijgelaa
namespace Go.Proofs.Ytccogmkhijgelaa
def turnN (xs : List Nat) (n : Nat) : Nat := xs[n % xs.length]?.getD 0
theorem turnN_lt {xs : List Nat} (h : ∀ x ∈ xs, x < 256) {n : Nat} : turnN xs n < 256 := by
 unfold turnN
 cases hx : xs[n % xs.length]? with
 | none => decide
 | some x => exact h x (List.mem_of_getElem? hx)
theorem turnN_nil {n : Nat} : turnN [] n = 0 := by simp [turnN]
theorem turnN_at {xs : List Nat} {n : Nat} (h : n % xs.length < xs.length) : turnN xs n = xs[n % xs.length] := by simp [turnN, h]
/-- What was taken so far, and what is left. -/
structure TreeI (n : Nat) (g : Nat → Int) (taken left : List Nat) : Prop where
 nodup : (taken ++ left).Nodup
 len : taken.length + left.length = n
 all : ∀ i, i < n ↔ i ∈ taken ++ left
 root : ∀ (h : 0 < taken.length), g taken[0] = -1
 up : ∀ j (h : j < taken.length), 0 < j → ∃ k, ∃ hk : k < j, g taken[j] = (taken[k] : Int)
theorem TreeI.start {n : Nat} {g : Nat → Int} : TreeI n g [] (List.range n) := ⟨by simpa using List.nodup_range, by simp, fun i => by simp, fun h => absurd h (by simp), fun j h => absurd h (by simp)⟩
theorem erase_perm {α : Type} {l : List α} {k : Nat} (hk : k < l.length) : l.Perm (l[k] :: l.eraseIdx k) := by
 rw [List.eraseIdx_eq_take_drop_succ]
 have h : l = l.take k ++ l[k] :: l.drop (k + 1) := by rw [← List.drop_eq_getElem_cons hk, List.take_append_drop]
 conv => lhs; rw [h]
 exact List.perm_middle
section
variable {n : Nat} {g : Nat → Int} {taken left : List Nat} {k : Nat}
theorem TreeI.perm (hk : k < left.length) : (taken ++ left).Perm ((taken ++ [left[k]]) ++ left.eraseIdx k) := by
 rw [List.append_assoc]
 exact (erase_perm hk).append_left taken
theorem TreeI.fresh (h : TreeI n g taken left) (hk : k < left.length) {j : Nat} (hj : j < taken.length) : taken[j] ≠ left[k] := fun he => by
 have := (List.nodup_append.1 h.nodup).2.2 _ (List.getElem_mem hj) _ (List.getElem_mem hk)
 exact this he
theorem TreeI.lt (h : TreeI n g taken left) (hk : k < left.length) : left[k] < n := (h.all _).2 (List.mem_append_right _ (List.getElem_mem hk))
theorem TreeI.step (h : TreeI n g taken left) (hk : k < left.length) {g' : Nat → Int} (hg : ∀ i, i ≠ left[k] → g' i = g i) (h0 : taken.length = 0 → g' left[k] = -1) (h1 : 0 < taken.length → ∃ q, ∃ hq : q < taken.length, g' left[k] = (taken[q] : Int)) :
   TreeI n g' (taken ++ [left[k]]) (left.eraseIdx k) := by
 have hp := TreeI.perm (taken := taken) hk
 refine ⟨hp.nodup_iff.1 h.nodup, by have := h.len; rw [List.length_append, List.length_eraseIdx_of_lt hk, List.length_singleton]; omega, fun i => (h.all i).trans hp.mem_iff, fun hl => ?_, fun j hj hj0 => ?_⟩
 · by_cases ht : 0 < taken.length
   · rw [List.getElem_append_left ht, hg _ (h.fresh hk ht)]; exact h.root ht
   · rw [List.getElem_append_right (by omega)]
     simp only [List.getElem_singleton]
     exact h0 (by omega)
 · by_cases ht : j < taken.length
   · obtain ⟨q, hq, he⟩ := h.up j ht hj0
     refine ⟨q, hq, ?_⟩
     rw [List.getElem_append_left ht, List.getElem_append_left (by omega), hg _ (h.fresh hk ht)]; exact he
   · have hj2 : j = taken.length := by simp at hj; omega
     subst hj2
     obtain ⟨q, hq, he⟩ := h1 hj0
     refine ⟨q, hq, ?_⟩
     rw [List.getElem_append_right (Nat.le_refl _), List.getElem_append_left hq]
     simp only [List.getElem_singleton]
     exact he
end
theorem reach_le {l : List Int} {i f : Nat} (h : reach l f i = true) : ∀ d, reach l (f + d) i = true
 | 0 => h
 | d + 1 => reach_succ (reach_le h d)
theorem firsts_uniq {l : List Int} {r : Nat} (hr : upN l r = -1) : ∀ {k : Nat}, (∀ i, i < k → upN l i = -1 → i = r) → firstsN l k = if r < k then 1 else 0
 | 0, _ => by simp [firstsN]
 | k + 1, h => by
   unfold firstsN
   rw [firsts_uniq hr (fun i hi => h i (by omega))]
   by_cases hk : upN l k = -1
   · have := h k (by omega) hk
     subst this
     rw [if_pos hk, if_neg (by omega), if_pos (by omega)]; rfl
   · rw [if_neg hk]
     have : r ≠ k := fun e => hk (by rw [← e]; exact hr)
     by_cases hrk : r < k
     · rw [if_pos hrk, if_pos (by omega)]
     · rw [if_neg hrk, if_neg (by omega)]
def listG (g : Nat → Int) (n : Nat) : List Int := (List.range n).map g
theorem TreeI.tree {n : Nat} {g : Nat → Int} {taken : List Nat} (h : TreeI n g taken []) (hn : 0 < n) : IsTree (listG g n) := by
 have hlen : (listG g n).length = n := by simp [listG]
 have hup : ∀ i, i < n → upN (listG g n) i = g i := fun i hi => upN_map hi
 have hall : ∀ i, i < n ↔ i ∈ taken := fun i => by rw [h.all i, List.append_nil]
 have htl : taken.length = n := by have := h.len; simpa using this
 have hlt : ∀ j (hj : j < taken.length), taken[j] < n := fun j hj => (hall _).2 (List.getElem_mem hj)
 refine ⟨fun i hi => ?_, fun i hi => ?_, ?_⟩
 · rw [hlen] at hi ⊢
   rw [hup i hi]
   obtain ⟨j, hj, rfl⟩ := List.getElem_of_mem ((hall i).1 hi)
   by_cases hj0 : j = 0
   · subst hj0; rw [h.root hj]; omega
   · obtain ⟨k, hk, he⟩ := h.up j hj (by omega)
     rw [he]
     have := hlt k (by omega)
     omega
 · rw [hlen] at hi ⊢
   obtain ⟨j, hj, rfl⟩ := List.getElem_of_mem ((hall i).1 hi)
   have key : ∀ j (hj : j < taken.length), reach (listG g n) j taken[j] = true := by
     intro j
     induction j using Nat.strongRecOn with
     | _ j ih =>
       intro hj
       by_cases hj0 : j = 0
       · subst hj0; exact reach_end (by rw [hup _ (hlt 0 hj)]; exact h.root hj)
       · obtain ⟨k, hk, he⟩ := h.up j hj (by omega)
         obtain ⟨j', rfl⟩ : ∃ j', j = j' + 1 := ⟨j - 1, by omega⟩
         rw [reach_step (j := taken[k]) (by rw [hup _ (hlt _ hj)]; exact he)]
         have := reach_le (ih k hk (by omega)) (j' - k)
         rw [show k + (j' - k) = j' by omega] at this
         exact this
   have := reach_le (key j hj) (n - j)
   rw [show j + (n - j) = n by omega] at this
   exact this
 · rw [hlen]
   have h0 : 0 < taken.length := by omega
   rw [firsts_uniq (r := taken[0]) (by rw [hup _ (hlt 0 h0)]; exact h.root h0) fun i hi hu => ?_, if_pos (hlt 0 h0)]
   rw [hup i hi] at hu
   obtain ⟨j, hj, rfl⟩ := List.getElem_of_mem ((hall i).1 hi)
   by_cases hj0 : j = 0
   · subst hj0; rfl
   · obtain ⟨k, hk, he⟩ := h.up j hj (by omega)
     omega
end Go.Proofs.Ytccogmkhijgelaa
namespace Go.Proofs.Ytccogmkhijgelaa
open Go.RowKit
theorem bd_96 : Body Try.prog 96 := Br (by kernel_rfl)
theorem one_5 : OneT Try.prog 5 := Dy (by kernel_rfl)
theorem sl_50 : SliceT Try.prog 50 5 1 := Ef (by kernel_rfl)
set_option maxRecDepth 100000 in
theorem valid_ok {F : Heap} {vp ve : Value} {ps : List (Value × Edn)} {s : Stm} (hr : StmR F vp ve ps s) : Ok Try.prog 40 [.agg #[vp, ve]].toArray F fun u _ => u = .bool (decide ((checkT s).2.2 = 0)) := by
 refine Ok.intro Try.func40 rfl Try.ntmps40 rfl fun w0 => ?_
 refine Ag <| Ai fun ds => Bn rfl (B7 (Aj rfl) rfl fun b1 hb1 nb1 => ?_)
 refine Aa rfl (Af Ad) ?_
 refine Ah <| Ac <| Ag <| Ai fun ds => Aa rfl (Bc B5 (Ak rfl <| Ab) rfl rfl (Bb 0 rfl)) ?_
 refine B0 rfl (Bg bd_17 A1 (.cons (Ab) .nil) (refCheckT_ok hr) (fun _ _ h => h.trans (show checkTV s = .tuple #[.int .i64 (checkT s).1, .int .i64 (checkT s).2.1, .int .i64 (checkT s).2.2] from rfl))) ?_
 refine Aa rfl (Ae (Ab)) ?_
 refine Aa rfl (Az (Ab) rfl) ?_
 refine Aa rfl (Az (Ak rfl <| Ab) rfl) ?_
 refine Aa rfl (Az (Ar rfl <| Ab) rfl) ?_
 refine Aa rfl (Af (Ar rfl <| Ab)) ?_
 refine Aa rfl (Af (Ar rfl <| Ab)) ?_
 refine Aa rfl (Af (Ar rfl <| Ab)) ?_
 refine Ah <| Ac <| Ag <| Ai fun ds => Aa rfl (Ae (Ab)) ?_
 refine Aa rfl (Bz (Ab) Ad) ?_
 refine Aa rfl (Af (Ab)) ?_
 refine Ah <| Ac <| A7 <| Ax rfl (.tmp (Ab) .nil) ?_
 rfl
set_option maxRecDepth 100000 in
theorem turn_ok {F : Heap} {vx : Value} {xs : List Nat} (hxs : Sl F vx 1 u8E xs) (hxb : ∀ x ∈ xs, x < 256) {n : Nat} {z : Int} (hz : z = (n : Int)) : Ok Try.prog 96 [vx, .int .i64 z].toArray F fun u _ => u = .int .i64 (turnN xs n : Int) := by
 subst hz
 refine Ok.intro Try.func96 rfl Try.ntmps96 rfl fun w0 => ?_
 have hL := hxs.plain.lt
 by_cases h0 : xs.length = 0
 ·
  refine Ag <| Ai fun ds => Aa rfl (Af Ad) ?_
  refine Ah <| Ac <| Ag <| Ag <| Ai fun ds => Aa rfl (Ae (Ak rfl <| Aj rfl)) ?_
  refine Aa rfl (Bl sl_50 (Ab) hxs.plain) ?_
  refine Aa rfl (Bz (Ab) Ad) ?_
  refine Ah <| Ac <| As (Ab) (by first | rfl | exact decide_eq_true (by omega)) ?_
  refine Ag <| Ai fun ds => Aa rfl (Af Ad) ?_
  refine Ah <| Ac <| A7 <| Be ?_
  refine Ax rfl (.tmp (Ab) .nil) ?_
  show _ = _
  have : xs = [] := List.eq_nil_of_length_eq_zero h0
  subst this
  rw [turnN_nil]; rfl
 ·
  refine Ag <| Ai fun ds => Aa rfl (Af Ad) ?_
  refine Ah <| Ac <| Ag <| Ag <| Ai fun ds => Aa rfl (Ae (Ak rfl <| Aj rfl)) ?_
  refine Aa rfl (Bl sl_50 (Ab) hxs.plain) ?_
  refine Aa rfl (Bz (Ab) Ad) ?_
  refine Ah <| Ac <| Ap (Ab) (by first | rfl | exact decide_eq_false (by omega)) ?_
  have hlt : n % xs.length < xs.length := Nat.mod_lt _ (by omega)
  have hb := hxb _ (List.getElem_mem hlt)
  refine Ay <| Ac <| Ag <| Ai fun ds => Aa rfl (Ae (Aw rfl <| Aj rfl)) ?_
  refine Aa rfl (Ae (Aw rfl <| Ak rfl <| Aj rfl)) ?_
  refine Aa rfl (Ae (Aw rfl <| Ar rfl <| Aj rfl)) ?_
  refine Aa rfl (Bl sl_50 (Ab) hxs.plain) ?_
  refine Aa rfl (q_rem (Ar rfl <| Ab) (Ab) (Int.natCast_nonneg _) (by omega)) ?_
  refine Aa rfl (A6 (k := n % xs.length) sl_50 (Aw rfl <| Ab) hxs.plain (Ab) (by omega) hlt) ?_
  refine Aa rfl (Ao one_5 (Ab) (hxs.cell1 hlt rfl)) ?_
  refine Aa rfl (D2 ⟨_, Try.underlying5⟩ Try.underlying3 (Ab) (IntWalk.i64_in _ ⟨by omega, by omega⟩)) ?_
  refine Aa rfl (Af (Ab)) ?_
  refine Ah <| Ac <| A7 <| Ax rfl (.tmp (Ab) .nil) ?_
  show _ = _
  rw [turnN_at hlt]; rfl
theorem iL_zero {n : Nat} : List.replicate n (Value.int .i64 0) = (iL (fun _ => 0) n).flatMap intE := by
 induction n with
 | zero => rfl
 | succ n ih => rw [List.replicate_succ', iL_succ, List.flatMap_append, ih]; rfl
theorem nat_get {xs : List Nat} {i : Nat} (h : i < xs.length) : (xs.flatMap natE)[i * 1]? = some (.int .i64 (xs[i] : Int)) := flat_at (enc := natE) (s := 1) (fun _ => rfl) (j := 0) xs i h rfl
theorem set_one {g : Nat → Int} {i : Nat} {v w : Int} : updI (updI g i v) i w = updI g i w := by funext j; unfold updI; split <;> rfl
theorem row_addr {b n c : Nat} : addc (base (.slice (some ⟨b, 0, none⟩) n n)) (c * 1) = ⟨b, c * 1, none⟩ := by simp [base, addc]
theorem updI_ne {g : Nat → Int} {i : Nat} {v : Int} : ∀ j, j ≠ i → updI g i v j = g j := fun j h => by unfold updI; rw [if_neg h]
theorem updI_eq {g : Nat → Int} {i : Nat} {v : Int} : updI g i v i = v := by unfold updI; rw [if_pos rfl]
set_option maxRecDepth 100000 in
theorem tree_ok7 {F : Heap} {vx : Value} {xs : List Nat} (hxs : Sl F vx 1 u8E xs) (hxb : ∀ x ∈ xs, x < 256) {many : Nat} (hm0 : 0 < many) (hm5 : many ≤ 5) : Ok Try.prog 41 [.int .i64 (many : Int), vx].toArray F fun u F' => ∃ l, Ints F' u l ∧ l.length = many ∧ IsTree l := by
 have hle0 : F.le F := Heap.le_refl _
 refine Ok.intro Try.func41 rfl Try.ntmps41 rfl fun w0 => ?_
 have hxl := hxs.plain.lt
 refine Ag <| Ai fun ds => Aa rfl (Af Ad) ?_
 refine Ah <| Ac <| Ag <| Ai fun ds => Aa rfl (Ae (Ak rfl <| Aj rfl)) ?_
 refine Bn rfl (x_make (k := many) Bd el_3 rfl rfl (Ab) (Ab) rfl (by omega) (by omega) fun b1 hb1 nb1 => ?_)
 refine Aa rfl (Af (Ab)) ?_
 refine Ah <| Ac <| Ag <| Ai fun ds => Aa rfl (Af Ad) ?_
 refine Aa rfl (Af Ad) ?_
 refine Ah <| Ac <| Ag <| Ag <| Ai fun ds => Aa rfl (Af Ad) ?_
 refine Ah <| Ac <| A0 <| Bv [6, 8, 13, 14, 15, 16, 17, 18, 19, 20, 21] (fun m e σ => ∃ k : Nat, m + k = many ∧ e 8 = .int .i64 (k : Int) ∧ ∃ v6 R6, e 6 = v6 ∧ Own 3 1 v6 (List.range k).length ((List.range k).flatMap natE) R6 ∧ σ = ⟨F, (b1, bx 3 ((iL (fun _ => 0) many).flatMap intE)) :: R6⟩) (many) ?_ ?_
 · exact ⟨0, by omega, (Ab), _, _, (Ar rfl <| Ab), Own.nil, by rw [iL_zero]⟩
 ·
  rintro m e _ ⟨k, hm9, hs8, v6, R6, hs6, ho, rfl⟩; have hrl : (List.range k).length = k := List.length_range
  by_cases hlt : k < many
  ·
   refine Ag <| Ag <| Ai fun ds => Aa rfl (Ae (At rfl hs8)) ?_
   refine Aa rfl (Ae (Ak rfl <| Al rfl <| Aw rfl <| Ar rfl <| Ak rfl <| Aj rfl)) ?_
   refine Aa rfl (Bw (Ak rfl <| Ab) (Ab)) ?_
   refine Ah <| Ac <| As (Ab) (by first | rfl | exact decide_eq_true (by omega)) ?_
   refine Ay <| Ac <| Ag <| A0 <| Ai fun ds => Aa rfl (Ae (Ar rfl <| Ak rfl <| At rfl hs6)) ?_
   refine Aa rfl (Ae (Aw rfl <| At rfl hs8)) ?_
   refine Bn rfl (Cb Bd Db rfl (.cons (Ab) .nil) rfl rfl (by decide) (by simp [Value.oneCell']) fun b3 hb3 nb3 => ?_)
   refine Bn rfl (Co Bd el_3 (Ar rfl <| Ab) ho (Ab) (Dj (s := 1) 0 rfl rfl (by simp [Value.oneCell'])) (by omega) (by omega) (.s <| .s <| .z) .last fun v4 R5 ho6 => ?_)
   have ho2 := ho6.snoc (x := k) rfl rfl
   refine Aa rfl (Af (Ab)) ?_
   refine Ah <| Bf <| Ac <| Di (fun _ _ h => h.drop (.cons _ <| .cons_cons _ <| .refl _)) ?_
   refine Ai fun ds => Aa rfl (Ae (A8 rfl <| At rfl hs8)) ?_
   refine Aa rfl (Bx (Ab) Ad rfl (by omega) (by omega)) ?_
   refine Aa rfl (Af (Ab)) ?_
   refine Ah <| Ac ⟨_, m - 1, Off.eq (D5 rfl <| ou2 rfl <| D0 rfl <| Bi), by omega, ?_⟩
   exact ⟨k + 1, by omega, (Ab), _, _, (Ar rfl <| Ak rfl <| Ab), by rw [List.range_succ]; exact ho2, rfl⟩
  ·
   refine Ag <| Ag <| Ai fun ds => Aa rfl (Ae (At rfl hs8)) ?_
   refine Aa rfl (Ae (Ak rfl <| Al rfl <| Aw rfl <| Ar rfl <| Ak rfl <| Aj rfl)) ?_
   refine Aa rfl (Bw (Ak rfl <| Ab) (Ab)) ?_
   refine Ah <| Ac <| Ap (Ab) (by first | rfl | exact decide_eq_false (by omega)) ?_
   obtain rfl : many = k := by omega
   refine Cw (σ := ⟨_, _⟩) (by rfl) ho (.s <| .z) .last fun F7 hF8 hz9 => ?_
   replace hxs := hxs.mono hF8
   replace hle0 := Heap.le_trans hle0 hF8
   have hlf := ho.sl (fun _ => rfl) hz9 (by omega)
   refine Bs ?_
   refine Bh <| Bh <| Bk <| Ac <| Ag <| A0 <| Bv [6, 7, 9, 10, 22, 23, 24, 25, 26, 27, 28, 29, 30, 31, 32, 33, 34, 35, 36, 37, 38, 39, 40, 41, 42, 43, 44, 45, 46, 47, 48, 49, 50, 51, 52, 53, 54, 55, 56, 57, 58, 59, 60, 61, 62, 63, 64, 65, 66, 67, 68, 69, 70, 71] (fun m e σ => ∃ G, F7.le G ∧ ∃ (g : Nat → Int) (taken left : List Nat) (v6 v7 : Value) (R7 : List (Nat × Obj)), m = left.length ∧ e 6 = v6 ∧ e 7 = v7 ∧ Nats G v6 left ∧ Own 3 1 v7 taken.length (taken.flatMap natE) R7 ∧ TreeI many g taken left ∧ σ = ⟨G, (b1, bx 3 ((iL g many).flatMap intE)) :: R7⟩) (many) ?_ ?_
   · exact ⟨_, Heap.le_refl _, fun _ => 0, [], _, _, _, _, List.length_range.symm, (Ar rfl <| Ak rfl <| At rfl hs6), (Ar rfl <| Ak rfl <| Al rfl <| Ak rfl <| Ab), hlf, Ea, TreeI.start, rfl⟩
   ·
    rintro m2 e2 _ ⟨G, hFG, g, taken, left, v6, v7, R7, rfl, ht6, ht7, hlf, ho, hI, rfl⟩; replace hxs := hxs.mono hFG; replace hle0 := Heap.le_trans hle0 hFG; have hlf9 := hlf.plain.lt; have hlen0 := hI.len
    by_cases hl0 : left.length = 0
    ·
     refine Ag <| Ag <| Ai fun ds => Aa rfl (Ae (At rfl ht6)) ?_
     refine Aa rfl (Bl Bd (Ab) hlf.plain) ?_
     refine Aa rfl (C2 (Ab) Ad) ?_
     refine Ah <| Ac <| Ap (Ab) (decide_eq_false (by omega)) ?_
     have hle := List.eq_nil_of_length_eq_zero hl0
     subst hle
     refine Bs ?_
     refine Bh <| Bh <| Bk <| Ac <| Ag <| Cf (i := 0) rfl hb1 (.here) fun F11 hF12 hz5 => ?_
     refine Ai fun ds => Aa rfl (Ae (Ar rfl <| Ak rfl <| Al rfl <| Ar rfl <| Ak rfl <| Al rfl <| Ar rfl <| Ak rfl <| Ab)) ?_
     refine Aa rfl (Af (Ab)) ?_
     refine Ah <| Ac <| A7 <| Ax rfl (.tmp (Ab) .nil) ?_
     refine ⟨iL g many, sl_box hz5 rfl Ct (fun _ => rfl) (by omega), Ct, ?_⟩
     exact hI.tree hm0
    ·
     refine Ag <| Ag <| Ai fun ds => Aa rfl (Ae (At rfl ht6)) ?_
     refine Aa rfl (Bl Bd (Ab) hlf.plain) ?_
     refine Aa rfl (C2 (Ab) Ad) ?_
     refine Ah <| Ac <| As (Ab) (decide_eq_true (by omega)) ?_
     have hkk : (turnN xs taken.length % left.length) < left.length := Nat.mod_lt _ (by omega)
     have hil := hI.lt hkk
     have hlen := hI.len
     have ht1 : turnN xs taken.length < 256 := turnN_lt hxb
     have ht2 : turnN xs (many + taken.length) < 256 := turnN_lt hxb
     refine Ay <| Ac <| A0 <| Ag <| Ai fun ds => Aa rfl (Ae (Ar rfl <| Ak rfl <| Al rfl <| Ar rfl <| Ak rfl <| Al rfl <| Aw rfl <| Ar rfl <| Ak rfl <| Aj rfl)) ?_
     refine Aa rfl (Ae (Aw rfl <| At rfl ht7)) ?_
     refine Aa rfl (Bl Bd (Ab) (ho.plain (by omega))) ?_
     refine B0 rfl (Bg bd_96 A1 (.cons (Ar rfl <| Ab) (.cons (Ab) .nil)) (turn_ok hxs hxb rfl) (fun _ _ h => h)) ?_
     refine Aa rfl (Ae (Aw rfl <| Ar rfl <| Ak rfl <| At rfl ht6)) ?_
     refine Aa rfl (Bl Bd (Ab) hlf.plain) ?_
     refine Aa rfl (q_rem (Ar rfl <| Ab) (Ab) (Int.natCast_nonneg _) (by omega)) ?_
     refine Aa rfl (Af (Ab)) ?_
     refine Ah <| Ac <| Ag <| Ai fun ds => Aa rfl (Ae (A8 rfl <| Ar rfl <| Ak rfl <| At rfl ht6)) ?_
     refine Aa rfl (Ae (Ak rfl <| Ab)) ?_
     refine Aa rfl (A6 (k := (turnN xs taken.length % left.length)) Bd (Ak rfl <| Ab) hlf.plain (Ab) (by omega) hkk) ?_
     refine Aa rfl (Ao Bj (Ab) (hlf.cell1 hkk rfl)) ?_
     refine Aa rfl (Af (Ab)) ?_
     refine Ah <| Ac <| Ag ?_
     have hleS := hle0
     refine Cr (.inl rfl) (fun _ _ h => h) (.cons_cons _ <| .refl _) [] (by kernel_rfl) fun ds => ?_
     refine A3 1 rfl (by kernel_rfl) (by kernel_rfl) (by kernel_rfl) (by kernel_rfl) rfl rfl (fun _ h => h.drop (.cons_cons _ <| .refl _)) (fun _ _ _ h => h) (Ae (A2 rfl <| At rfl ht6)) ?_
     refine A3 2 rfl (by kernel_rfl) (by kernel_rfl) (by kernel_rfl) (by kernel_rfl) rfl rfl (fun _ h => h.drop (.cons_cons _ <| .refl _)) (fun _ _ _ h => h) (Ae (Aw rfl <| Ar rfl <| Ab)) ?_
     refine A3 3 rfl (by kernel_rfl) (by kernel_rfl) (by kernel_rfl) (by kernel_rfl) rfl rfl (fun _ h => h.drop (.cons_cons _ <| .refl _)) (fun _ _ _ h => h) (q_sliceTo Bd (Ak rfl <| Ab) hlf.plain (Ab) (k := (turnN xs taken.length % left.length)) (by omega) (by omega)) ?_
     refine A3 5 rfl (by kernel_rfl) (by kernel_rfl) (by kernel_rfl) (by kernel_rfl) rfl rfl (fun _ h => h.drop (.cons_cons _ <| .refl _)) (fun _ _ _ h => h) (Ae (A2 rfl <| Ar rfl <| Ak rfl <| At rfl ht6)) ?_
     refine A3 6 rfl (by kernel_rfl) (by kernel_rfl) (by kernel_rfl) (by kernel_rfl) rfl rfl (fun _ h => h.drop (.cons_cons _ <| .refl _)) (fun _ _ _ h => h) (Ae (A8 rfl <| Ak rfl <| Ab)) ?_
     refine A3 7 rfl (by kernel_rfl) (by kernel_rfl) (by kernel_rfl) (by kernel_rfl) rfl rfl (fun _ h => h.drop (.cons_cons _ <| .refl _)) (fun _ _ _ h => h) (Bx (Ab) Ad rfl (by omega) (by omega)) ?_
     refine A3 8 rfl (by kernel_rfl) (by kernel_rfl) (by kernel_rfl) (by kernel_rfl) rfl rfl (fun _ h => h.drop (.cons_cons _ <| .refl _)) (fun _ _ _ h => h) (q_sliceFrom Bd (Ar rfl <| Ab) hlf.plain (Ab) (k := (turnN xs taken.length % left.length) + 1) (by omega) (by omega)) ?_
     refine WX_x 0 rfl (by kernel_rfl) rfl (x_build0 Bd fun b13 hb13 nb13 => ⟨fun _ _ => (fun _ h => h.drop (.cons _ <| .cons_cons _ <| .refl _)), ?_⟩)
     refine WX_x 4 rfl (by kernel_rfl) rfl (Co Bd el_3 (Ab) (own_box rfl) (Aw rfl <| Ak rfl <| Ab) ((hlf.to (k := (turnN xs taken.length % left.length)) (by omega)).src (fun _ => rfl) natE_one) (by rw [List.length_take]; omega) (by rw [List.length_take]; omega) (.z) .box fun v14 R15 ho16 => ⟨fun _ _ => (fun _ h => h.drop (List.sublist_append_of_sublist_right <| .cons_cons _ <| .refl _)), ?_⟩)
     refine WX_x 9 rfl (by kernel_rfl) rfl (Co Bd el_3 (Ab) ho16 (Ar rfl <| Ab) ((hlf.from (k := (turnN xs taken.length % left.length) + 1) (by omega)).src (fun _ => rfl) natE_one) (by rw [List.length_take, List.length_drop]; omega) (by rw [List.length_take, List.length_drop]; omega) (.z) .more fun v17 R18 ho19 => ⟨fun _ _ => (fun _ h => h.drop (List.sublist_append_of_sublist_right <| .cons_cons _ <| .refl _)), ?_⟩)
     have ho45 : Own 3 1 v17 (left.eraseIdx (turnN xs taken.length % left.length)).length ((left.eraseIdx (turnN xs taken.length % left.length)).flatMap natE) R18 := by rw [List.eraseIdx_eq_take_drop_succ]; simpa using ho19
     refine A3 10 rfl (by kernel_rfl) (by kernel_rfl) (by kernel_rfl) (by kernel_rfl) rfl rfl (fun _ h => h.drop (List.sublist_append_of_sublist_right <| .cons_cons _ <| .refl _)) (fun _ _ _ h => h) (Af (Ab)) ?_
     refine Cz (by kernel_rfl) ?_ _
     refine Ac <| Ag <| Cw (σ := ⟨_, _⟩) (by rfl) ho45 (.z) .more fun F20 hF21 hz22 => ?_
     replace hxs := hxs.mono hF21
     replace hFG := Heap.le_trans hFG hF21
     refine WC_pickB (.one (.skip <| .here) <| .lastb (.lastS)) ?_
     have hlf2 := ho45.sl (fun _ => rfl) hz22 (by rw [List.length_eraseIdx_of_lt hkk]; omega)
     refine Ai fun ds => Aa rfl (Ae (A2 rfl <| A8 rfl <| Ar rfl <| Ak rfl <| Al rfl <| Ar rfl <| Ak rfl <| Al rfl <| Ar rfl <| Ak rfl <| Ab)) ?_
     refine Aa rfl (Ae (A8 rfl <| Aw rfl <| Ab)) ?_
     refine Aa rfl (A6 (k := left[(turnN xs taken.length % left.length)]) Bd (Ak rfl <| Ab) (plain_row (Nat.le_refl _) (by omega)) (Ab) rfl hil) ?_
     refine Ck (x_storeK sz_3 (Ab) row_addr Ad (i := 0) rfl (by rw [iL_len1]; omega) rfl (.here) ?_)
     refine Ah <| Ac <| Ag <| Ag ?_
     rw [iL_set hil]
     by_cases ht0 : taken.length = 0
     ·
      refine Ai fun ds => Aa rfl (Ae (A2 rfl <| A8 rfl <| Aw rfl <| Ar rfl <| At rfl ht7)) ?_
      refine Aa rfl (Bl Bd (Ab) (ho.plain (by omega))) ?_
      refine Aa rfl (C2 (Ab) Ad) ?_
      refine Ah <| Ac <| Ap (Ab) (decide_eq_false (by omega)) ?_
      refine Ay <| Ac <| Ai fun ds => Aa rfl (Ae (Ba rfl <| Ak rfl <| At rfl ht7)) ?_
      refine Aa rfl (Ae (A2 rfl <| Ar rfl <| Ab)) ?_
      refine Bn rfl (Cb Bd Db rfl (.cons (Ab) .nil) rfl rfl (by decide) (by simp [Value.oneCell']) fun b23 hb23 nb23 => ?_)
      refine Bn rfl (Co Bd el_3 (Ar rfl <| Ab) ho (Ab) (Dj (s := 1) 0 rfl rfl (by simp [Value.oneCell'])) (by omega) (by omega) (.s <| .s <| .z) .last fun v24 R25 ho26 => ?_)
      have ho9 := ho26.snoc (x := left[(turnN xs taken.length % left.length)]) rfl rfl
      refine WL_orderB (.one (.next <| .here) <| .lastb (.next <| .last)) ?_
      refine Aa rfl (Af (Ab)) ?_
      refine Ah <| Bf ?_
      refine Ac ⟨_, (left.eraseIdx (turnN xs taken.length % left.length)).length, Off.eq (ou32 rfl <| Ed rfl <| ou2 rfl <| Bi), (by rw [List.length_eraseIdx_of_lt hkk]; omega), ?_⟩
      refine ⟨_, hFG, updI g left[(turnN xs taken.length % left.length)] (-1), _, _, _, _, _, rfl, (A8 rfl <| Ar rfl <| Ak rfl <| Ab), (Ab), hlf2, ho9, hI.step hkk updI_ne (fun h => updI_eq) (fun h => absurd h (by omega)), rfl⟩
     ·
      have hqq : (turnN xs (many + taken.length) / 2 % taken.length) < taken.length := Nat.mod_lt _ (by omega)
      refine Ai fun ds => Aa rfl (Ae (A2 rfl <| A8 rfl <| Aw rfl <| Ar rfl <| At rfl ht7)) ?_
      refine Aa rfl (Bl Bd (Ab) (ho.plain (by omega))) ?_
      refine Aa rfl (C2 (Ab) Ad) ?_
      refine Ah <| Ac <| As (Ab) (decide_eq_true (by omega)) ?_
      refine Ai fun ds => Aa rfl (Ae (Ba rfl <| Ak rfl <| Al rfl <| Ar rfl <| Ak rfl <| Al rfl <| Ar rfl <| Ak rfl <| Ab)) ?_
      refine Aa rfl (Ae (A2 rfl <| Ar rfl <| Ab)) ?_
      refine Aa rfl (Ae (Ba rfl <| Ar rfl <| Ak rfl <| At rfl ht7)) ?_
      refine Aa rfl (Ae (Ba rfl <| Aw rfl <| Al rfl <| Ar rfl <| Ak rfl <| Al rfl <| Aw rfl <| Ar rfl <| Ak rfl <| Aj rfl)) ?_
      refine Aa rfl (Ae (Ba rfl <| Aw rfl <| Ak rfl <| Al rfl <| Ar rfl <| Ak rfl <| Al rfl <| Aw rfl <| Ar rfl <| Ak rfl <| Aj rfl)) ?_
      refine Aa rfl (Ae (Ba rfl <| Aw rfl <| Ar rfl <| At rfl ht7)) ?_
      refine Aa rfl (Bl Bd (Ab) (ho.plain (by omega))) ?_
      refine Aa rfl (Bx (Ar rfl <| Ab) (Ab) rfl (by omega) (by omega)) ?_
      refine B0 rfl (Bg bd_96 A1 (.cons (Aw rfl <| Ab) (.cons (Ab) .nil)) (turn_ok hxs hxb (n := many + taken.length) (by push_cast; rfl)) (fun _ _ h => h)) ?_
      refine Aa rfl (q_quo (Ab) Ad (Int.natCast_nonneg _) (by omega) (by decide)) ?_
      refine Aa rfl (Ae (Ba rfl <| A8 rfl <| Ar rfl <| Ak rfl <| At rfl ht7)) ?_
      refine Aa rfl (Bl Bd (Ab) (ho.plain (by omega))) ?_
      refine Aa rfl (q_rem (Ar rfl <| Ab) (Ab) (by omega) (by omega)) ?_
      refine Aa rfl (A6 (k := (turnN xs (many + taken.length) / 2 % taken.length)) Bd (A8 rfl <| Ar rfl <| Ab) (ho.plain (by omega)) (Ab) (by push_cast; rfl) hqq) ?_
      refine Aa rfl (Ao Bj (Ab) (Dm ho (fun p hp => .tail _ (hp)) (nat_get hqq))) ?_
      refine Aa rfl (A6 (k := left[(turnN xs taken.length % left.length)]) Bd (A8 rfl <| Aw rfl <| Ar rfl <| Ab) (plain_row (Nat.le_refl _) (by omega)) (A8 rfl <| Aw rfl <| Ak rfl <| Ab) rfl hil) ?_
      refine Ck (x_storeK sz_3 (Ab) row_addr (Ak rfl <| Ab) (i := 0) rfl (by rw [iL_len1]; omega) rfl (.here) ?_)
      refine Ah <| Ac ?_
      rw [iL_set hil, set_one]
      refine Ai fun ds => Aa rfl (Ae (Ba rfl <| A2 rfl <| Ak rfl <| At rfl ht7)) ?_
      refine Aa rfl (Ae (Ba rfl <| Ar rfl <| Ab)) ?_
      refine Bn rfl (Cb Bd Db rfl (.cons (Ab) .nil) rfl rfl (by decide) (by simp [Value.oneCell']) fun b27 hb27 nb27 => ?_)
      refine Bn rfl (Co Bd el_3 (Ar rfl <| Ab) ho (Ab) (Dj (s := 1) 0 rfl rfl (by simp [Value.oneCell'])) (by omega) (by omega) (.s <| .s <| .z) .last fun v28 R29 ho30 => ?_)
      have ho9 := ho30.snoc (x := left[(turnN xs taken.length % left.length)]) rfl rfl
      refine WL_orderB (.one (.next <| .here) <| .lastb (.next <| .last)) ?_
      refine Aa rfl (Af (Ab)) ?_
      refine Ah <| Bf ?_
      refine Ac ⟨_, (left.eraseIdx (turnN xs taken.length % left.length)).length, Off.eq (ou32 rfl <| C7 rfl <| Ed rfl <| ou2 rfl <| Bi), (by rw [List.length_eraseIdx_of_lt hkk]; omega), ?_⟩
      refine ⟨_, hFG, updI g left[(turnN xs taken.length % left.length)] (taken[(turnN xs (many + taken.length) / 2 % taken.length)] : Int), _, _, _, _, _, rfl, (A2 rfl <| A8 rfl <| Ar rfl <| Ak rfl <| Ab), (Ab), hlf2, ho9, hI.step hkk updI_ne (fun h => absurd h ht0) (fun h => ⟨_, hqq, updI_eq⟩), rfl⟩
end Go.Proofs.Ytccogmkhijgelaa
namespace Go.Proofs.Ytccogmkhijgelaa
theorem tree_err0 {s : Stm} {l : List Int} (h0 : (checkT s).2.2 = 0) (hl : l.length = s.editions.length) (ht : IsTree l) : treeErr s l = 0 := by
 have h1 : trTo s l l.length = 0 := by
   unfold trTo
   rw [gTo_ok (treeZ_ok h0 hl), List.take_length, if_neg]
   intro h
   rw [List.any_eq_true] at h
   obtain ⟨x, hx, hb⟩ := h
   obtain ⟨i, hi, rfl⟩ := List.getElem_of_mem hx
   have := ht.in_ i hi
   rw [De hi] at hb
   simp [inT, inB] at hb
   omega
 rw [treeErr_in h1, ht.isT]; rfl
section
variable {s : Stm} {l : List Int}
end
theorem eds_zero {s : Stm} {a b : Nat} (h0 : (checkT s).2.2 = 0) (ha : a < s.editions.length) (hb : b < s.editions.length) : edsErr s (a : Int) (b : Int) = 0 := eds_ok h0 (by simp [inB]; omega) (by simp [inB]; omega)
end Go.Proofs.Ytccogmkhijgelaa
namespace Go.Proofs.Ytccogmkhijgelaa
open Go.RowKit
theorem bd_40 : Body Try.prog 40 := Br (by kernel_rfl)
theorem bd_41 : Body Try.prog 41 := Br (by kernel_rfl)
end Go.Proofs.Ytccogmkhijgelaa
namespace Go.Proofs.Ytccogmkhijgelaa
/-- A pair of editions. -/
def prE (e : Nat × Nat) : List Go.Value := [.int .i64 (e.1 : Int), .int .i64 (e.2 : Int)]
def EarR (F : Heap) (u : Go.Value) (s : Stm) (E : Edges) : Prop := fitsE s E = true ∧ Ints F u (iL (firstY s E) s.editions.length) ∨ fitsE s E = false ∧ u = .slice none 0 0
theorem EarR.mono {F F' : Heap} {u : Go.Value} {s : Stm} {E : Edges} (h : EarR F u s E) (hF : F.le F') : EarR F' u s E := h.elim (fun h => .inl ⟨h.1, h.2.mono hF⟩) .inr
theorem EarR.nil {F : Heap} {u : Go.Value} {s : Stm} {E : Edges} (h : EarR F u s E) (hn : 0 < s.editions.length) : ∃ a k c, u = .slice a k c ∧ (decide (a = none)) = !(fitsE s E) := by
 rcases h with ⟨h1, h2⟩ | ⟨h1, rfl⟩
 · obtain ⟨a, c, rfl, -, g2, -, -⟩ := h2.plain
   refine ⟨a, _, c, rfl, ?_⟩
   rw [h1]
   refine decide_eq_false fun h => ?_
   have := (g2 h).1
   rw [Ct] at this
   omega
 · exact ⟨none, 0, 0, rfl, by rw [h1]; rfl⟩
/-- Of one round, what is done: of the tree, and of the rest. -/
def DoneT (l : List Int) (i : Nat) (e : Nat × Nat) : Prop := e ∈ treeE l ∧ e.2 < i
def DoneM (l : List Int) (M : Edges) (q : Nat) (e : Nat × Nat) : Prop := e ∈ treeE l ∨ e ∈ M.take q
section
variable {s : Stm} {l : List Int} {M : Edges} {r i q : Nat} {cur : Nat → Int}
abbrev RelY (s : Stm) (E : Edges) (r : Nat) (D : Nat × Nat → Prop) (cur : Nat → Int) : Prop := Relaxed s.editions.length E (fun i => (s.ed i).lo) r D cur
theorem rel_bound (hv : ValidT s) {E : Edges} (hE : ∀ e ∈ E, e.1 < s.editions.length ∧ e.2 < s.editions.length) {D : Nat × Nat → Prop} (h : RelY s E r D cur) {i : Nat} (hi : i < s.editions.length) : 1400 ≤ cur i ∧ cur i ≤ 1900 := by
 have h1 := h.lo i hi
 have h2 := h.hi i hi
 have h3 := firstY_bound hv hE r i hi
 have h4 := firstY_bound hv hE s.editions.length i hi
 have h5 := hv.ne
 omega
theorem rel_none {E : Edges} {D : Nat × Nat → Prop} (h : RelY s E r (fun _ => False) cur) (hD : ∀ e, ¬ D e) : RelY s E r D cur := h.weaken fun e _ hd => (hD e hd).elim
/-- An edition that is a first one. -/
theorem rel_root (h : RelY s (treeE l ++ M) r (DoneT l i) cur) (hu : upN l i = -1) : RelY s (treeE l ++ M) r (DoneT l (i + 1)) cur := h.weaken fun e _ hd => by
 refine ⟨hd.1, ?_⟩
 have h1 := hd.2
 by_cases h2 : e.2 = i
 · exact absurd hu (by rw [← h2]; exact (treeE_mem.1 hd.1).2.1)
 · omega
theorem rel_tree (h : RelY s (treeE l ++ M) r (DoneT l i) cur) (hd : Dag s.editions.length (treeE l ++ M)) (hi : i < l.length) {k : Nat} (hu : upN l i = (k : Int)) : RelY s (treeE l ++ M) r (DoneT l (i + 1)) (updI cur i (max (cur i) (cur k + 1))) := by
 have he : (k, i) ∈ treeE l := treeE_at hi hu
 refine (h.step hd (List.mem_append_left _ he)).weaken fun e _ hD => ?_
 have h1 := hD.2
 by_cases h2 : e.2 = i
 · right
   obtain ⟨-, -, h5⟩ := treeE_mem.1 hD.1
   rw [h2, hu, Int.toNat_natCast] at h5
   exact Prod.ext h5 h2
 · exact .inl ⟨hD.1, by omega⟩
theorem rel_all (h : RelY s (treeE l ++ M) r (DoneT l l.length) cur) : RelY s (treeE l ++ M) r (DoneM l M 0) cur := h.weaken fun e _ hD => by
 rcases hD with hD | hD
 · exact ⟨hD, (treeE_mem.1 hD).1⟩
 · simp at hD
theorem rel_more (h : RelY s (treeE l ++ M) r (DoneM l M q) cur) (hd : Dag s.editions.length (treeE l ++ M)) (hq : q < M.length) : RelY s (treeE l ++ M) r (DoneM l M (q + 1)) (updI cur M[q].2 (max (cur M[q].2) (cur M[q].1 + 1))) := by
 have he : (M[q].1, M[q].2) ∈ treeE l ++ M := List.mem_append_right _ (List.getElem_mem hq)
 refine (h.step hd he).weaken fun e _ hD => ?_
 rcases hD with hD | hD
 · exact .inl (.inl hD)
 · rw [List.take_succ_eq_append_getElem hq] at hD
   rcases List.mem_append.1 hD with hD | hD
   · exact .inl (.inr hD)
   · right; simpa using hD
theorem rel_round (h : RelY s (treeE l ++ M) r (DoneM l M M.length) cur) : RelY s (treeE l ++ M) (r + 1) (fun _ => False) cur := h.round fun e he => by
 rcases List.mem_append.1 he with he | he
 · exact .inl he
 · right; rw [List.take_length]; exact he
theorem rel_full {E : Edges} {D : Nat × Nat → Prop} (h : RelY s E r D cur) (hr : s.editions.length ≤ r) : iL cur s.editions.length = iL (firstY s E) s.editions.length :=
 List.map_congr_left fun _i hi => h.full hr (List.mem_range.1 hi)
end
theorem secTo_max {s : Stm} {l : List Int} {x : Nat} : ∀ {n y : Nat}, y < n → canT s l x y = true → savesN s l x y ≤ (secTo s l x n).2
 | 0, y, h, _ => by omega
 | n + 1, y, h, hc => by
   by_cases hy : y = n
   · subst hy
     unfold secTo
     split
     · exact Int.le_refl _
     · rename_i h2
       have : ¬ (secTo s l x y).2 < savesN s l x y := fun h3 => h2 ⟨hc, h3⟩
       omega
   · have ih := secTo_max (n := n) (by omega) hc
     unfold secTo
     split
     · rename_i h2; exact Int.le_trans ih (by simp only; omega)
     · exact ih
theorem secTo_some {s : Stm} {l : List Int} {x : Nat} : ∀ {n : Nat}, (secTo s l x n).2 ≠ 0 → ∃ o, o < n ∧ (secTo s l x n).1 = (o : Int) ∧ canT s l x o = true ∧ (secTo s l x n).2 = savesN s l x o
 | 0, h => absurd rfl h
 | n + 1, h => by
   unfold secTo at h ⊢
   split at h
   · rename_i h2
     rw [if_pos h2]
     exact ⟨n, by omega, rfl, h2.1, rfl⟩
   · rename_i h2
     rw [if_neg h2]
     obtain ⟨o, h3, h4⟩ := secTo_some h
     exact ⟨o, by omega, h4⟩
theorem canT_iff {s : Stm} {l : List Int} {x o : Nat} : canT s l x o = true ↔ (o : Int) ≠ upN l x ∧ underB l o x = false ∧ fitsT2 s l x o = true := by
 unfold canT
 simp only [Bool.and_eq_true, decide_eq_true_eq, Bool.not_eq_true']
theorem fitsE_no {s : Stm} {E : Edges} {i : Nat} (hi : i < s.editions.length) (h : (s.ed i).hi < firstY s E i) : fitsE s E = false := by
 cases hf : fitsE s E with
 | false => rfl
 | true => have := fitsE_iff.1 hf i hi; omega
end Go.Proofs.Ytccogmkhijgelaa
namespace Go.Proofs.Ytccogmkhijgelaa
open Go.RowKit
theorem ar_27 : ArrT Try.prog 27 2 3 1 := arrT_of (by kernel_rfl)
theorem sl_137 : SliceT Try.prog 137 27 2 := Ef (by kernel_rfl)
set_option maxRecDepth 100000 in
theorem earliest_ok {F : Heap} {vp ve : Value} {ps : List (Value × Edn)} {s : Stm} (hr : StmR F vp ve ps s) (hv : ValidT s) {v : Value} {l : List Int} (hl : Ints F v l) (hll : l.length = s.editions.length) (ht : IsTree l) {vm : Value} {M : Edges} (hmo : Sl F vm 2 prE M) (hd : Dag s.editions.length (treeE l ++ M)) : Ok Try.prog 74 [.agg #[vp, ve], v, vm].toArray F fun u F' => EarR F' u s (treeE l ++ M) := by
 have hle0 : F.le F := Heap.le_refl _
 refine Ok.intro Try.func74 rfl Try.ntmps74 rfl fun w0 => ?_
 have hL := hl.plain.lt
 have hlen := hr.len
 have hL1 := hr.eds.plain.lt
 have hne := hv.ne
 have hmol := hmo.plain.lt
 refine Ag <| Ai fun ds => Bn rfl (B7 (Aj rfl) rfl fun b1 hb1 nb1 => ?_)
 refine Aa rfl (Af Ad) ?_
 refine Ah <| Ac <| Ag <| Ai fun ds => Aa rfl (Af Ad) ?_
 refine Ah <| Ac <| Ag <| Ag <| Ai fun ds => Aa rfl (Af Ad) ?_
 refine Ah <| Ac <| A0 <| Bv [7, 8, 13, 14, 15, 16, 17, 18, 19, 20, 21, 22, 23, 24, 25, 26, 27, 28] (fun m e σ => ∃ k : Nat, m + k = l.length ∧ e 8 = .int .i64 (k : Int) ∧ ∃ v7 R7, e 7 = v7 ∧ Own 3 1 v7 (iL (fun i => (s.ed i).lo) k).length ((iL (fun i => (s.ed i).lo) k).flatMap intE) R7 ∧ σ = ⟨F, (b1, bx 25 [vp, ve]) :: R7⟩) (l.length) ?_ ?_
 · exact ⟨0, by omega, (Ab), _, _, (Ak rfl <| Ab), Ea, rfl⟩
 ·
  rintro m e _ ⟨k, hm, hs8, v7, R7, hs7, ho, rfl⟩; have hil9 := Ct (f := (fun i => (s.ed i).lo)) (n := k)
  by_cases hlt : k < l.length
  ·
   have hkp : k < ps.length := by omega
   have e1 := hr.at hkp
   refine Ag <| Ag <| Ai fun ds => Aa rfl (Ae (At rfl hs8)) ?_
   refine Aa rfl (Ae (Ak rfl <| Al rfl <| Aw rfl <| Aj rfl)) ?_
   refine Aa rfl (Bl Bd (Ab) hl.plain) ?_
   refine Aa rfl (Bw (Ar rfl <| Ab) (Ab)) ?_
   refine Ah <| Ac <| As (Ab) (by first | rfl | exact decide_eq_true (by omega)) ?_
   refine Ay <| Ac <| Ag <| A0 <| Ai fun ds => Aa rfl (Ae (Aw rfl <| At rfl hs7)) ?_
   refine Aa rfl (Am Bq (Aw rfl <| Ak rfl <| Al rfl <| Ar rfl <| Ak rfl <| Ab)) ?_
   refine Aa rfl (Ao By (Ab) (Cell.own 0 rfl rfl)) ?_
   refine Aa rfl (Ae (Aw rfl <| Ar rfl <| Ak rfl <| At rfl hs8)) ?_
   refine Aa rfl (A6 (k := k) B3 (Ak rfl <| Ab) hr.eds.plain (Ab) rfl hkp) ?_
   refine Aa rfl (Bm Dk (Ab)) ?_
   refine Aa rfl (Bm Dr (Ab)) ?_
   refine Aa rfl (Ao Bj (Ab) (hr.eds.cell hkp rfl)) ?_
   refine Bn rfl (Cb Bd Db rfl (.cons (Ab) .nil) rfl rfl (by decide) (by simp [Value.oneCell']) fun b3 hb3 nb3 => ?_)
   refine Bn rfl (Co Bd el_3 (A8 rfl <| Ab) ho (Ab) (Dj (s := 1) 0 rfl rfl (by simp [Value.oneCell'])) (by omega) (by omega) (.s <| .s <| .z) .last fun v4 R5 ho6 => ?_)
   have ho2 : Own 3 1 v4 (iL (fun i => (s.ed i).lo) (k + 1)).length ((iL (fun i => (s.ed i).lo) (k + 1)).flatMap intE) R5 := by have h9 := ho6; rw [iL_succ]; exact h9.snoc (x := (s.ed k).lo) rfl (by rw [← e1]; rfl)
   refine Aa rfl (Af (Ab)) ?_
   refine Ah <| Bf <| Ac <| Di (fun _ _ h => h.drop (.cons _ <| .cons_cons _ <| .refl _)) ?_
   refine Ai fun ds => Aa rfl (Ae (A8 rfl <| Aw rfl <| Ar rfl <| Ak rfl <| At rfl hs8)) ?_
   refine Aa rfl (Bx (Ab) Ad rfl (by omega) (by omega)) ?_
   refine Aa rfl (Af (Ab)) ?_
   refine Ah <| Ac ⟨_, m - 1, Off.eq (C7 rfl <| ou2 rfl <| Bi), by omega, ?_⟩
   exact ⟨k + 1, by omega, (Ab), _, _, (Ar rfl <| Ak rfl <| Ab), ho2, rfl⟩
  ·
   refine Ag <| Ag <| Ai fun ds => Aa rfl (Ae (At rfl hs8)) ?_
   refine Aa rfl (Ae (Ak rfl <| Al rfl <| Aw rfl <| Aj rfl)) ?_
   refine Aa rfl (Bl Bd (Ab) hl.plain) ?_
   refine Aa rfl (Bw (Ar rfl <| Ab) (Ab)) ?_
   refine Ah <| Ac <| Ap (Ab) (by first | rfl | exact decide_eq_false (by omega)) ?_
   obtain rfl : k = s.editions.length := by omega
   replace ho := ho.to Ct
   refine Bs ?_
   refine Bh <| Bh <| Bk <| Ac <| Ag <| Ag <| Ai fun ds => Aa rfl (Af Ad) ?_
   refine Ah <| Ac <| A0 <| Bv [9, 10, 11, 29, 30, 31, 32, 33, 34, 35, 36, 37, 38, 39, 40, 41, 42, 43, 44, 45, 46, 47, 48, 49, 50, 51, 52, 53, 54, 55, 56, 57, 58, 59, 60, 61, 62, 63, 64, 65, 66, 67, 68, 69, 70, 71, 72, 73, 74, 75, 76, 77, 78, 79, 80, 81, 82, 83, 84, 85, 86, 87, 88, 89, 90, 91, 92] (fun m e σ => ∃ r : Nat, m + r = l.length + 1 ∧ e 9 = .int .i64 (r : Int) ∧ ∃ cur R7, Own 3 1 v7 s.editions.length ((iL cur s.editions.length).flatMap intE) R7 ∧ RelY s (treeE l ++ M) r (fun _ => False) cur ∧ σ = ⟨F, (b1, bx 25 [vp, ve]) :: R7⟩) (l.length + 1) ?_ ?_
   · exact ⟨0, by omega, (Ab), _, _, ho, Relaxed.start (fun _ _ => rfl), rfl⟩
   ·
    rintro m2 e2 _ ⟨r, hm2, ht9, cur, R7, ho, hI, rfl⟩
    by_cases hlr : r ≤ l.length
    ·
     refine Ag <| Ag <| Ai fun ds => Aa rfl (Ae (At rfl ht9)) ?_
     refine Aa rfl (Ae (Ak rfl <| Al rfl <| Aw rfl <| Ak rfl <| Al rfl <| Aw rfl <| Aj rfl)) ?_
     refine Aa rfl (Bl Bd (Ab) hl.plain) ?_
     refine Aa rfl (En (Ar rfl <| Ab) (Ab)) ?_
     refine Ah <| Ac <| As (Ab) (by first | rfl | exact decide_eq_true (by omega)) ?_
     refine Ay <| Ac <| Ag <| A0 <| Ag <| Ag <| Ai fun ds => Aa rfl (Af Ad) ?_
     refine Ah <| Ac <| A0 <| Bv [10, 35, 36, 37, 38, 39, 40, 41, 42, 43, 44, 45, 46, 47, 48, 49, 50, 51, 52, 53, 54, 55, 56, 57, 58, 59, 60, 61] (fun m e σ => ∃ i : Nat, m + i = l.length ∧ e 10 = .int .i64 (i : Int) ∧ ∃ cur R7, Own 3 1 v7 s.editions.length ((iL cur s.editions.length).flatMap intE) R7 ∧ RelY s (treeE l ++ M) r (DoneT l i) cur ∧ σ = ⟨F, (b1, bx 25 [vp, ve]) :: R7⟩) (l.length) ?_ ?_
     · exact ⟨0, by omega, (Ab), _, _, ho, rel_none hI (fun e h => by unfold DoneT at h; omega), rfl⟩
     ·
      rintro m3 e3 _ ⟨i, hm3, hu10, cur, R7, ho, hI, rfl⟩
      by_cases hlt : i < l.length
      ·
       have hin : i < s.editions.length := by omega
       refine Ag <| Ag <| Ai fun ds => Aa rfl (Ae (At rfl hu10)) ?_
       refine Aa rfl (Ae (Ak rfl <| Al rfl <| Aw rfl <| Ak rfl <| Al rfl <| Aw rfl <| Ak rfl <| Al rfl <| Aw rfl <| Aj rfl)) ?_
       refine Aa rfl (Bl Bd (Ab) hl.plain) ?_
       refine Aa rfl (Bw (Ar rfl <| Ab) (Ab)) ?_
       refine Ah <| Ac <| As (Ab) (by first | rfl | exact decide_eq_true (by omega)) ?_
       by_cases hu : upN l i = -1
       ·
        refine Ay <| Ac <| Ag <| A0 <| Ag <| Ai fun ds => Aa rfl (Ae (Aw rfl <| Al rfl <| Aw rfl <| Ak rfl <| Al rfl <| Aw rfl <| Ak rfl <| Al rfl <| Aw rfl <| Aj rfl)) ?_
        refine Aa rfl (Ae (Aw rfl <| Ak rfl <| At rfl hu10)) ?_
        refine Aa rfl (A6 (k := i) Bd (Ak rfl <| Ab) hl.plain (Ab) rfl hlt) ?_
        refine Aa rfl (Ao Bj (Ab) (hl.cell1 hlt rfl)) ?_
        refine Aa rfl (B1 (Ab) Ad) ?_
        refine Ah <| Ac <| Ap (Ab) (by rw [De hlt]; exact decide_eq_false (fun h => h hu)) ?_
        refine Ay <| Bf <| Ac <| Ai fun ds => Aa rfl (Ae (A8 rfl <| Ak rfl <| At rfl hu10)) ?_
        refine Aa rfl (Bx (Ab) Ad rfl (by omega) (by omega)) ?_
        refine Aa rfl (Af (Ab)) ?_
        refine Ah <| Ac ⟨_, m3 - 1, Off.eq (D5 rfl <| Ed rfl <| Bi), by omega, ?_⟩
        exact ⟨i + 1, by omega, (Ab), _, _, ho, rel_root hI hu, rfl⟩
       ·
        obtain ⟨k, hk, hkl⟩ := ht.in_.nat hlt hu
        have hkn : k < s.editions.length := by omega
        have hlk : l[i] = (k : Int) := by rw [De hlt, hk]
        have hb1 := rel_bound hv hd.1 hI hin
        have hb2 := rel_bound hv hd.1 hI hkn
        refine Ay <| Ac <| Ag <| A0 <| Ag <| Ai fun ds => Aa rfl (Ae (Aw rfl <| Al rfl <| Aw rfl <| Ak rfl <| Al rfl <| Aw rfl <| Ak rfl <| Al rfl <| Aw rfl <| Aj rfl)) ?_
        refine Aa rfl (Ae (Aw rfl <| Ak rfl <| At rfl hu10)) ?_
        refine Aa rfl (A6 (k := i) Bd (Ak rfl <| Ab) hl.plain (Ab) rfl hlt) ?_
        refine Aa rfl (Ao Bj (Ab) (hl.cell1 hlt rfl)) ?_
        refine Aa rfl (B1 (Ab) Ad) ?_
        refine Ah <| Ac <| As (Ab) (by rw [De hlt]; exact decide_eq_true hu) ?_
        have hleS := hle0
        refine Cr (.inl rfl) (fun _ _ h => h) (.cons_cons _ <| .refl _) [16] (by kernel_rfl) fun ds => ?_
        refine A3 0 rfl (by kernel_rfl) (by kernel_rfl) (by kernel_rfl) (by kernel_rfl) rfl rfl (fun _ h => h.drop (.cons_cons _ <| .refl _)) (fun _ _ _ h => h) (Ae (A8 rfl <| Ak rfl <| Al rfl <| Aw rfl <| Ak rfl <| Al rfl <| Aw rfl <| Ak rfl <| At rfl hs7)) ?_
        refine A3 1 rfl (by kernel_rfl) (by kernel_rfl) (by kernel_rfl) (by kernel_rfl) rfl rfl (fun _ h => h.drop (.cons_cons _ <| .refl _)) (fun _ _ _ h => h) (Ae (A8 rfl <| Ar rfl <| At rfl hu10)) ?_
        refine A3 2 rfl (by kernel_rfl) (by kernel_rfl) (by kernel_rfl) (by kernel_rfl) rfl rfl (fun _ h => h.drop (.cons_cons _ <| .refl _)) (fun _ _ _ h => h) (Ae (A8 rfl <| Ar rfl <| Ak rfl <| Al rfl <| Aw rfl <| Ak rfl <| Al rfl <| Aw rfl <| Ak rfl <| At rfl hs7)) ?_
        refine A3 3 rfl (by kernel_rfl) (by kernel_rfl) (by kernel_rfl) (by kernel_rfl) rfl rfl (fun _ h => h.drop (.cons_cons _ <| .refl _)) (fun _ _ _ h => h) (Ae (A8 rfl <| Aw rfl <| At rfl hu10)) ?_
        refine A3 4 rfl (by kernel_rfl) (by kernel_rfl) (by kernel_rfl) (by kernel_rfl) rfl rfl (fun _ h => h.drop (.cons_cons _ <| .refl _)) (fun _ _ _ h => h) (A6 (k := i) Bd (Ak rfl <| Ab) (ho.plain (by omega)) (Ab) rfl hin) ?_
        refine A3 5 rfl (by kernel_rfl) (by kernel_rfl) (by kernel_rfl) (by kernel_rfl) rfl rfl (fun _ h => h.drop (.cons_cons _ <| .refl _)) (fun _ _ _ h => h) (Ao Bj (Ab) (Dm ho (fun p hp => .tail _ (hp)) (iL_get hin))) ?_
        refine A3 6 rfl (by kernel_rfl) (by kernel_rfl) (by kernel_rfl) (by kernel_rfl) rfl rfl (fun _ h => h.drop (.cons_cons _ <| .refl _)) (fun _ _ _ h => h) (Ae (A8 rfl <| Aw rfl <| Ar rfl <| Ak rfl <| Al rfl <| Aw rfl <| Ak rfl <| Al rfl <| Aw rfl <| Ak rfl <| At rfl hs7)) ?_
        refine A3 7 rfl (by kernel_rfl) (by kernel_rfl) (by kernel_rfl) (by kernel_rfl) rfl rfl (fun _ h => h.drop (.cons_cons _ <| .refl _)) (fun _ _ _ h => h) (Ae (A2 rfl <| Al rfl <| Aw rfl <| Ak rfl <| Al rfl <| Aw rfl <| Ak rfl <| Al rfl <| Aw rfl <| Aj rfl)) ?_
        refine A3 8 rfl (by kernel_rfl) (by kernel_rfl) (by kernel_rfl) (by kernel_rfl) rfl rfl (fun _ h => h.drop (.cons_cons _ <| .refl _)) (fun _ _ _ h => h) (Ae (A2 rfl <| Ak rfl <| At rfl hu10)) ?_
        refine A3 9 rfl (by kernel_rfl) (by kernel_rfl) (by kernel_rfl) (by kernel_rfl) rfl rfl (fun _ h => h.drop (.cons_cons _ <| .refl _)) (fun _ _ _ h => h) (A6 (k := i) Bd (Ak rfl <| Ab) hl.plain (Ab) rfl hlt) ?_
        refine A3 10 rfl (by kernel_rfl) (by kernel_rfl) (by kernel_rfl) (by kernel_rfl) rfl rfl (fun _ h => h.drop (.cons_cons _ <| .refl _)) (fun _ _ _ h => h) (Ao Bj (Ab) (hl.cell1 hlt rfl)) ?_
        refine A3 11 rfl (by kernel_rfl) (by kernel_rfl) (by kernel_rfl) (by kernel_rfl) rfl rfl (fun _ h => h.drop (.cons_cons _ <| .refl _)) (fun _ _ _ h => h) (A6 (k := k) Bd (Aw rfl <| Ab) (ho.plain (by omega)) (Ab) hlk hkn) ?_
        refine A3 12 rfl (by kernel_rfl) (by kernel_rfl) (by kernel_rfl) (by kernel_rfl) rfl rfl (fun _ h => h.drop (.cons_cons _ <| .refl _)) (fun _ _ _ h => h) (Ao Bj (Ab) (Dm ho (fun p hp => .tail _ (hp)) (iL_get hkn))) ?_
        refine A3 13 rfl (by kernel_rfl) (by kernel_rfl) (by kernel_rfl) (by kernel_rfl) rfl rfl (fun _ h => h.drop (.cons_cons _ <| .refl _)) (fun _ _ _ h => h) (Bx (Ab) Ad rfl (by omega) (by omega)) ?_
        refine A3 14 rfl (by kernel_rfl) (by kernel_rfl) (by kernel_rfl) (by kernel_rfl) rfl rfl (fun _ h => h.drop (.cons_cons _ <| .refl _)) (fun _ _ _ h => h) (q_max2 (A8 rfl <| Ab) (Ab)) ?_
        refine A3 15 rfl (by kernel_rfl) (by kernel_rfl) (by kernel_rfl) (by kernel_rfl) rfl rfl (fun _ h => h.drop (.cons_cons _ <| .refl _)) (fun _ _ _ h => h) (A6 (k := i) Bd (A8 rfl <| Aw rfl <| Ar rfl <| Ab) (ho.plain (by omega)) (A8 rfl <| Aw rfl <| Ak rfl <| Ab) rfl hin) ?_
        refine WX_x0 16 rfl (by kernel_rfl) (x_storeR sz_3 (Ab) (Ak rfl <| Ab) ho (by rw [iL_len1]; omega) rfl (.s <| .z) .last fun R9 ho10 => ⟨(fun h => nomatch h), ?_⟩)
        have ho3 := ho10
        rw [iL_set hin] at ho3
        refine Cz (by kernel_rfl) ?_ _
        refine Bf <| Ac <| Ai fun ds => Aa rfl (Ae (A2 rfl <| A8 rfl <| Ak rfl <| At rfl hu10)) ?_
        refine Aa rfl (Bx (Ab) Ad rfl (by omega) (by omega)) ?_
        refine Aa rfl (Af (Ab)) ?_
        refine Ah <| Ac ⟨_, m3 - 1, Off.eq (C7 rfl <| D5 rfl <| Ed rfl <| Bi), by omega, ?_⟩
        exact ⟨i + 1, by omega, (Ab), _, _, ho3, rel_tree hI hd hlt hk, rfl⟩
      ·
       refine Ag <| Ag <| Ai fun ds => Aa rfl (Ae (At rfl hu10)) ?_
       refine Aa rfl (Ae (Ak rfl <| Al rfl <| Aw rfl <| Ak rfl <| Al rfl <| Aw rfl <| Ak rfl <| Al rfl <| Aw rfl <| Aj rfl)) ?_
       refine Aa rfl (Bl Bd (Ab) hl.plain) ?_
       refine Aa rfl (Bw (Ar rfl <| Ab) (Ab)) ?_
       refine Ah <| Ac <| Ap (Ab) (by first | rfl | exact decide_eq_false (by omega)) ?_
       obtain rfl : i = l.length := by omega
       refine Bs ?_
       refine Bh <| Bh <| Bk <| Ac <| Ag <| Ai fun ds => Aa rfl (Af Ad) ?_
       refine Ah <| Ac <| A0 <| Bv [11, 62, 63, 64, 65, 66, 67, 68, 69, 70, 71, 72, 73, 74, 75, 76, 77, 78, 79, 80, 81, 82, 83, 84, 85, 86, 87, 88, 89, 90, 91, 92] (fun m e σ => ∃ q : Nat, m + q = M.length ∧ e 11 = .int .i64 (q : Int) ∧ ∃ cur R7, Own 3 1 v7 s.editions.length ((iL cur s.editions.length).flatMap intE) R7 ∧ RelY s (treeE l ++ M) r (DoneM l M q) cur ∧ σ = ⟨F, (b1, bx 25 [vp, ve]) :: R7⟩) (M.length) ?_ ?_
       · exact ⟨0, by omega, (Ab), _, _, ho, rel_all hI, rfl⟩
       ·
        rintro m4 e4 _ ⟨q, hm4, hw11, cur, R7, ho, hI, rfl⟩
        by_cases hlq : q < M.length
        ·
         have hMe := hd.1 _ (List.mem_append_right (treeE l) (List.getElem_mem hlq))
         have hb1 := rel_bound hv hd.1 hI hMe.1
         have hb2 := rel_bound hv hd.1 hI hMe.2
         refine Ag <| Ag <| Ai fun ds => Aa rfl (Ae (At rfl hw11)) ?_
         refine Aa rfl (Ae (Ak rfl <| Al rfl <| Aw rfl <| Ak rfl <| Al rfl <| Aw rfl <| Ak rfl <| Al rfl <| Aw rfl <| Ak rfl <| Al rfl <| Aw rfl <| Aj rfl)) ?_
         refine Aa rfl (Bl sl_137 (Ab) hmo.plain) ?_
         refine Aa rfl (Bw (Ar rfl <| Ab) (Ab)) ?_
         refine Ah <| Ac <| As (Ab) (by first | rfl | exact decide_eq_true (by omega)) ?_
         refine Ay <| Ac <| Ag <| A0 ?_
         have hleS := hle0
         refine Cr (.inl rfl) (fun _ _ h => h) (.cons_cons _ <| .refl _) [25] (by kernel_rfl) fun ds => ?_
         refine A3 0 rfl (by kernel_rfl) (by kernel_rfl) (by kernel_rfl) (by kernel_rfl) rfl rfl (fun _ h => h.drop (.cons_cons _ <| .refl _)) (fun _ _ _ h => h) (Ae (Aw rfl <| Al rfl <| Aw rfl <| Ak rfl <| Al rfl <| Aw rfl <| Ak rfl <| Al rfl <| Aw rfl <| Ak rfl <| At rfl hs7)) ?_
         refine A3 1 rfl (by kernel_rfl) (by kernel_rfl) (by kernel_rfl) (by kernel_rfl) rfl rfl (fun _ h => h.drop (.cons_cons _ <| .refl _)) (fun _ _ _ h => h) (Ae (Aw rfl <| Ak rfl <| Al rfl <| Aw rfl <| Ak rfl <| Al rfl <| Aw rfl <| Ak rfl <| Al rfl <| Aw rfl <| Ak rfl <| Al rfl <| Aw rfl <| Aj rfl)) ?_
         refine A3 2 rfl (by kernel_rfl) (by kernel_rfl) (by kernel_rfl) (by kernel_rfl) rfl rfl (fun _ h => h.drop (.cons_cons _ <| .refl _)) (fun _ _ _ h => h) (Ae (Aw rfl <| Ar rfl <| At rfl hw11)) ?_
         refine A3 3 rfl (by kernel_rfl) (by kernel_rfl) (by kernel_rfl) (by kernel_rfl) rfl rfl (fun _ h => h.drop (.cons_cons _ <| .refl _)) (fun _ _ _ h => h) (A6 (k := q) sl_137 (Ak rfl <| Ab) hmo.plain (Ab) rfl hlq) ?_
         refine A3 4 rfl (by kernel_rfl) (by kernel_rfl) (by kernel_rfl) (by kernel_rfl) rfl rfl (fun _ h => h.drop (.cons_cons _ <| .refl _)) (fun _ _ _ h => h) (q_indexArr (k := 1) ar_27 (Ab) Ad rfl (by decide)) ?_
         refine A3 5 rfl (by kernel_rfl) (by kernel_rfl) (by kernel_rfl) (by kernel_rfl) rfl rfl (fun _ h => h.drop (.cons_cons _ <| .refl _)) (fun _ _ _ h => h) (Ao Bj (Ab) (hmo.cell (j := 1 * 1) hlq rfl)) ?_
         refine A3 6 rfl (by kernel_rfl) (by kernel_rfl) (by kernel_rfl) (by kernel_rfl) rfl rfl (fun _ h => h.drop (.cons_cons _ <| .refl _)) (fun _ _ _ h => h) (Ae (A8 rfl <| Ar rfl <| Al rfl <| Aw rfl <| Ak rfl <| Al rfl <| Aw rfl <| Ak rfl <| Al rfl <| Aw rfl <| Ak rfl <| At rfl hs7)) ?_
         refine A3 7 rfl (by kernel_rfl) (by kernel_rfl) (by kernel_rfl) (by kernel_rfl) rfl rfl (fun _ h => h.drop (.cons_cons _ <| .refl _)) (fun _ _ _ h => h) (Ae (A8 rfl <| Ar rfl <| Ak rfl <| Al rfl <| Aw rfl <| Ak rfl <| Al rfl <| Aw rfl <| Ak rfl <| Al rfl <| Aw rfl <| Ak rfl <| Al rfl <| Aw rfl <| Aj rfl)) ?_
         refine A3 8 rfl (by kernel_rfl) (by kernel_rfl) (by kernel_rfl) (by kernel_rfl) rfl rfl (fun _ h => h.drop (.cons_cons _ <| .refl _)) (fun _ _ _ h => h) (Ae (A8 rfl <| Aw rfl <| At rfl hw11)) ?_
         refine A3 9 rfl (by kernel_rfl) (by kernel_rfl) (by kernel_rfl) (by kernel_rfl) rfl rfl (fun _ h => h.drop (.cons_cons _ <| .refl _)) (fun _ _ _ h => h) (A6 (k := q) sl_137 (Ak rfl <| Ab) hmo.plain (Ab) rfl hlq) ?_
         refine A3 10 rfl (by kernel_rfl) (by kernel_rfl) (by kernel_rfl) (by kernel_rfl) rfl rfl (fun _ h => h.drop (.cons_cons _ <| .refl _)) (fun _ _ _ h => h) (q_indexArr (k := 1) ar_27 (Ab) Ad rfl (by decide)) ?_
         refine A3 11 rfl (by kernel_rfl) (by kernel_rfl) (by kernel_rfl) (by kernel_rfl) rfl rfl (fun _ h => h.drop (.cons_cons _ <| .refl _)) (fun _ _ _ h => h) (Ao Bj (Ab) (hmo.cell (j := 1 * 1) hlq rfl)) ?_
         refine A3 12 rfl (by kernel_rfl) (by kernel_rfl) (by kernel_rfl) (by kernel_rfl) rfl rfl (fun _ h => h.drop (.cons_cons _ <| .refl _)) (fun _ _ _ h => h) (A6 (k := M[q].2) Bd (Aw rfl <| Ak rfl <| Ab) (ho.plain (by omega)) (Ab) rfl hMe.2) ?_
         refine A3 13 rfl (by kernel_rfl) (by kernel_rfl) (by kernel_rfl) (by kernel_rfl) rfl rfl (fun _ h => h.drop (.cons_cons _ <| .refl _)) (fun _ _ _ h => h) (Ao Bj (Ab) (Dm ho (fun p hp => .tail _ (hp)) (iL_get hMe.2))) ?_
         refine A3 14 rfl (by kernel_rfl) (by kernel_rfl) (by kernel_rfl) (by kernel_rfl) rfl rfl (fun _ h => h.drop (.cons_cons _ <| .refl _)) (fun _ _ _ h => h) (Ae (A2 rfl <| Ar rfl <| Al rfl <| Aw rfl <| Ak rfl <| Al rfl <| Aw rfl <| Ak rfl <| Al rfl <| Aw rfl <| Ak rfl <| At rfl hs7)) ?_
         refine A3 15 rfl (by kernel_rfl) (by kernel_rfl) (by kernel_rfl) (by kernel_rfl) rfl rfl (fun _ h => h.drop (.cons_cons _ <| .refl _)) (fun _ _ _ h => h) (Ae (A2 rfl <| Ar rfl <| Ak rfl <| Al rfl <| Aw rfl <| Ak rfl <| Al rfl <| Aw rfl <| Ak rfl <| Al rfl <| Aw rfl <| Ak rfl <| Al rfl <| Aw rfl <| Aj rfl)) ?_
         refine A3 16 rfl (by kernel_rfl) (by kernel_rfl) (by kernel_rfl) (by kernel_rfl) rfl rfl (fun _ h => h.drop (.cons_cons _ <| .refl _)) (fun _ _ _ h => h) (Ae (A2 rfl <| Aw rfl <| At rfl hw11)) ?_
         refine A3 17 rfl (by kernel_rfl) (by kernel_rfl) (by kernel_rfl) (by kernel_rfl) rfl rfl (fun _ h => h.drop (.cons_cons _ <| .refl _)) (fun _ _ _ h => h) (A6 (k := q) sl_137 (Ak rfl <| Ab) hmo.plain (Ab) rfl hlq) ?_
         refine A3 18 rfl (by kernel_rfl) (by kernel_rfl) (by kernel_rfl) (by kernel_rfl) rfl rfl (fun _ h => h.drop (.cons_cons _ <| .refl _)) (fun _ _ _ h => h) (q_indexArr (k := 0) ar_27 (Ab) Ad rfl (by decide)) ?_
         refine A3 19 rfl (by kernel_rfl) (by kernel_rfl) (by kernel_rfl) (by kernel_rfl) rfl rfl (fun _ h => h.drop (.cons_cons _ <| .refl _)) (fun _ _ _ h => h) (Ao Bj (Ab) (hmo.cell (j := 0 * 1) hlq rfl)) ?_
         refine A3 20 rfl (by kernel_rfl) (by kernel_rfl) (by kernel_rfl) (by kernel_rfl) rfl rfl (fun _ h => h.drop (.cons_cons _ <| .refl _)) (fun _ _ _ h => h) (A6 (k := M[q].1) Bd (Aw rfl <| Ak rfl <| Ab) (ho.plain (by omega)) (Ab) rfl hMe.1) ?_
         refine A3 21 rfl (by kernel_rfl) (by kernel_rfl) (by kernel_rfl) (by kernel_rfl) rfl rfl (fun _ h => h.drop (.cons_cons _ <| .refl _)) (fun _ _ _ h => h) (Ao Bj (Ab) (Dm ho (fun p hp => .tail _ (hp)) (iL_get hMe.1))) ?_
         refine A3 22 rfl (by kernel_rfl) (by kernel_rfl) (by kernel_rfl) (by kernel_rfl) rfl rfl (fun _ h => h.drop (.cons_cons _ <| .refl _)) (fun _ _ _ h => h) (Bx (Ab) Ad rfl (by omega) (by omega)) ?_
         refine A3 23 rfl (by kernel_rfl) (by kernel_rfl) (by kernel_rfl) (by kernel_rfl) rfl rfl (fun _ h => h.drop (.cons_cons _ <| .refl _)) (fun _ _ _ h => h) (q_max2 (A8 rfl <| Ak rfl <| Ab) (Ab)) ?_
         refine A3 24 rfl (by kernel_rfl) (by kernel_rfl) (by kernel_rfl) (by kernel_rfl) rfl rfl (fun _ h => h.drop (.cons_cons _ <| .refl _)) (fun _ _ _ h => h) (A6 (k := M[q].2) Bd (A2 rfl <| Aw rfl <| Ar rfl <| Ak rfl <| Ab) (ho.plain (by omega)) (A2 rfl <| Ar rfl <| Ab) rfl hMe.2) ?_
         refine WX_x0 25 rfl (by kernel_rfl) (x_storeR sz_3 (Ab) (Ak rfl <| Ab) ho (by rw [iL_len1]; have := hMe.2; omega) rfl (.s <| .z) .last fun R12 ho13 => ⟨(fun h => nomatch h), ?_⟩)
         have ho4 := ho13
         rw [iL_set hMe.2] at ho4
         refine Cz (by kernel_rfl) ?_ _
         refine Bf <| Ac <| Ai fun ds => Aa rfl (Ae (A2 rfl <| A8 rfl <| Aw rfl <| Ak rfl <| At rfl hw11)) ?_
         refine Aa rfl (Bx (Ab) Ad rfl (by omega) (by omega)) ?_
         refine Aa rfl (Af (Ab)) ?_
         refine Ah <| Ac ⟨_, m4 - 1, Off.eq (ou32 rfl <| Bi), by omega, ?_⟩
         exact ⟨q + 1, by omega, (Ab), _, _, ho4, rel_more hI hd hlq, rfl⟩
        ·
         refine Ag <| Ag <| Ai fun ds => Aa rfl (Ae (At rfl hw11)) ?_
         refine Aa rfl (Ae (Ak rfl <| Al rfl <| Aw rfl <| Ak rfl <| Al rfl <| Aw rfl <| Ak rfl <| Al rfl <| Aw rfl <| Ak rfl <| Al rfl <| Aw rfl <| Aj rfl)) ?_
         refine Aa rfl (Bl sl_137 (Ab) hmo.plain) ?_
         refine Aa rfl (Bw (Ar rfl <| Ab) (Ab)) ?_
         refine Ah <| Ac <| Ap (Ab) (by first | rfl | exact decide_eq_false (by omega)) ?_
         obtain rfl : q = M.length := by omega
         refine Bs ?_
         refine Bh <| Bh <| Bk <| Bf <| Ac <| Ai fun ds => Aa rfl (Ae (Aw rfl <| Al rfl <| Aw rfl <| Ak rfl <| Al rfl <| Aw rfl <| Ak rfl <| At rfl ht9)) ?_
         refine Aa rfl (Bx (Ab) Ad rfl (by omega) (by omega)) ?_
         refine Aa rfl (Af (Ab)) ?_
         refine Ah <| Ac ⟨_, m2 - 1, Off.eq (Ed rfl <| ou2 rfl <| D0 rfl <| off_in rfl <| Ed rfl <| D0 rfl <| off_in rfl <| Ed rfl <| D0 rfl <| Bi), by omega, ?_⟩
         exact ⟨r + 1, by omega, (Ab), _, _, ho, rel_round hI, rfl⟩
    ·
     refine Ag <| Ag <| Ai fun ds => Aa rfl (Ae (At rfl ht9)) ?_
     refine Aa rfl (Ae (Ak rfl <| Al rfl <| Aw rfl <| Ak rfl <| Al rfl <| Aw rfl <| Aj rfl)) ?_
     refine Aa rfl (Bl Bd (Ab) hl.plain) ?_
     refine Aa rfl (En (Ar rfl <| Ab) (Ab)) ?_
     refine Ah <| Ac <| Ap (Ab) (by first | rfl | exact decide_eq_false (by omega)) ?_
     rw [rel_full hI (by omega)] at ho
     refine Bs ?_
     refine Bh <| Bh <| Bk <| Ac <| Ag <| Ag <| Ai fun ds => Aa rfl (Af Ad) ?_
     refine Ah <| Ac <| A0 <| Bv [6, 12, 93, 94, 95, 96, 97, 98, 99, 100, 101, 102, 103, 104, 105, 106, 107, 108, 109, 110] (fun m e σ => ∃ i : Nat, m + i = s.editions.length ∧ e 12 = .int .i64 (i : Int) ∧ σ = ⟨F, (b1, bx 25 [vp, ve]) :: R7⟩ ∧ ∀ j, j < i → firstY s (treeE l ++ M) j ≤ (s.ed j).hi) (s.editions.length) ?_ ?_
     · exact ⟨0, by omega, (Ab), rfl, fun j h => absurd h (by omega)⟩
     ·
      rintro m5 e5 _ ⟨i, hm5, hx12, rfl, hno⟩
      by_cases hlt : i < s.editions.length
      ·
       have hip : i < ps.length := by omega
       have e1 := hr.at hip
       refine Ag <| Ag <| Ai fun ds => Aa rfl (Ae (At rfl hx12)) ?_
       refine Aa rfl (Ae (Ak rfl <| Al rfl <| Aw rfl <| Ak rfl <| Al rfl <| Aw rfl <| Ak rfl <| At rfl hs7)) ?_
       refine Aa rfl (Bl Bd (Ab) (ho.plain (by omega))) ?_
       refine Aa rfl (Bw (Ar rfl <| Ab) (Ab)) ?_
       refine Ah <| Ac <| As (Ab) (by first | rfl | exact decide_eq_true (by omega)) ?_
       by_cases hb : (s.ed i).hi < firstY s (treeE l ++ M) i
       ·
        refine Ay <| Ac <| Ag <| A0 <| Ag <| Cn (.inl rfl) (fun _ _ h => h) (by kernel_rfl) (by kernel_rfl) fun ds => ?_
        refine A4 rfl (Ae (Aw rfl <| Al rfl <| Aw rfl <| Ak rfl <| Al rfl <| Aw rfl <| Ak rfl <| At rfl hs7)) ?_
        refine A4 rfl (Ae (Aw rfl <| Ak rfl <| At rfl hx12)) ?_
        refine A4 rfl (A6 (k := i) Bd (Ak rfl <| Ab) (ho.plain (by omega)) (Ab) rfl hlt) ?_
        refine A4 rfl (Ao Bj (Ab) (Dm ho (fun p hp => .tail _ (hp)) (iL_get hlt))) ?_
        refine A4 rfl (Am Bq (A8 rfl <| Al rfl <| Aw rfl <| Ak rfl <| Al rfl <| Aw rfl <| Ak rfl <| Al rfl <| Ar rfl <| Ak rfl <| Ab)) ?_
        refine A4 rfl (Ao By (Ab) (Cell.own 0 rfl rfl)) ?_
        refine A4 rfl (Ae (A8 rfl <| Ar rfl <| At rfl hx12)) ?_
        refine A4 rfl (A6 (k := i) B3 (Ak rfl <| Ab) hr.eds.plain (Ab) rfl hip) ?_
        refine A4 rfl (Bm Dk (Ab)) ?_
        refine A4 rfl (Bm Dl (Ab)) ?_
        refine A4 rfl (Ao Bj (Ab) (hr.eds.cell (j := 1 + 1) hip rfl)) ?_
        refine A4 rfl (C2 (Aw rfl <| Ar rfl <| Ak rfl <| Ab) (Ab)) ?_
        refine C0 ?_
        refine Ac <| As (Ab) (by rw [e1]; exact decide_eq_true hb) ?_
        refine Ag <| Ai fun ds => Aa rfl (Af Ad) ?_
        refine Ah <| Ac <| A7 <| Bo (Be (Be (Bo (Be ?_))))
        refine Ax rfl (.tmp (Ab) .nil) ?_
        exact .inr ⟨fitsE_no hlt hb, rfl⟩
       ·
        refine Ay <| Ac <| Ag <| A0 <| Ag <| Cn (.inl rfl) (fun _ _ h => h) (by kernel_rfl) (by kernel_rfl) fun ds => ?_
        refine A4 rfl (Ae (Aw rfl <| Al rfl <| Aw rfl <| Ak rfl <| Al rfl <| Aw rfl <| Ak rfl <| At rfl hs7)) ?_
        refine A4 rfl (Ae (Aw rfl <| Ak rfl <| At rfl hx12)) ?_
        refine A4 rfl (A6 (k := i) Bd (Ak rfl <| Ab) (ho.plain (by omega)) (Ab) rfl hlt) ?_
        refine A4 rfl (Ao Bj (Ab) (Dm ho (fun p hp => .tail _ (hp)) (iL_get hlt))) ?_
        refine A4 rfl (Am Bq (A8 rfl <| Al rfl <| Aw rfl <| Ak rfl <| Al rfl <| Aw rfl <| Ak rfl <| Al rfl <| Ar rfl <| Ak rfl <| Ab)) ?_
        refine A4 rfl (Ao By (Ab) (Cell.own 0 rfl rfl)) ?_
        refine A4 rfl (Ae (A8 rfl <| Ar rfl <| At rfl hx12)) ?_
        refine A4 rfl (A6 (k := i) B3 (Ak rfl <| Ab) hr.eds.plain (Ab) rfl hip) ?_
        refine A4 rfl (Bm Dk (Ab)) ?_
        refine A4 rfl (Bm Dl (Ab)) ?_
        refine A4 rfl (Ao Bj (Ab) (hr.eds.cell (j := 1 + 1) hip rfl)) ?_
        refine A4 rfl (C2 (Aw rfl <| Ar rfl <| Ak rfl <| Ab) (Ab)) ?_
        refine C0 ?_
        refine Ac <| Ap (Ab) (by rw [e1]; exact decide_eq_false hb) ?_
        refine Ay <| Bf <| Ac <| Ai fun ds => Aa rfl (Ae (A2 rfl <| At rfl hx12)) ?_
        refine Aa rfl (Bx (Ab) Ad rfl (by omega) (by omega)) ?_
        refine Aa rfl (Af (Ab)) ?_
        refine Ah <| Ac ⟨_, m5 - 1, Off.eq (C7 rfl <| ou2 rfl <| D0 rfl <| Bi), by omega, ?_⟩
        refine ⟨i + 1, by omega, (Ab), rfl, fun j hj => ?_⟩
        rcases Nat.lt_succ_iff_lt_or_eq.1 hj with hj | rfl
        · exact hno j hj
        · omega
      ·
       refine Ag <| Ag <| Ai fun ds => Aa rfl (Ae (At rfl hx12)) ?_
       refine Aa rfl (Ae (Ak rfl <| Al rfl <| Aw rfl <| Ak rfl <| Al rfl <| Aw rfl <| Ak rfl <| At rfl hs7)) ?_
       refine Aa rfl (Bl Bd (Ab) (ho.plain (by omega))) ?_
       refine Aa rfl (Bw (Ar rfl <| Ab) (Ab)) ?_
       refine Ah <| Ac <| Ap (Ab) (by first | rfl | exact decide_eq_false (by omega)) ?_
       replace ho := ho.to (Ct (f := firstY s (treeE l ++ M))).symm
       refine Cw (σ := ⟨_, _⟩) (by rfl) ho (.s <| .z) .last fun F15 hF16 hz17 => ?_
       have hn7 := ho.sl (fun _ => rfl) hz17 (by rw [Ct]; omega)
       refine Bs ?_
       refine Bh <| Bh <| Bk <| Ac <| Ag <| Ai fun ds => Aa rfl (Ae (Aw rfl <| Al rfl <| Aw rfl <| Ak rfl <| Al rfl <| Aw rfl <| Ak rfl <| At rfl hs7)) ?_
       refine Aa rfl (Af (Ab)) ?_
       refine Ah <| Ac <| A7 <| Ax rfl (.tmp (Ab) .nil) ?_
       exact .inl ⟨fitsE_iff.2 fun j hj => hno j (by omega), hn7⟩
end Go.Proofs.Ytccogmkhijgelaa
namespace Go.Proofs.Ytccogmkhijgelaa
open Go.RowKit
section
variable {P : Program} {n : Nat} {B : Base} {e : Env} {σ : St} {d : Option Nat} {ty : TypeId} {pos : String} {af : Array Edge} {gd : Option (Nat × Bool)}
theorem q_neqNil {T E : Nat} {x y : Operand} {a : Option Addr} {k c : Nat} {u : TypeId} (hT : P.underlying T = some (.slice E)) (hx : ev e x = .slice a k c) (hy : ev e y = .slice none 0 0) :
   OpR P B ⟨d, .binOp .neq T x y u, ty, pos, af, gd⟩ e σ (.bool (!a.isNone)) := fun w _ => by
 have h1 : (binOp .neq T (.slice a k c) (.slice none 0 0)).run P w = .ok (.bool (!a.isNone)) w := by
   simp only [binOp]
   simp [Op.equal, Op.maxDepth, run_equalIn_slice_nil hT a k c 9999 w]
 simp only [execOp, hx, hy, eqGuard, Bool.not_true, Bool.false_eq_true, ite_self, Sem.run_bind, Sem.run_pure, Result.andThen_ok, h1]
theorem q_buildA {T E len s : Nat} {zl l : List Value} {offs : List (Nat × Nat)} {xs : List (Nat × Operand)} {ps : List (Nat × List Value)} (hT : P.underlying T = some (.array len E)) (hE : SizeT P E s) (hz : ZeroT P T (.agg zl.toArray)) (hx : Pv e xs ps) (hoff : ∀ i p, offs[i]? = some p → p = (i * s, s)) (hf : FillL offs zl ps l) :
   OpR P B ⟨d, .build T xs.toArray, ty, pos, af, gd⟩ e σ (.agg l.toArray) := fun w _ => by
 have hs := Cm (P := P) (T := E) (s := s) hE
 have hfill := hf.fill (place := fun i => some (i * s, s)) (fun i p hi => by rw [hoff i p hi]) (xs.map fun (p : Nat × Operand) => (p.1, ev e p.2)) hx.map
 have hc : (Value.agg zl.toArray).cells = zl.toArray := rfl
 simp only [execOp, Instr.build, Sem.run_bind, run_zero hz, Result.andThen_ok, hc, B9 hT, hs]
 simp only [List.map_toArray, List.toList_toArray] at *
 have e1 : (xs.map fun x => match x with | (i, x) => (i, ev e x)) = xs.map fun (p : Nat × Operand) => (p.1, ev e p.2) := by
   apply List.map_congr_left; intro p _; rfl
 rw [e1, hfill]
 rfl
end
end Go.Proofs.Ytccogmkhijgelaa
namespace Go.Proofs.Ytccogmkhijgelaa
open Go.RowKit
theorem zr_27 : ZeroT Try.prog 27 (.agg #[.int .i64 0, .int .i64 0]) := C5 (by kernel_rfl)
theorem bd_51 : Body Try.prog 51 := Br (by kernel_rfl)
theorem bd_74 : Body Try.prog 74 := Br (by kernel_rfl)
theorem under_succ {l : List Int} {f x o : Nat} : under l (f + 1) x o = (decide (x = o) || (if upN l x = -1 then false else under l f (upN l x).toNat o)) := rfl
theorem pr_box1 {F : Heap} {b T x y : Nat} (h : F b = some (bx T [.int .i64 (x : Int), .int .i64 (y : Int)])) : Sl F (.slice (some ⟨b, 0, none⟩) 1 1) 2 prE [(x, y)] :=
 sl_box (xs := [(x, y)]) h rfl rfl (fun _ => rfl) (by decide)
theorem q_remN {P : Program} {B : Base} {e : Env} {σ : St} {d : Option Nat} {ty : TypeId} {pos : String} {af : Array Edge} {gd : Option (Nat × Bool)} {x y : Operand} {a b : Nat} {k : IntKind} {t u : TypeId} (hx : ev e x = .int k (a : Int)) (hy : ev e y = .int k (b : Int)) (hb : 0 < b) :
   OpR P B ⟨d, .binOp .rem t x y u, ty, pos, af, gd⟩ e σ (.int k ((a % b : Nat) : Int)) := by
 have := q_rem (P := P) (B := B) (σ := σ) (d := d) (ty := ty) (pos := pos) (af := af) (gd := gd) (t := t) (u := u) hx hy (Int.natCast_nonneg a) (by omega)
 rwa [← Int.natCast_emod] at this
set_option maxRecDepth 100000 in
theorem refUnder_ok {F : Heap} {v : Value} {l : List Int} (hl : Ints F v l) (ht : IsTree l) {i : Nat} (hi : i < l.length) (o : Nat) : Ok Try.prog 51 [v, .int .i64 (i : Int), .int .i64 (o : Int)].toArray F fun u _ => u = .bool (underB l i o) := by
 refine Ok.intro Try.func51 rfl Try.ntmps51 rfl fun w0 => ?_
 have hL := hl.plain.lt
 refine Ag <| Ai fun ds => Aa rfl (Af Ad) ?_
 refine Ah <| Ac <| Ag <| Ag <| Ai fun ds => Aa rfl (Af Ad) ?_
 refine Ah <| Ac <| A0 <| Bv [1, 7, 8, 9, 10, 11, 12, 13, 14, 15, 16, 17, 18, 19, 20, 21, 22, 23, 24, 25, 26] (fun m e σ => ∃ (st : Nat) (z : Int), m + st = l.length ∧ st ≤ l.length ∧ e 7 = .int .i64 (st : Int) ∧ e 1 = .int .i64 z ∧ (z = -1 ∧ underB l i o = false ∨ ∃ j : Nat, z = (j : Int) ∧ j < l.length ∧ underB l i o = under l (l.length - st) j o ∧ reach l (l.length - st) j = true) ∧ σ = ⟨F, []⟩) (l.length) ?_ ?_
 · exact ⟨0, _, by omega, by omega, (Ab), (Ar rfl <| Aj rfl), .inr ⟨i, rfl, hi, rfl, ht.reach i hi⟩, rfl⟩
 ·
  rintro m e _ ⟨st, z, hm, hsl, hs7, hs1, hz, rfl⟩
  by_cases hst : st < l.length
  ·
   refine Ag <| Ag <| Ai fun ds => Aa rfl (Ae (At rfl hs7)) ?_
   refine Aa rfl (Ae (Ak rfl <| Al rfl <| Ar rfl <| Aj rfl)) ?_
   refine Aa rfl (Bl Bd (Ab) hl.plain) ?_
   refine Aa rfl (Bw (Ar rfl <| Ab) (Ab)) ?_
   refine Aa rfl (Ae (Ab)) ?_
   refine Aq rfl rfl (Ab) (by first | rfl | exact decide_eq_true (by omega)) ?_
   refine Aa rfl (Ae (Aw rfl <| Ak rfl <| At rfl hs1)) ?_
   refine Aq rfl rfl (Ak rfl <| Ab) (by first | rfl | exact decide_eq_true (by omega)) ?_
   refine Aa rfl (Ae (Aw rfl <| Ar rfl <| Al rfl <| Ar rfl <| Aj rfl)) ?_
   refine Aq rfl rfl (Ar rfl <| Ab) (by first | rfl | exact decide_eq_true (by omega)) ?_
   refine Aa rfl (B1 (Ak rfl <| Ab) (Ab)) ?_
   refine Aa rfl (A5 (Ar rfl <| Ak rfl <| Ab) (by first | rfl | exact decide_eq_true (by omega)) (Ab)) ?_
   refine Aa rfl (Ae (Ab)) ?_
   rcases hz with ⟨hz, hu⟩ | ⟨j, hz, hjl, hu, hre⟩
   ·
    refine Aq rfl rfl (Ab) (decide_eq_true (by omega)) ?_
    refine Aa rfl (Ae (A8 rfl <| Ar rfl <| At rfl hs1)) ?_
    refine Aq rfl rfl (Ak rfl <| Ab) (decide_eq_true (by omega)) ?_
    refine Aa rfl (B1 (Ab) Ad) ?_
    refine Aa rfl (A5 (Ar rfl <| Ab) (decide_eq_true (by omega)) (Ab)) ?_
    refine Ah <| Ac <| Ap (Ab) (decide_eq_false (fun h => h hz)) ?_
    refine Bs ?_
    refine Bh <| Bh <| Bk <| Ac <| Ag <| Ai fun ds => Aa rfl (Ae (A8 rfl <| Aw rfl <| Ak rfl <| At rfl hs1)) ?_
    refine Aa rfl (Ae (A8 rfl <| Aw rfl <| Ar rfl <| Al rfl <| Ar rfl <| Aj rfl)) ?_
    refine Aa rfl (Bz (Ak rfl <| Ab) (Ab)) ?_
    refine Aa rfl (Af (Ab)) ?_
    refine Ah <| Ac <| A7 <| Ax rfl (.tmp (Ab) .nil) ?_
    show _ = _
    rw [hu]; exact congrArg Value.bool (decide_eq_false (by omega))
   ·
    by_cases hjo : j = o
    ·
     refine Au rfl rfl (Ab) (.inl (congrArg Value.bool (decide_eq_false (fun h => h (by omega))))) rfl ?_
     refine Au rfl rfl (Ak rfl <| Ab) (.inl (congrArg Value.bool (decide_eq_false (fun h => h (by omega))))) rfl ?_
     refine Aa rfl (A9 (Ar rfl <| Ab) (decide_eq_false (fun h => h (by omega))) Ad) ?_
     refine Ah <| Ac <| Ap (Ab) rfl ?_
     refine Bs ?_
     refine Bh <| Bh <| Bk <| Ac <| Ag <| Ai fun ds => Aa rfl (Ae (A8 rfl <| Aw rfl <| Ak rfl <| At rfl hs1)) ?_
     refine Aa rfl (Ae (A8 rfl <| Aw rfl <| Ar rfl <| Al rfl <| Ar rfl <| Aj rfl)) ?_
     refine Aa rfl (Bz (Ak rfl <| Ab) (Ab)) ?_
     refine Aa rfl (Af (Ab)) ?_
     refine Ah <| Ac <| A7 <| Ax rfl (.tmp (Ab) .nil) ?_
     show _ = _
     rw [hu, hjo, under_self]; exact congrArg Value.bool (decide_eq_true (by omega))
    ·
     have hstep : under l (l.length - st) j o = if upN l j = -1 then false else under l (l.length - (st + 1)) (upN l j).toNat o := by rw [show l.length - st = (l.length - (st + 1)) + 1 by omega, under_succ, decide_eq_false hjo, Bool.false_or]
     refine Aq rfl rfl (Ab) (decide_eq_true (by omega)) ?_
     refine Aa rfl (Ae (A8 rfl <| Ar rfl <| At rfl hs1)) ?_
     refine Aq rfl rfl (Ak rfl <| Ab) (decide_eq_true (by omega)) ?_
     refine Aa rfl (B1 (Ab) Ad) ?_
     refine Aa rfl (A5 (Ar rfl <| Ab) (decide_eq_true (by omega)) (Ab)) ?_
     refine Ah <| Ac <| As (Ab) (decide_eq_true (by omega)) ?_
     refine Ay <| Ac <| Ag <| A0 <| Ai fun ds => Aa rfl (Ae (A8 rfl <| Aw rfl <| Ak rfl <| Al rfl <| Ar rfl <| Aj rfl)) ?_
     refine Aa rfl (Ae (A8 rfl <| Aw rfl <| Ar rfl <| At rfl hs1)) ?_
     refine Aa rfl (A6 (k := j) Bd (Ak rfl <| Ab) hl.plain (Ab) hz hjl) ?_
     refine Aa rfl (Ao Bj (Ab) (hl.cell1 hjl rfl)) ?_
     refine Aa rfl (Af (Ab)) ?_
     refine Ah <| Bf <| Ac <| Ai fun ds => Aa rfl (Ae (A2 rfl <| Ar rfl <| At rfl hs7)) ?_
     refine Aa rfl (Bx (Ab) Ad rfl (by omega) (by omega)) ?_
     refine Aa rfl (Af (Ab)) ?_
     refine Ah <| Ac ⟨_, m - 1, Off.eq (C7 rfl <| Ed rfl <| D0 rfl <| Bi), by omega, ?_⟩
     refine ⟨st + 1, _, by omega, by omega, (Ab), (Ar rfl <| Ak rfl <| Ab), ?_, rfl⟩
     rw [De hjl]
     by_cases h1 : upN l j = -1
     · rw [if_pos h1] at hstep; exact .inl ⟨h1, by rw [hu, hstep]⟩
     · obtain ⟨k, hk, hkl⟩ := ht.in_.nat hjl h1
       rw [if_neg h1, hk, Int.toNat_natCast] at hstep
       refine .inr ⟨k, hk, hkl, by rw [hu, hstep], ?_⟩
       rw [show l.length - st = (l.length - (st + 1)) + 1 by omega, reach_step hk] at hre
       exact hre
  ·
   refine Ag <| Ag <| Ai fun ds => Aa rfl (Ae (At rfl hs7)) ?_
   refine Aa rfl (Ae (Ak rfl <| Al rfl <| Ar rfl <| Aj rfl)) ?_
   refine Aa rfl (Bl Bd (Ab) hl.plain) ?_
   refine Aa rfl (Bw (Ar rfl <| Ab) (Ab)) ?_
   refine Aa rfl (Ae (Ab)) ?_
   refine Au rfl rfl (Ab) (.inl (congrArg Value.bool (by first | rfl | exact decide_eq_false (by omega)))) rfl ?_
   refine Au rfl rfl (Ak rfl <| Ab) (.inl (congrArg Value.bool (by first | rfl | exact decide_eq_false (by omega)))) rfl ?_
   refine Au rfl rfl (Ar rfl <| Ab) (.inl (congrArg Value.bool (by first | rfl | exact decide_eq_false (by omega)))) rfl ?_
   refine Aa rfl (A9 (Ar rfl <| Ak rfl <| Ab) (by first | rfl | exact decide_eq_false (by omega)) Ad) ?_
   refine Aa rfl (Ae (Ab)) ?_
   refine Au rfl rfl (Ab) (.inl (congrArg Value.bool rfl)) rfl ?_
   refine Au rfl rfl (Ak rfl <| Ab) (.inl (congrArg Value.bool rfl)) rfl ?_
   refine Aa rfl (A9 (Ar rfl <| Ab) rfl Ad) ?_
   refine Ah <| Ac <| Ap (Ab) rfl ?_
   rcases hz with ⟨hz, hu⟩ | ⟨j, hz, hjl, hu, hre⟩
   ·
    refine Bs ?_
    refine Bh <| Bh <| Bk <| Ac <| Ag <| Ai fun ds => Aa rfl (Ae (A8 rfl <| Aw rfl <| Ak rfl <| At rfl hs1)) ?_
    refine Aa rfl (Ae (A8 rfl <| Aw rfl <| Ar rfl <| Al rfl <| Ar rfl <| Aj rfl)) ?_
    refine Aa rfl (Bz (Ak rfl <| Ab) (Ab)) ?_
    refine Aa rfl (Af (Ab)) ?_
    refine Ah <| Ac <| A7 <| Ax rfl (.tmp (Ab) .nil) ?_
    show _ = _
    rw [hu]; exact congrArg Value.bool (decide_eq_false (by omega))
   ·
    refine Bs ?_
    refine Bh <| Bh <| Bk <| Ac <| Ag <| Ai fun ds => Aa rfl (Ae (A8 rfl <| Aw rfl <| Ak rfl <| At rfl hs1)) ?_
    refine Aa rfl (Ae (A8 rfl <| Aw rfl <| Ar rfl <| Al rfl <| Ar rfl <| Aj rfl)) ?_
    refine Aa rfl (Bz (Ak rfl <| Ab) (Ab)) ?_
    refine Aa rfl (Af (Ab)) ?_
    refine Ah <| Ac <| A7 <| Ax rfl (.tmp (Ab) .nil) ?_
    show _ = _
    rw [hu, show l.length - st = 0 by omega]; unfold under; exact congrArg Value.bool (decide_eq_decide.2 (by omega))
set_option maxRecDepth 100000 in
theorem refCan_ok {F : Heap} {vp ve : Value} {ps : List (Value × Edn)} {s : Stm} (hr : StmR F vp ve ps s) (hv : ValidT s) {v : Value} {l : List Int} (hl : Ints F v l) (hll : l.length = s.editions.length) (ht : IsTree l) {x o : Nat} (hx : x < l.length) (ho : o < l.length) : Ok Try.prog 49 [.agg #[vp, ve], v, .int .i64 (x : Int), .int .i64 (o : Int)].toArray F fun u _ => u = .bool (canT s l x o) := by
 have hle0 : F.le F := Heap.le_refl _
 refine Ok.intro Try.func49 rfl Try.ntmps49 rfl fun w0 => ?_
 have hne := hv.ne
 have hux := De hx
 by_cases h1 : (o : Int) ≠ upN l x
 ·
  refine Ag <| Ai fun ds => Bn rfl (B7 (Aj rfl) rfl fun b1 hb1 nb1 => ?_)
  refine Aa rfl (Af Ad) ?_
  refine Ah <| Ac <| Ag <| Ai fun ds => Aa rfl (Ae (Ar rfl <| Aj rfl)) ?_
  refine Aa rfl (Ae (Ar rfl <| Ak rfl <| Aj rfl)) ?_
  refine Aa rfl (Ae (Aw rfl <| Aj rfl)) ?_
  refine Aa rfl (A6 (k := x) Bd (Ak rfl <| Ab) hl.plain (Ab) rfl hx) ?_
  refine Aa rfl (Ao Bj (Ab) (hl.cell1 hx rfl)) ?_
  refine Aa rfl (B1 (Aw rfl <| Ab) (Ab)) ?_
  refine Aa rfl (Ae (Ab)) ?_
  refine Aq rfl rfl (Ab) (by rw [hux]; exact decide_eq_true h1) ?_
  refine Aa rfl (Ae (A8 rfl <| Ak rfl <| Aj rfl)) ?_
  refine Aq rfl rfl (Ak rfl <| Ab) (by rw [hux]; exact decide_eq_true h1) ?_
  refine Aa rfl (Ae (A8 rfl <| Ar rfl <| Aj rfl)) ?_
  refine Aq rfl rfl (Ar rfl <| Ab) (by rw [hux]; exact decide_eq_true h1) ?_
  refine Aa rfl (Ae (A8 rfl <| Ar rfl <| Ak rfl <| Aj rfl)) ?_
  refine Aq rfl rfl (Ar rfl <| Ak rfl <| Ab) (by rw [hux]; exact decide_eq_true h1) ?_
  refine B0 rfl (Bg bd_51 A1 (.cons (Ar rfl <| Ab) (.cons (Ak rfl <| Ab) (.cons (Ab) .nil))) (refUnder_ok hl ht ho x) (fun _ _ h => h)) ?_
  refine Aq rfl rfl (Aw rfl <| Ab) (by rw [hux]; exact decide_eq_true h1) ?_
  refine Aa rfl (Cp (Ab)) ?_
  refine Aa rfl (A5 (Aw rfl <| Ak rfl <| Ab) (by rw [hux]; exact decide_eq_true h1) (Ab)) ?_
  refine Aa rfl (Ae (Ab)) ?_
  by_cases h2 : underB l o x = true
  ·
   refine Au rfl rfl (Ab) (.inl (congrArg Value.bool (by rw [h2]; first | done | rfl))) rfl ?_
   refine Au rfl rfl (Ak rfl <| Ab) (.inl (congrArg Value.bool (by rw [h2]; first | done | rfl))) rfl ?_
   refine Au rfl rfl (Ar rfl <| Ab) (.inl (congrArg Value.bool (by rw [h2]; first | done | rfl))) rfl ?_
   refine Au rfl rfl (Ar rfl <| Ak rfl <| Ab) (.inl (congrArg Value.bool (by rw [h2]; first | done | rfl))) rfl ?_
   refine Au rfl rfl (Aw rfl <| Ab) (.inl (congrArg Value.bool (by rw [h2]; first | done | rfl))) rfl ?_
   refine Au rfl rfl (Aw rfl <| Ak rfl <| Ab) (.inl (congrArg Value.bool (by rw [h2]; first | done | rfl))) rfl ?_
   refine Au rfl rfl (Aw rfl <| Ar rfl <| Ab) (.inl (congrArg Value.bool (by rw [h2]; first | done | rfl))) rfl ?_
   refine Au rfl rfl (Aw rfl <| Ar rfl <| Ak rfl <| Ab) (.inl (congrArg Value.bool (by rw [h2]; first | done | rfl))) rfl ?_
   refine Aa rfl (A9 (A8 rfl <| Ab) (by rw [h2]; first | done | rfl) Ad) ?_
   refine Aa rfl (Af (Ab)) ?_
   refine Ah <| Ac <| A7 <| Ax rfl (.tmp (Ab) .nil) ?_
   show _ = _
   unfold canT; rw [h2]; simp [outOf]
  ·
   replace h2 : underB l o x = false := by simpa using h2
   have hdag : Dag s.editions.length (treeE l ++ [(o, x)]) := by rw [← hll]; exact ht.dag2 ho hx h2
   refine Aq rfl rfl (Ab) (by rw [h2]; first | done | rfl) ?_
   refine Aa rfl (Bc B5 (A8 rfl <| Aw rfl <| Ar rfl <| Ak rfl <| Ab) rfl rfl (Bb 0 rfl)) ?_
   refine Aq rfl rfl (Ak rfl <| Ab) (by rw [h2]; first | done | rfl) ?_
   refine Aa rfl (Ae (A2 rfl <| Ak rfl <| Aj rfl)) ?_
   refine Aq rfl rfl (Ar rfl <| Ab) (by rw [h2]; first | done | rfl) ?_
   refine Aa rfl (Ae (A2 rfl <| Ar rfl <| Aj rfl)) ?_
   refine Aq rfl rfl (Ar rfl <| Ak rfl <| Ab) (by rw [h2]; first | done | rfl) ?_
   refine Aa rfl (Ae (A2 rfl <| Ar rfl <| Ak rfl <| Aj rfl)) ?_
   refine Aq rfl rfl (Aw rfl <| Ab) (by rw [h2]; first | done | rfl) ?_
   refine Aa rfl (q_buildA (s := 1) (offs := [(0, 1), (1, 1)]) (zl := [.int .i64 0, .int .i64 0]) Try.underlying27 (Cx (by kernel_rfl)) zr_27 (.cons (Ak rfl <| Ab) rfl (.cons (Ab) rfl .nil)) (by intro i p h; rcases i with _ | _ | i <;> simp at h <;> subst h <;> rfl) (.cons rfl rfl (Nat.le_of_ble_eq_true rfl) (.cons (.here) .nil) (.cons rfl rfl (Nat.le_of_ble_eq_true rfl) (.cons (.next <| .here) .nil) .nil))) ?_
   refine Aq rfl rfl (Aw rfl <| Ak rfl <| Ab) (by rw [h2]; first | done | rfl) ?_
   refine Bn rfl (x_buildN (offs := [(0, 2)]) (zl := [.int .i64 0, .int .i64 0]) sl_137 zr_27 rfl (.cons (Ab) rfl .nil) (by intro i p h; rcases i with _ | i <;> simp at h <;> subst h <;> rfl) (.cons rfl rfl (Nat.le_of_ble_eq_true rfl) (.cons (.here) (.cons (.next <| .here) .nil)) .nil) (by decide) (by decide) fun b2 hb2 nb2 => ?_)
   refine Ca (i := 0) rfl hb2 .here fun F3 hF4 hz5 => ?_
   replace hr := hr.mono hF4
   replace hl := hl.mono hF4
   have hsl6 := pr_box1 hz5
   refine Aq rfl rfl (Aw rfl <| Ar rfl <| Ab) (by rw [h2]; first | done | rfl) ?_
   refine Bn rfl (Cj bd_74 A1 (.cons (Aw rfl <| Ak rfl <| Ab) (.cons (Aw rfl <| Ab) (.cons (Ab) .nil))) (earliest_ok hr hv hl hll ht hsl6 hdag) fun v7 F8 hr9 hF10 => ?_)
   have her := hr9
   obtain ⟨a9, k9, c9, rfl, hn9⟩ := her.nil (by omega)
   refine Aq rfl rfl (Aw rfl <| Ar rfl <| Ak rfl <| Ab) (by rw [h2]; first | done | rfl) ?_
   refine Aa rfl (q_neqNil Try.underlying26 (Ab) Ad) ?_
   refine Aa rfl (A5 (A8 rfl <| Ab) (by rw [h2]; first | done | rfl) (Ab)) ?_
   refine Aa rfl (Af (Ab)) ?_
   refine Ah <| Ac <| A7 <| Ax rfl (.tmp (Ab) .nil) ?_
   show _ = _
   unfold canT fitsT2; rw [h2, decide_eq_true h1]
   have h8 : a9.isNone = !(fitsE s (treeE l ++ [(o, x)])) := by rw [← hn9]; cases a9 <;> rfl
   rw [h8, Bool.not_not]; rfl
 ·
  refine Ag <| Ai fun ds => Bn rfl (B7 (Aj rfl) rfl fun b11 hb11 nb11 => ?_)
  refine Aa rfl (Af Ad) ?_
  refine Ah <| Ac <| Ag <| Ai fun ds => Aa rfl (Ae (Ar rfl <| Aj rfl)) ?_
  refine Aa rfl (Ae (Ar rfl <| Ak rfl <| Aj rfl)) ?_
  refine Aa rfl (Ae (Aw rfl <| Aj rfl)) ?_
  refine Aa rfl (A6 (k := x) Bd (Ak rfl <| Ab) hl.plain (Ab) rfl hx) ?_
  refine Aa rfl (Ao Bj (Ab) (hl.cell1 hx rfl)) ?_
  refine Aa rfl (B1 (Aw rfl <| Ab) (Ab)) ?_
  refine Aa rfl (Ae (Ab)) ?_
  refine Au rfl rfl (Ab) (.inl (congrArg Value.bool (by rw [hux]; exact decide_eq_false h1))) rfl ?_
  refine Au rfl rfl (Ak rfl <| Ab) (.inl (congrArg Value.bool (by rw [hux]; exact decide_eq_false h1))) rfl ?_
  refine Au rfl rfl (Ar rfl <| Ab) (.inl (congrArg Value.bool (by rw [hux]; exact decide_eq_false h1))) rfl ?_
  refine Au rfl rfl (Ar rfl <| Ak rfl <| Ab) (.inl (congrArg Value.bool (by rw [hux]; exact decide_eq_false h1))) rfl ?_
  refine Au rfl rfl (Aw rfl <| Ab) (.inl (congrArg Value.bool (by rw [hux]; exact decide_eq_false h1))) rfl ?_
  refine Aa rfl (A9 (Aw rfl <| Ak rfl <| Ab) (by rw [hux]; exact decide_eq_false h1) Ad) ?_
  refine Aa rfl (Ae (Ab)) ?_
  refine Au rfl rfl (Ab) (.inl (congrArg Value.bool rfl)) rfl ?_
  refine Au rfl rfl (Ak rfl <| Ab) (.inl (congrArg Value.bool rfl)) rfl ?_
  refine Au rfl rfl (Ar rfl <| Ab) (.inl (congrArg Value.bool rfl)) rfl ?_
  refine Au rfl rfl (Ar rfl <| Ak rfl <| Ab) (.inl (congrArg Value.bool rfl)) rfl ?_
  refine Au rfl rfl (Aw rfl <| Ab) (.inl (congrArg Value.bool rfl)) rfl ?_
  refine Au rfl rfl (Aw rfl <| Ak rfl <| Ab) (.inl (congrArg Value.bool rfl)) rfl ?_
  refine Au rfl rfl (Aw rfl <| Ar rfl <| Ab) (.inl (congrArg Value.bool rfl)) rfl ?_
  refine Au rfl rfl (Aw rfl <| Ar rfl <| Ak rfl <| Ab) (.inl (congrArg Value.bool rfl)) rfl ?_
  refine Aa rfl (A9 (A8 rfl <| Ab) rfl Ad) ?_
  refine Aa rfl (Af (Ab)) ?_
  refine Ah <| Ac <| A7 <| Ax rfl (.tmp (Ab) .nil) ?_
  show _ = _
  unfold canT; rw [decide_eq_false h1]; rfl
set_option maxRecDepth 100000 in
theorem refSaves_ok {F : Heap} {vp ve : Value} {ps : List (Value × Edn)} {s : Stm} (hr : StmR F vp ve ps s) (hv : ValidT s) {v : Value} {l : List Int} (hl : Ints F v l) (hll : l.length = s.editions.length) (ht : IsTree l) {x o : Nat} (hx : x < l.length) (ho : o < l.length) (hux : upN l x ≠ -1) : Ok Try.prog 50 [.agg #[vp, ve], v, .int .i64 (x : Int), .int .i64 (o : Int)].toArray F fun u _ => u = .int .i64 (savesN s l x o) := by
 have hle0 : F.le F := Heap.le_refl _
 refine Ok.intro Try.func50 rfl Try.ntmps50 rfl fun w0 => ?_
 have hne := hv.ne
 have hnp := hv.np
 have hlen := hr.len
 obtain ⟨y, hy, hyl⟩ := ht.in_.nat hx hux
 have hlx : l[x] = (y : Int) := by rw [De hx, hy]
 have hyn : (upN l x).toNat = y := by omega
 have hol : (ownL s l x).length ≤ s.places.length := Df
 have hxp : x < ps.length := by omega
 have hop : o < ps.length := by omega
 have hrx := hr.rd hxp
 have hro := hr.rd hop
 refine Ag <| Ai fun ds => Bn rfl (B7 (Aj rfl) rfl fun b1 hb1 nb1 => ?_)
 refine Aa rfl (Af Ad) ?_
 refine Ah <| Ac <| Ag ?_
 have hleS := hle0
 refine Cr (.inl rfl) (fun _ _ h => h) (.cons_cons _ <| .refl _) [] (by kernel_rfl) fun ds => ?_
 refine A3 0 rfl (by kernel_rfl) (by kernel_rfl) (by kernel_rfl) (by kernel_rfl) rfl rfl (fun _ h => h.drop (.cons_cons _ <| .refl _)) (fun _ _ _ h => h) (Bc B5 (Ak rfl <| Ab) rfl rfl (Bb 0 rfl)) ?_
 refine A3 1 rfl (by kernel_rfl) (by kernel_rfl) (by kernel_rfl) (by kernel_rfl) rfl rfl (fun _ h => h.drop (.cons_cons _ <| .refl _)) (fun _ _ _ h => h) (Ae (Ar rfl <| Ak rfl <| Aj rfl)) ?_
 refine A3 2 rfl (by kernel_rfl) (by kernel_rfl) (by kernel_rfl) (by kernel_rfl) rfl rfl (fun _ h => h.drop (.cons_cons _ <| .refl _)) (fun _ _ _ h => h) (Ae (Aw rfl <| Aj rfl)) ?_
 refine A3 3 rfl (by kernel_rfl) (by kernel_rfl) (by kernel_rfl) (by kernel_rfl) rfl rfl (fun _ h => h.drop (.cons_cons _ <| .refl _)) (fun _ _ _ h => h) (A6 (k := x) Bd (Ak rfl <| Ab) hl.plain (Ab) rfl hx) ?_
 refine A3 4 rfl (by kernel_rfl) (by kernel_rfl) (by kernel_rfl) (by kernel_rfl) rfl rfl (fun _ h => h.drop (.cons_cons _ <| .refl _)) (fun _ _ _ h => h) (Ao Bj (Ab) (show Cell _ (addc (base v) (x * 1)) (.int .i64 (y : Int)) by rw [← hlx]; exact hl.int hx)) ?_
 refine A3 5 rfl (by kernel_rfl) (by kernel_rfl) (by kernel_rfl) (by kernel_rfl) rfl rfl (fun _ h => h.drop (.cons_cons _ <| .refl _)) (fun _ _ _ h => h) (Ae (Aw rfl <| Ar rfl <| Ak rfl <| Aj rfl)) ?_
 refine WX_x 6 rfl (by kernel_rfl) rfl (Cj bd_67 A1 (.cons (Aw rfl <| Ak rfl <| Ab) (.cons (Ak rfl <| Ab) (.cons (Ab) .nil))) ((refPlaces_ok hr hv (a := y) (b := x) (by omega) (by omega))) fun v2 F3 hr4 hF5 => ⟨fun _ _ _ h => (h.drop (.cons_cons _ <| .refl _)).weak hF5 hleS, ?_⟩)
 replace hr := hr.mono hF5
 replace hrx := hrx.mono hF5
 replace hro := hro.mono hF5
 have hap := hr4
 rw [← hyn] at hap
 change Nats _ _ (ownL s l x) at hap
 refine A3 7 rfl (by kernel_rfl) (by kernel_rfl) (by kernel_rfl) (by kernel_rfl) rfl rfl (fun _ h => (h.drop (.cons_cons _ <| .refl _)).weak hF5 hleS) (fun _ _ _ h => h) (Af (Ab)) ?_
 refine Cz (by kernel_rfl) ?_ _
 refine Ac <| Ag <| Ai fun ds => Aa rfl (Af Ad) ?_
 refine Ah <| Ac <| Ag <| Ag <| Ai fun ds => Aa rfl (Af Ad) ?_
 refine Ah <| Ac <| A0 <| Bv [10, 11, 19, 20, 21, 22, 23, 24, 25, 26, 27, 28, 29, 30, 31, 32, 33, 34, 35, 36, 37, 38, 39, 40, 41, 42, 43, 44, 45, 46, 47, 48, 49, 50, 51] (fun m e σ => ∃ q : Nat, m + q = (ownL s l x).length ∧ e 11 = .int .i64 (q : Int) ∧ e 10 = .int .i64 (savesTo s (ownL s l x) x o q) ∧ σ = ⟨F3, [(b1, bx 25 [vp, ve])]⟩) ((ownL s l x).length) ?_ ?_
 · exact ⟨0, by omega, (Ab), (Ak rfl <| Ab), rfl⟩
 ·
  rintro m e _ ⟨q, hm, hs11, hs10, rfl⟩
  by_cases hlq : q < (ownL s l x).length
  ·
   have hpn : (ownL s l x)[q] < s.places.length := selN_lt _ (List.getElem_mem hlq)
   have hpk : (ownL s l x)[q] < (s.ed o).rd.length := by rw [hv.rdl o (by omega)]; exact hpn
   have hpx : (ownL s l x)[q] < (s.ed x).rd.length := by rw [hv.rdl x (by omega)]; exact hpn
   have er1 := Cu hpk
   have er2 := Cu hpx
   have hsb := Dv (s := s) (own := (ownL s l x)) (x := x) (o := o) (k := q)
   refine Ag <| Ag <| Ai fun ds => Aa rfl (Ae (At rfl hs11)) ?_
   refine Aa rfl (Ae (Ak rfl <| Al rfl <| Ar rfl <| Ab)) ?_
   refine Aa rfl (Bl Bd (Ab) hap.plain) ?_
   refine Aa rfl (Bw (Ar rfl <| Ab) (Ab)) ?_
   refine Ah <| Ac <| As (Ab) (by first | rfl | exact decide_eq_true (by omega)) ?_
   by_cases hsh : sharedB s x o (ownL s l x)[q] = true
   ·
    refine Ay <| Ac <| Ag <| A0 <| Ag <| Cn (.inl rfl) (fun _ _ h => h) (by kernel_rfl) (by kernel_rfl) fun ds => ?_
    refine A4 rfl (Am Bq (Aw rfl <| Al rfl <| A8 rfl <| Ar rfl <| Ak rfl <| Ab)) ?_
    refine A4 rfl (Ao By (Ab) (Cell.own 0 rfl rfl)) ?_
    refine A4 rfl (Ae (Aw rfl <| Ar rfl <| Al rfl <| A8 rfl <| Aw rfl <| Aj rfl)) ?_
    refine A4 rfl (A6 (k := o) B3 (Ak rfl <| Ab) hr.eds.plain (Ab) rfl hop) ?_
    refine A4 rfl (Bm B2 (Ab)) ?_
    refine A4 rfl (Ao B8 (Ab) (hr.eds.cell hop rfl)) ?_
    refine A4 rfl (Ae (A8 rfl <| Ar rfl <| Al rfl <| Ar rfl <| Ab)) ?_
    refine A4 rfl (Ae (A8 rfl <| Ar rfl <| Ak rfl <| At rfl hs11)) ?_
    refine A4 rfl (A6 (k := q) Bd (Ak rfl <| Ab) hap.plain (Ab) rfl hlq) ?_
    refine A4 rfl (Ao Bj (Ab) (hap.cell1 hlq rfl)) ?_
    refine A4 rfl (A6 (k := (ownL s l x)[q]) Bd (Aw rfl <| Ab) hro.plain (Ab) rfl hpk) ?_
    refine A4 rfl (Ao Bj (Ab) (hro.cell1 hpk rfl)) ?_
    refine A4 rfl (Am Bq (A2 rfl <| Al rfl <| A8 rfl <| Ar rfl <| Ak rfl <| Ab)) ?_
    refine A4 rfl (Ao By (Ab) (Cell.own 0 rfl rfl)) ?_
    refine A4 rfl (Ae (A2 rfl <| Ar rfl <| Al rfl <| A8 rfl <| Aw rfl <| Aj rfl)) ?_
    refine A4 rfl (A6 (k := x) B3 (Ak rfl <| Ab) hr.eds.plain (Ab) rfl hxp) ?_
    refine A4 rfl (Bm B2 (Ab)) ?_
    refine A4 rfl (Ao B8 (Ab) (hr.eds.cell hxp rfl)) ?_
    refine A4 rfl (Ae (A2 rfl <| Aw rfl <| Ar rfl <| Al rfl <| Ar rfl <| Ab)) ?_
    refine A4 rfl (Ae (A2 rfl <| Aw rfl <| Ar rfl <| Ak rfl <| At rfl hs11)) ?_
    refine A4 rfl (A6 (k := q) Bd (Ak rfl <| Ab) hap.plain (Ab) rfl hlq) ?_
    refine A4 rfl (Ao Bj (Ab) (hap.cell1 hlq rfl)) ?_
    refine A4 rfl (A6 (k := (ownL s l x)[q]) Bd (Aw rfl <| Ab) hrx.plain (Ab) rfl hpx) ?_
    refine A4 rfl (Ao Bj (Ab) (hrx.cell1 hpx rfl)) ?_
    refine A4 rfl (Bz (A8 rfl <| Aw rfl <| Ab) (Ab)) ?_
    refine C0 ?_
    refine Ac <| As (Ab) (by rw [er1, er2]; exact hsh) ?_
    refine Ai fun ds => Aa rfl (Ae (A2 rfl <| A8 rfl <| Aw rfl <| Ak rfl <| At rfl hs10)) ?_
    refine Aa rfl (Bx (Ab) Ad rfl (by omega) (by omega)) ?_
    refine Aa rfl (Af (Ab)) ?_
    refine Ah <| Bf <| Ac <| Ai fun ds => Aa rfl (Ae (Ba rfl <| At rfl hs11)) ?_
    refine Aa rfl (Bx (Ab) Ad rfl (by omega) (by omega)) ?_
    refine Aa rfl (Af (Ab)) ?_
    refine Ah <| Ac ⟨_, m - 1, Off.eq (ou32 rfl <| ou2 rfl <| D0 rfl <| Bi), by omega, ?_⟩
    exact ⟨q + 1, by omega, (Ab), ((Ar rfl <| Ak rfl <| Ab)).trans (by rw [Dg hlq, if_pos hsh]), rfl⟩
   ·
    replace hsh : sharedB s x o (ownL s l x)[q] = false := by simpa using hsh
    refine Ay <| Ac <| Ag <| A0 <| Ag <| Cn (.inl rfl) (fun _ _ h => h) (by kernel_rfl) (by kernel_rfl) fun ds => ?_
    refine A4 rfl (Am Bq (Aw rfl <| Al rfl <| A8 rfl <| Ar rfl <| Ak rfl <| Ab)) ?_
    refine A4 rfl (Ao By (Ab) (Cell.own 0 rfl rfl)) ?_
    refine A4 rfl (Ae (Aw rfl <| Ar rfl <| Al rfl <| A8 rfl <| Aw rfl <| Aj rfl)) ?_
    refine A4 rfl (A6 (k := o) B3 (Ak rfl <| Ab) hr.eds.plain (Ab) rfl hop) ?_
    refine A4 rfl (Bm B2 (Ab)) ?_
    refine A4 rfl (Ao B8 (Ab) (hr.eds.cell hop rfl)) ?_
    refine A4 rfl (Ae (A8 rfl <| Ar rfl <| Al rfl <| Ar rfl <| Ab)) ?_
    refine A4 rfl (Ae (A8 rfl <| Ar rfl <| Ak rfl <| At rfl hs11)) ?_
    refine A4 rfl (A6 (k := q) Bd (Ak rfl <| Ab) hap.plain (Ab) rfl hlq) ?_
    refine A4 rfl (Ao Bj (Ab) (hap.cell1 hlq rfl)) ?_
    refine A4 rfl (A6 (k := (ownL s l x)[q]) Bd (Aw rfl <| Ab) hro.plain (Ab) rfl hpk) ?_
    refine A4 rfl (Ao Bj (Ab) (hro.cell1 hpk rfl)) ?_
    refine A4 rfl (Am Bq (A2 rfl <| Al rfl <| A8 rfl <| Ar rfl <| Ak rfl <| Ab)) ?_
    refine A4 rfl (Ao By (Ab) (Cell.own 0 rfl rfl)) ?_
    refine A4 rfl (Ae (A2 rfl <| Ar rfl <| Al rfl <| A8 rfl <| Aw rfl <| Aj rfl)) ?_
    refine A4 rfl (A6 (k := x) B3 (Ak rfl <| Ab) hr.eds.plain (Ab) rfl hxp) ?_
    refine A4 rfl (Bm B2 (Ab)) ?_
    refine A4 rfl (Ao B8 (Ab) (hr.eds.cell hxp rfl)) ?_
    refine A4 rfl (Ae (A2 rfl <| Aw rfl <| Ar rfl <| Al rfl <| Ar rfl <| Ab)) ?_
    refine A4 rfl (Ae (A2 rfl <| Aw rfl <| Ar rfl <| Ak rfl <| At rfl hs11)) ?_
    refine A4 rfl (A6 (k := q) Bd (Ak rfl <| Ab) hap.plain (Ab) rfl hlq) ?_
    refine A4 rfl (Ao Bj (Ab) (hap.cell1 hlq rfl)) ?_
    refine A4 rfl (A6 (k := (ownL s l x)[q]) Bd (Aw rfl <| Ab) hrx.plain (Ab) rfl hpx) ?_
    refine A4 rfl (Ao Bj (Ab) (hrx.cell1 hpx rfl)) ?_
    refine A4 rfl (Bz (A8 rfl <| Aw rfl <| Ab) (Ab)) ?_
    refine C0 ?_
    refine Ac <| Ap (Ab) (by rw [er1, er2]; exact hsh) ?_
    refine Ay <| Bf <| Ac <| Ai fun ds => Aa rfl (Ae (A2 rfl <| A8 rfl <| Aw rfl <| Ak rfl <| At rfl hs11)) ?_
    refine Aa rfl (Bx (Ab) Ad rfl (by omega) (by omega)) ?_
    refine Aa rfl (Af (Ab)) ?_
    refine Ah <| Ac ⟨_, m - 1, Off.eq (ou32 rfl <| Bi), by omega, ?_⟩
    exact ⟨q + 1, by omega, (Ab), ((Ba rfl <| At rfl hs10)).trans (by rw [Dg hlq, if_neg (by rw [hsh]; simp)]), rfl⟩
  ·
   refine Ag <| Ag <| Ai fun ds => Aa rfl (Ae (At rfl hs11)) ?_
   refine Aa rfl (Ae (Ak rfl <| Al rfl <| Ar rfl <| Ab)) ?_
   refine Aa rfl (Bl Bd (Ab) hap.plain) ?_
   refine Aa rfl (Bw (Ar rfl <| Ab) (Ab)) ?_
   refine Ah <| Ac <| Ap (Ab) (by first | rfl | exact decide_eq_false (by omega)) ?_
   obtain rfl : q = (ownL s l x).length := by omega
   refine Bs ?_
   refine Bh <| Bh <| Bk <| Ac <| Ag <| Ai fun ds => Aa rfl (Ae (Aw rfl <| At rfl hs10)) ?_
   refine Aa rfl (Af (Ab)) ?_
   refine Ah <| Ac <| A7 <| Ax rfl (.tmp (Ab) .nil) ?_
   show _ = _
   rw [C6]; rfl
end Go.Proofs.Ytccogmkhijgelaa
